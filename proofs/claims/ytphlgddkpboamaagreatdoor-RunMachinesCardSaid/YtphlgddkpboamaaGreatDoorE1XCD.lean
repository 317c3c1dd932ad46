/- Steps of the proof of the theorem in the last file. -/
import Derived.Test.YtphlgddkpboamaaGreatDoorE0XCD
set_option linter.all false
set_option maxHeartbeats 4000000
open Go.Proofs.Tryz
open Nat renaming le_trans -> aa,le_refl -> ak,zero_le -> ar,mul_pos -> ay,pow_pos -> aE,pow_le_pow_right -> aF,mul_le_mul_right -> aG,le_mul_of_pos_left -> aM,dvd_mul_right -> aR,mul_pow -> aS,zero_add -> bz,le_mul_of_pos_right -> bD,succ_mul -> bF,pow_dvd_pow -> bJ,add_le_add_right -> bN,mul_le_mul_left -> bO,dvd_trans -> bP,le_of_lt -> bU,le_add_right -> bW,dvd_mul_left -> bY,pow_one -> bZ,mul_dvd_mul -> ep,mul_le_mul -> eB,mul_assoc -> eF,mul_comm -> eG,one_pos -> eQ,le_antisymm -> eY,zero_mul -> fe,dvd_refl -> ff,pow_mul -> fh,mul_one -> fi
open Go.Value renaming bool -> ae,int -> ai
open List renaming replicate -> af,length_set -> ah,take_succ_cons -> ao,drop_succ_cons -> aq,range -> au,length_map -> ax,take_zero -> aA,take_of_length_le -> aB,length_append -> aC,drop_zero -> aD,append_nil -> aQ,length_cons -> aT,sublist_append_right -> aV,mem_map_of_mem -> aW,getElem_of_mem -> aX,map_append -> aY,getElem_replicate -> ba,getElem?_toArray -> bh,length_take -> bj,countP_eq_length_filter -> bw,drop_eq_getElem_cons -> bA,getElem?_eq_getElem -> bB,range_zero -> bH,countP_le_length -> bK,mem_append_left -> bL,mem_cons_self -> bQ,set_set -> bS,take_length -> bV,length_nil -> ee,take_sublist_take_left -> er,perm_append_comm_assoc -> eu,set_eq_of_length_le -> eE,take_append_drop -> eH,getElem?_eq_none -> eI,mem_of_mem_take -> eN,mem_of_mem_drop -> eO,mem_cons_of_mem -> eP,getElem?_map -> eT,getElem_mem -> eU,range_succ -> eW,countP_map -> eX,map_map -> fb
open Int renaming le_refl -> aj,natAbs_natCast -> aZ,mul_le_mul_of_nonneg_left -> bm,le_trans -> bI,natCast_mul -> ew,natAbs_mul -> eD,mul_nonneg -> eZ,add_zero -> fg
open Go.DataW renaming trod -> aH,trod_struct -> eR
open List.cons renaming inj -> aK
open Bool renaming and_assoc -> bg,and_eq_true -> eV
open List.Sublist renaming append_left -> bT,refl -> eC
open Rat renaming divInt -> ey,divInt_mul_divInt -> eM
namespace Go.Proofs.YtphlgddkpboamaaGreatDoor
variable{u:Xi}{f:Lf}{us:List Xi}{w:World}{F F':Gs}{α:Type}{a b s sh x:Int}{G N c i j k z:Nat}{V:Nat->Int}{D R:List Int}{q:Rat}{cs:List Value}
open Go.RowKit Ig
def c0E(p:YB):Int:=if p.sh<1\/p.sh>100 then 3 else if p.ul.length>96 then 5 else 0
def c2E(p:YB):Int:=if p.ol.length>24 then 5 else if p.ol.any (Md p.sh)=true then 10 else if YJ p.ul>24 then 5 else 0
def Bf(p:YB):Vo p=if c0E p≠0 then c0E p else if JB (p.ul.map (VU p.sh))≠0 then JB (p.ul.map (VU p.sh))else if c2E p≠0 then c2E p else if Ab p.sh p.ul=true then 19 else
  if(ZY p.ul).length<p.ul.length then 18 else if p.ul.any (WW p.sh p.ul)=true then 30 else 0:=by
 unfold Vo c0E c2E;by_cases h1:p.sh<1\/p.sh>100
 ·simp only[if_pos h1];rfl
 by_cases h2:p.ul.length>96
 ·simp only[if_neg h1,if_pos h2];rfl
 simp only[if_neg h1,if_neg h2];by_cases h3:JB (p.ul.map (VU p.sh))=0
 ·by_cases h4:p.ol.length>24
  ·simp only[if_pos h4,h3];rfl
  by_cases h5:p.ol.any (Md p.sh)=true
  ·simp only[if_neg h4,if_pos h5,h3];rfl
  by_cases h6:YJ p.ul>24
  ·simp only[if_neg h4,if_neg h5,if_pos h6,h3];rfl
  simp only[if_neg h4,if_neg h5,if_neg h6,h3];rfl
 simp only[if_pos h3,show ¬((0:Int)≠0)from λh=>h rfl,if_false]
def QKr{p:YB}{bb:Bool}(hb:bb=true)(h:p.sh<1){x:Int}:JB [if bb=true then 3 else 0,x]=c0E p:=by
 unfold c0E;rw[if_pos hb,if_pos (Or.inl h)];rfl
def QKq{p:YB}{bb:Bool}(hb:bb=decide (p.sh>100))(h:¬p.sh<1)(hn:p.ul.length=p.un.n):JB [if bb=true then 3 else 0,if decide ((p.un.n:Int)>96)=true then 5 else 0]=c0E p:=by
 unfold c0E;by_cases g:p.sh>100
 ·rw[if_pos (by rw[hb];exact decide_eq_true g),if_pos (Or.inr g)];rfl
 rw[if_neg (show ¬bb=true by rw[hb];simpa using g),if_neg (show ¬(p.sh<1\/p.sh>100) by omega)];by_cases g2:p.ul.length>96
 ·rw[if_pos g2,if_pos (decide_eq_true O)];rfl
 rw[if_neg g2,if_neg wy];rfl
def QKp{p:YB}(hn:p.ol.length=p.ot.n):JB [if decide ((p.ot.n:Int)>24)=true then 5 else 0,if p.ol.any (Md p.sh)=true then 10 else 0,if decide ((YJ p.ul:Int)>24)=true then 5 else 0]=c2E p:=by
 unfold c2E;by_cases g:p.ol.length>24
 ·rw[if_pos (decide_eq_true O),if_pos g];rfl
 rw[if_neg wy,if_neg g];by_cases g2:p.ol.any (Md p.sh)=true
 ·rw[if_pos g2,if_pos g2];rfl
 rw[if_neg g2,if_neg g2];by_cases g3:YJ p.ul>24
 ·rw[if_pos (decide_eq_true O),if_pos g3];rfl
 rw[if_neg wy,if_neg g3];rfl
def TE{st:List UInt8}(h:JO st=0)(r:Rat):(st != Q8 r)=!decide (r=J4 st):=by
 have e:=(ZR h).1;by_cases g:r=J4 st
 ·rw[decide_eq_true g,g,<-e];simp
 rw[decide_eq_false g];have:st≠Q8 r:=λh=>g (by rw[h,Ix]);simpa using this
def QDy(h:f∈K6 u):f∈u.fl:=by
 unfold K6 at h;split at h
 ·exact eO h
 exact h
def QEP{xs:List (Fr×Rat)}{l:List (List UInt8)}(h:xs.map (·.2)=l.map J4){k:Nat}(hk:k<l.length):k<xs.length/\(el xs k).2=J4 (el l k):=by
 have hl:=congrArg List.length h;rw[ax,ax]at hl;have e:=congrArg (λl=>l[k]?) h;simp only[eT]at e;rw[bB hk,bB (show k<xs.length by omega)]at e;rw[ZH (show k<xs.length by omega),ZH hk];exact⟨O,Option.some.inj e⟩
def QGC(h:C4 us=false):(ZY us).length<us.length:=by
 have h1:=QLs h;have:=(jY us).le;omega
def QGB(h:C4 us=true):¬(ZY us).length<us.length:=by
 have h1:=QLr h;omega
theorem C3{p:YB}(hF:Fits F w)(hGl:Ka F)(hP:GR F p)(hL:QC8 p):Qi prog 42 [p.v] w F (.int .i64 (Vo p)):=by
 have Ax:=hP.Mf;have hol:=hP.QGG;have hun:=hL.un;have hot:=hL.ot;refine QS.go (G:=λF=>Ka F/\GR F p) func42 hF ⟨hGl,hP⟩ ?_;refine QLF<|Q9 I (vs:=[_,_,_]) I λb1=>wR I<|QG<|JN (b:=b1) .here ?_
 refine Xq [(1,_)] [(3,.int .i64 (c0E p))] wT ?_ ?_
 ·refine JE QKK mixed wj<|QJ (QH I K9 QY)<|QJ (QW 0 w9 rfl QY I)<|QJ (QP I I I)<|QJ (QC I) ?_
  refine KH (t:=20) rfl (λhb20=>?_) λhb20=>?_
  ·obtain⟨bb,hbb⟩:∃bb:Bool,bb=true:=⟨_,rfl⟩;refine Q7 I I I<|Q7 I I I<|Q7 I I I<|QJ (QR I I I)<|QZ I (λ_ _ f k=>S9 (b':=bb) f hbb.symm) λ_=>QJ (QH I XP Jf)<|QJ (QW 1 w9 rfl Jf I)<|QJ (Qc I Xk)<|QJ (QP I I I)<|QZ I (λ_ _ f k=>Bt f) λ_=>?_
   refine XU I (J2 GL) DY Ia I I (λb31=>?_) (λw h=>h.imp .slnil λF h=>h.1.1);refine QZ I (λ_ _ f k=>EN (l:=[if bb=true then 3 else 0,if decide ((p.un.n:Int)>96)=true then 5 else 0]) f (JC.of k.2 I) wk) (λ_=>QJ (QE I)<|Qy ?_);exact Jc ⟨rfl,(congrArg (λz:Int=>some (ai .i64 z)) (by exact QKr hbb (QLr hb20))),trivial⟩ QKK λ_ h=>h.1.1.1.1
  obtain⟨bb,hbb⟩:∃bb:Bool,bb=decide (p.sh>100):=⟨_,rfl⟩;refine JA I I<|QJ (QH I K9 QY)<|JA I I<|QJ (QW 0 w9 rfl QY I)<|JA I I<|QJ (QP I I I)<|QJ (QT I I I)<|QZ I (λ_ _ f k=>S9 (b':=bb) f hbb.symm) λ_=>QJ (QH I XP Jf)<|QJ (QW 1 w9 rfl Jf I)<|QJ (Qc I Xk)<|QJ (QP I I I)<|QZ I (λ_ _ f k=>Bt f) λ_=>?_
  refine XU I (J2 GL) DY Ia I I (λb31=>?_) (λw h=>h.imp .slnil λF h=>h.1.1);refine QZ I (λ_ _ f k=>EN (l:=[if bb=true then 3 else 0,if decide ((p.un.n:Int)>96)=true then 5 else 0]) f (JC.of k.2 I) wk) (λ_=>QJ (QE I)<|Qy ?_);exact Jc ⟨rfl,(congrArg (λz:Int=>some (ai .i64 z)) (by exact QKq hbb (QLs hb20) Ax)),trivial⟩ QKK λ_ h=>h.1.1.1.1
 refine wA 6 I ?_;refine QO I (λhc2=>?_) λhc2=>?_
 ·have h0:c0E p≠0:=by simpa using hc2
  refine wA 7 I ?_;exact QMn I I (congrArg (ai .i64) (by rw[Bf,if_pos h0])) wz
 have h0:c0E p=0:=by simpa using hc2
 have hsh:1<=p.sh/\p.sh<=1000000:=by unfold c0E at h0;split at h0;cases h0;omega
 refine QMX 5 I<|QA (QH I XP Jf)<|QA (QW 1 w9 rfl Jf I)<|QA (Qc I Xk)<|QMW 4 I<|Jt (ι:=Ya p.ul (VU p.sh)) [(1,_),(37,_),(38,_)] (λi=>[(39,.int .i64 ((i.i:Nat):Int))]) (λi=>p.ul.length-i.i) (Ya.start _ _) wV wT λi=>?_
 have hi:=i.le;refine wA 6 I ?_;refine QO I (λhc2=>?_) λhc2=>?_
 ·have hlt:i.i<p.ul.length:=wi<|QLr hc2
  refine QMX 6 I<|QA (Qo (n:=p.un.n) i.i (λF h9=>h9.1.2.un) rfl rfl Xk XJ O)<|QA (XE (n:=p.un.n) (vs:=[tx (el p.ul i.i).kd,.slice (el p.ul i.i).fd.q (el p.ul i.i).fd.n (el p.ul i.i).fd.cap,Qs ((el p.ul i.i).ou),tx (el p.ul i.i).st,.slice (el p.ul i.i).cv.q (el p.ul i.i).cv.n (el p.ul i.i).cv.cap]) ((i.i)*5) (λF h9=>h9.1.2.un) O rfl XJ I λj v hv=>JR (f:=MR) (l:=p.ul) ZI O hv)<|Qk TM λb5=>QV (vs:=[_,_,_,_,_]) I I I XJ I .here .h5 wX<|QJl<|QLF<|QA (Jj w9 rfl ZL I)<|QA (Qh (vs:=[_,_,_,_,_]) I XJ .here .h5 rfl)<|QL I (λ_ _ f k=>C2 f k.1.1 (k.1.2.us _ (Q2 hlt)) (hL.us _ (Q2 hlt))) λ_=>QMW 9 I ?_
  refine QO I (λhc2=>?_) λhc2=>?_
  ·have h47:VU p.sh (el p.ul i.i)≠0:=by simpa using hc2
   refine wA 6 I<|ZS ?_
   exact QMn I I (congrArg (ai .i64) (by rw[Bf,if_neg (Classical.not_not.2 h0),if_pos (by rw[i.hit hlt h47];exact h47)];exact i.hit hlt h47)) wz
  have h47:VU p.sh (el p.ul i.i)=0:=by simpa using hc2
  refine QN<|Qg<|QD<|QB<|QA (Qn I I O)<|wB 2 I ?_
  exact Qj (i.next hlt h47) (by show p.ul.length-(i.i+1)<p.ul.length-i.i;omega) wW ((.cons _ QKK)) w8
 have hge:p.ul.length<=i.i:=wi<|QLs hc2
 have h3:=i.stop hge;have hUO:∀u∈p.ul,G3 p.sh u:=λu hu=>Lk (HK h3 _ (aW hu));refine JK ?_;refine QLF<|QA (QH I US Qu)<|QA (QW 2 w9 rfl Qu I)<|QA (Et I)<|QL I (λw F g k=>uQ (f:=96) (c1:=[]) (c2:=[.pointer (some ⟨b1,0,none⟩)]) (p:=Md p.sh) (G0:=λF=>F b1=some (#[Qs p.sh,.slice p.un.q p.un.n p.un.cap,.slice p.ot.q p.ot.n p.ot.cap],25)) g (λ_ _ hle h=>hle _ _ h) k.2 k.1.2.ot hol hot λe he w F g h=>QDk g h) λ_=>QMW 5 I<|JE QKK mixed wj<|QJ (QH I US Qu)<|QJ (QW 2 (λF h9=>h9.1.2) rfl Qu I)<|QJ (Qc I Qd)<|QJ (QP I I I)<|QZ I (λ_ _ f k=>Bt f) λ_=>QJ (QC I)<|QZ I (λ_ _ f k=>Bt f) λ_=>QJ (Jj (λF h9=>h9.1.2) rfl ZL I)<|QZ I (λ_ _ f k=>cF f k.1.1.1.1.2 O) λ_=>QJ (QP I I I)<|QZ I (λ_ _ f k=>Bt f) λ_=>?_
 refine XU I (J2 GL) DY Ia I I (λb65=>?_) (λw h=>h.imp .slnil λF h=>h.1.1.1.1);refine QZ I (λ_ _ f k=>EN (l:=[if decide ((p.ot.n:Int)>24)=true then 5 else 0,if p.ol.any (Md p.sh)=true then 10 else 0,if decide ((YJ p.ul:Int)>24)=true then 5 else 0]) f (JC.of k.2 I) wk) (λ_=>?_);rw[QKp hol];refine QJ (QE I)<|Qy<|QMY 7 I ?_
 refine QO I (λhc2=>?_) λhc2=>?_
 ·have h8:c2E p≠0:=by simpa using hc2
  refine wA 7 I ?_;exact QMn I I (congrArg (ai .i64) (by rw[Bf,if_neg (Classical.not_not.2 h0),if_neg (Classical.not_not.2 h3),if_pos h8])) wz
 have h8:c2E p=0:=by simpa using hc2
 refine QMX 4 I<|QA (Jj (λF h9=>h9.1.1.1.1.1.1.1.2) rfl ZL I)<|QL I (λ_ _ f k=>cy f k.1.1.1.1.1.1.1.1.2 hun hsh λu hu=>(hUO u hu).ou) λc72=>QMW 11 I<|QA (Xv I)<|QF<|QD ?_
 refine QO I (λhc2=>?_) λhc2=>?_
 ·have h7:Ab p.sh p.ul=true:=by simpa using hc2
  refine wA 6 I ?_;exact QMn I I (congrArg (ai .i64) (by rw[Bf,if_neg (Classical.not_not.2 h0),if_neg (Classical.not_not.2 h3),if_neg (Classical.not_not.2 h8),if_pos h7])) wz
 have hdr:Ab p.sh p.ul=false:=by simpa using hc2
 have h7:¬Ab p.sh p.ul=true:=by rw[hdr];decide
 refine ZO _ (λ_ _ f k=>(k.2 hdr).2.1) (λn72=>QMX 5 I<|QA (Jj (λF h9=>h9.1.1.1.1.1.1.1.1.2) rfl ZL I)<|QJm I<|QL I (λ_ _ g k=>QDn (N:=c72.n) g k.1.1.1.1.1.1.1.1.1.2 (by rw[n72];have:=(k.2 hdr).1;rwa [n72]at this) hun (λu hu=>by have h1:=Z0 (hUO u hu);have h2:=(k.1.1.1.1.1.1.1.1.1.2.us _ hu).E9;omega) (λu hu=>(hUO u hu).kd) λu hu f hf=>wi<|((hUO u hu).fd f (QDy hf)).1) λc80=>QMW 10 I<|QA (Xv I)<|QF<|QD ?_);refine QO I (λhc2=>?_) λhc2=>?_
 ·have h18:=QGC (show C4 p.ul=false by simpa using hc2);refine wA 6 I ?_;exact QMn I I (congrArg (ai .i64) (by rw[Bf,if_neg (Classical.not_not.2 h0),if_neg (Classical.not_not.2 h3),if_neg (Classical.not_not.2 h8),if_neg h7,if_pos h18])) wz
 have h18:=QGB (show C4 p.ul=true by simpa using hc2);refine QMX 4 I<|QA (Jj (λF h9=>h9.1.1.1.1.1.1.1.1.1.2) rfl ZL I)<|QL I (λ_ _ f k=>QEg f k.1.1.1.1.1.1.1.1.1.1.1 k.1.1.1.1.1.1.1.1.1.1.2 hun hsh (λu hu=>wi<|(hUO u hu).ou) λu hu=>⟨(hUO u hu).st,(hL.us _ hu).st⟩) λc86=>XA _ (λw F hF ⟨⟨⟨⟨⟨⟨⟨⟨⟨⟨⟨⟨hGl,hP⟩,hz1⟩,_⟩,_⟩,_⟩,_⟩,_⟩,hs65⟩,_⟩,h72⟩,h80⟩,h86⟩=>And.intro h86.2.2.1 h86.2.2.2.1) λn86=>wR rfl<|QG<|QLF<|QA (QH rfl XP Jf)<|QA (QW 1 (λF h9=>h9.1.1.1.1.1.1.1.1.1.1.2) rfl Jf rfl)<|QA (Qc rfl Xk)<|QJm rfl<|QJl<|QQ<|Jt (ι:=WT p.ul (WW p.sh p.ul)) [(13,_),(88,_),(89,_)] (λi5=>[(90,.int .i64 ((i5.i:Nat):Int))]) (λi5=>p.ul.length-i5.i) (WT.start _ _) wV wT λi5=>?_
 have hi5:=i5.le;refine wA 6 I ?_;refine QO I (λhc2=>?_) λhc2=>?_
 ·have hlt5:i5.i<p.ul.length:=wi<|QLr hc2
  refine QMX 6 I<|QA (Qo (n:=p.un.n) (i5.i) (λF h9=>h9.1.1.1.1.1.1.1.1.1.1.1.2.un) rfl rfl Xk XJ O)<|QA (XE (n:=p.un.n) (vs:=[tx (el p.ul (i5.i)).kd,.slice (el p.ul (i5.i)).fd.q (el p.ul (i5.i)).fd.n (el p.ul (i5.i)).fd.cap,Qs ((el p.ul (i5.i)).ou),tx (el p.ul (i5.i)).st,.slice (el p.ul (i5.i)).cv.q (el p.ul (i5.i)).cv.n (el p.ul (i5.i)).cv.cap]) ((i5.i)*5) (λF h9=>h9.1.1.1.1.1.1.1.1.1.1.1.2.un) O rfl XJ I λj v hv=>JR (f:=MR) (l:=p.ul) ZI O hv)<|Qk TM λb15=>QV (vs:=[_,_,_,_,_]) I I I XJ I .here .h5 wX<|QJl<|QLF<|QA (QH I KM Y5)<|QA (Qp I Y5 .here .h1)<|QA (Xc I I)<|QF<|QD ?_
  refine QO I (λhc2=>?_) λhc2=>?_
  ·have hkt:(el p.ul i5.i).kd=K7:=by simpa[K7]using hc2
   have hum:=Q2 hlt5;have huo:=hUO _ hum;have hf1:=(Z0 huo).1;have hff:=(hP.us _ hum).E9;have hfm:=Q2 (show 0<(el p.ul i5.i).fl.length by omega);have hfr:=huo.fd _ hfm;have hsl:=PA p.sh p.ul;have hss:=vM (sh:=p.sh) (λu hu=>(hUO u hu).st) _ (Q2 (show(el (el p.ul i5.i).fl 0).k.toNat<(RF p.sh p.ul).length by omega));have hc13:(el p.ul i5.i).cv.n<=13:=by have:=G6 huo;have:=(hP.us _ hum).Np;omega
   obtain⟨hkx,hke⟩:=QEP n86.1 (show(el (el p.ul i5.i).fl 0).k.toNat<(RF p.sh p.ul).length by omega);have hz1a:=YS hfr.2.1;have hz1b:=YS hss;refine QG<|QCn (r:=[0,1,2,3,4,5,6,7,8,9,10,11,12,13,14,15,16]) tA mixed wj rfl<|Am 0 wj rfl rfl<|QJ (QH I Zz Xd)<|DW<|Am 1 wj rfl rfl<|QJ (Qp I Xd .here (.skip .h1))<|DW<|Am 2 wj rfl rfl<|QJ (Qo (n:=(el p.ul (i5.i)).fd.n) (0) (λF h9=>((h9.1.1.1.1.1.1.1.1.1.1.1.2.us _ (Q2 (show i5.i<p.ul.length from O)))).fd) rfl wN YV Kf O)<|DW<|Am 3 wj rfl rfl<|QJ (QH I BM Ja)<|DW<|Am 4 wj rfl rfl<|QJ (Ql (n:=(el p.ul (i5.i)).fd.n) ((0)*2+1) (λF h9=>((h9.1.1.1.1.1.1.1.1.1.1.1.2.us _ (Q2 (show i5.i<p.ul.length from O)))).fd) O rfl Ja (JR (f:=Uj) (l:=(el p.ul (i5.i)).fl) YT O rfl))<|DW<|Am 6 wj rfl rfl<|QJ (QC I)<|DW<|Am 7 wj rfl rfl<|QJ (QH I Zz Xd)<|DW<|Am 8 wj rfl rfl<|QJ (Qp I Xd .here (.skip .h1))<|DW<|Am 9 wj rfl rfl<|QJ (Qo (n:=(el p.ul (i5.i)).fd.n) (0) (λF h9=>((h9.1.1.1.1.1.1.1.1.1.1.1.2.us _ (Q2 (show i5.i<p.ul.length from O)))).fd) rfl wN YV Kf O)<|DW<|Am 10 wj rfl rfl<|QJ (QH I GQ QY)<|DW<|Am 11 wj rfl rfl<|QJ (Ql (n:=(el p.ul (i5.i)).fd.n) ((0)*2+0) (λF h9=>((h9.1.1.1.1.1.1.1.1.1.1.1.2.us _ (Q2 (show i5.i<p.ul.length from O)))).fd) O rfl QY (JR (f:=Uj) (l:=(el p.ul (i5.i)).fl) YT O rfl))<|DW<|Am 12 wj rfl rfl<|QJ (Qo (n:=c86.1.n) ((el (el p.ul i5.i).fl 0).k.toNat) (λF h9=>h9.2.1) rfl wN RZ Jn O)<|DW<|Am 13 wj rfl rfl<|QJ (XE (n:=c86.1.n) (vs:=[.int .i64 (el c86.2 ((el (el p.ul i5.i).fl 0).k.toNat)).1.n.s,.slice (el c86.2 ((el (el p.ul i5.i).fl 0).k.toNat)).1.n.q (el c86.2 ((el (el p.ul i5.i).fl 0).k.toNat)).1.n.n (el c86.2 ((el (el p.ul i5.i).fl 0).k.toNat)).1.n.cap,.int .i64 (el c86.2 ((el (el p.ul i5.i).fl 0).k.toNat)).1.d.s,.slice (el c86.2 ((el (el p.ul i5.i).fl 0).k.toNat)).1.d.q (el c86.2 ((el (el p.ul i5.i).fl 0).k.toNat)).1.d.n (el c86.2 ((el (el p.ul i5.i).fl 0).k.toNat)).1.d.cap]) (((el (el p.ul i5.i).fl 0).k.toNat)*4) (λF h9=>h9.2.1) O rfl Jn I λj v hv=>JR (f:=(λe=>Cv e.1)) (l:=c86.2) (λ_=>rfl) O hv)<|DW ?_
   refine QCr 5 15 wj wj rfl rfl rfl rfl rfl rfl ?_ ?_
   ·refine QZ I (λ_ _ f k=>Pm (r:=J4 (el (el p.ul i5.i).fl 0).r) f k.1.1.1.1.1.1.1.1.1.1.1.1 (ZR hfr.2.1).1 (wi<|(hL.us _ hum).fr _ hfm)) (λc102=>DW ?_);refine QCr 14 15 wj wj rfl rfl rfl rfl rfl rfl ?_ ?_
    ·refine QZ I (λ_ _ f k=>Fy f k.2 (k.1.2.2.1.el hkx) O (by rw[hke];omega)) (λc111=>?_);rw[hke];refine DW<|IY 15 wj wj rfl rfl rfl<|Gh VA λb16=>DW<|IY 16 wj wj rfl rfl rfl<|Jx (vs:=[_,_,_,_]) I I I Jn I .here tA (λ_ h=>h.1.1) .h4 wW<|DW<|Le<|QD<|QG<|JE QKK mixed wj<|QJ (QH I Wp Xg)<|QJ (Qp I Xg .u1 (.skip (.skip (.skip (.skip .h1)))))<|QJ (wJ I Jn .here)<|QZ I (λ_ _ f h=>FT f h.1.1.1.1.1.1.1.1.1.1.1.1.1.1 (h.1.1.1.1.1.1.1.1.1.1.1.1.1.2.us _ hum).cv h.2 (h.1.1.1.1.1.1.1.1.1.1.1.1.1.2.us _ hum).Np hc13 (by have h1:=W3 (J4 (el (el p.ul i5.i).fl 0).r) (J4 (el (RF p.sh p.ul) (el (el p.ul i5.i).fl 0).k.toNat));omega) huo.cv (hL.us _ hum).ca) λc115=>QJ (QH I BN Ja)<|QJ (Qp I Ja .u1 (.skip (.skip (.skip .h1))))<|QZ I (λ_ _ f k=>Pm (r:=J4 (el p.ul i5.i).st) f k.1.1.1.1.1.1.1.1.1.1.1.1.1.1.1 (ZR huo.st).1 (wi<|(hL.us _ hum).st)) λc118=>QZ I (λ_ _ f h=>j6 f h.1.2 h.2 (by have:=S6 (x:=J4 (el (el p.ul i5.i).fl 0).r*J4 (el (RF p.sh p.ul) (el (el p.ul i5.i).fl 0).k.toNat)) (by have h1:=W3 (J4 (el (el p.ul i5.i).fl 0).r) (J4 (el (RF p.sh p.ul) (el (el p.ul i5.i).fl 0).k.toNat));omega) huo.cv;have:=(h.1.1.1.1.1.1.1.1.1.1.1.1.1.1.1.2.us _ hum).Np;omega) (wi<|YS huo.st)) λ_=>QJ (Xv I)<|Qy<|QD ?_
     refine QO I (λhc2=>?_) λhc2=>?_
     ·have hcon:WW p.sh p.ul (el p.ul i5.i)=true:=by unfold WW;rw[hkt,TE huo.st];exact hc2
      refine wA 5 I<|ZS ?_
      exact QMn I I (congrArg (ai .i64) (by rw[Bf,if_neg (Classical.not_not.2 h0),if_neg (Classical.not_not.2 h3),if_neg (Classical.not_not.2 h8),if_neg h7,if_neg h18];first | exact if_pos (i5.hit hlt5 hcon) | exact if_neg (i5.stop hge5))) wz
     have hncon:WW p.sh p.ul (el p.ul i5.i)=false:=by unfold WW;rw[hkt,TE huo.st];exact hc2
     refine QN<|Qg<|QD<|QB<|QA (Qn I I O)<|wB 2 I ?_
     exact Qj (i5.next hlt5 hncon) (by show p.ul.length-(i5.i+1)<p.ul.length-i5.i;omega) wW (tB) λF h=>h.1.1.1.1.1
    refine Gh VA (λb16=>DW<|IY 14 wj wj rfl rfl rfl<|QZ I (λ_ _ f k=>Fy f k.2 (k.1.2.2.1.el hkx) O (by rw[hke];omega)) λc111=>?_);rw[hke];refine DW<|IY 16 wj wj rfl rfl rfl<|Jx (vs:=[_,_,_,_]) I I I Jn I .here tA (λ_ h=>h.1.1) .h4 wW<|DW<|Le<|QD<|QG<|JE QKK mixed wj<|QJ (QH I Wp Xg)<|QJ (Qp I Xg .u1 (.skip (.skip (.skip (.skip .h1)))))<|QJ (wJ I Jn .here)<|QZ I (λ_ _ f h=>FT f h.1.1.1.1.1.1.1.1.1.1.1.1.1.1 (h.1.1.1.1.1.1.1.1.1.1.1.1.1.2.us _ hum).cv h.2 (h.1.1.1.1.1.1.1.1.1.1.1.1.1.2.us _ hum).Np hc13 (by have h1:=W3 (J4 (el (el p.ul i5.i).fl 0).r) (J4 (el (RF p.sh p.ul) (el (el p.ul i5.i).fl 0).k.toNat));omega) huo.cv (hL.us _ hum).ca) λc115=>QJ (QH I BN Ja)<|QJ (Qp I Ja .u1 (.skip (.skip (.skip .h1))))<|QZ I (λ_ _ f k=>Pm (r:=J4 (el p.ul i5.i).st) f k.1.1.1.1.1.1.1.1.1.1.1.1.1.1.1 (ZR huo.st).1 (wi<|(hL.us _ hum).st)) λc118=>QZ I (λ_ _ f h=>j6 f h.1.2 h.2 (by have:=S6 (x:=J4 (el (el p.ul i5.i).fl 0).r*J4 (el (RF p.sh p.ul) (el (el p.ul i5.i).fl 0).k.toNat)) (by have h1:=W3 (J4 (el (el p.ul i5.i).fl 0).r) (J4 (el (RF p.sh p.ul) (el (el p.ul i5.i).fl 0).k.toNat));omega) huo.cv;have:=(h.1.1.1.1.1.1.1.1.1.1.1.1.1.1.1.2.us _ hum).Np;omega) (wi<|YS huo.st)) λ_=>QJ (Xv I)<|Qy<|QD ?_
    refine QO I (λhc2=>?_) λhc2=>?_
    ·have hcon:WW p.sh p.ul (el p.ul i5.i)=true:=by unfold WW;rw[hkt,TE huo.st];exact hc2
     refine wA 5 I<|ZS ?_
     exact QMn I I (congrArg (ai .i64) (by rw[Bf,if_neg (Classical.not_not.2 h0),if_neg (Classical.not_not.2 h3),if_neg (Classical.not_not.2 h8),if_neg h7,if_neg h18];first | exact if_pos (i5.hit hlt5 hcon) | exact if_neg (i5.stop hge5))) wz
    have hncon:WW p.sh p.ul (el p.ul i5.i)=false:=by unfold WW;rw[hkt,TE huo.st];exact hc2
    refine QN<|Qg<|QD<|QB<|QA (Qn I I O)<|wB 2 I ?_
    exact Qj (i5.next hlt5 hncon) (by show p.ul.length-(i5.i+1)<p.ul.length-i5.i;omega) wW (tB) λF h=>h.1.1.1.1.1
   refine Gh VA (λb16=>DW<|IY 5 wj wj rfl rfl rfl<|QZ I (λ_ _ f k=>Pm (r:=J4 (el (el p.ul i5.i).fl 0).r) f k.1.1.1.1.1.1.1.1.1.1.1.1 (ZR hfr.2.1).1 (wi<|(hL.us _ hum).fr _ hfm)) λc102=>DW<|IY 14 wj wj rfl rfl rfl<|QZ I (λ_ _ f k=>Fy f k.2 (k.1.2.2.1.el hkx) O (by rw[hke];omega)) λc111=>?_);rw[hke];refine DW<|IY 16 wj wj rfl rfl rfl<|Jx (vs:=[_,_,_,_]) I I I Jn I .here tA (λ_ h=>h.1.1) .h4 wW<|DW<|Le<|QD<|QG<|JE QKK mixed wj<|QJ (QH I Wp Xg)<|QJ (Qp I Xg .u1 (.skip (.skip (.skip (.skip .h1)))))<|QJ (wJ I Jn .here)<|QZ I (λ_ _ f h=>FT f h.1.1.1.1.1.1.1.1.1.1.1.1.1.1 (h.1.1.1.1.1.1.1.1.1.1.1.1.1.2.us _ hum).cv h.2 (h.1.1.1.1.1.1.1.1.1.1.1.1.1.2.us _ hum).Np hc13 (by have h1:=W3 (J4 (el (el p.ul i5.i).fl 0).r) (J4 (el (RF p.sh p.ul) (el (el p.ul i5.i).fl 0).k.toNat));omega) huo.cv (hL.us _ hum).ca) λc115=>QJ (QH I BN Ja)<|QJ (Qp I Ja .u1 (.skip (.skip (.skip .h1))))<|QZ I (λ_ _ f k=>Pm (r:=J4 (el p.ul i5.i).st) f k.1.1.1.1.1.1.1.1.1.1.1.1.1.1.1 (ZR huo.st).1 (wi<|(hL.us _ hum).st)) λc118=>QZ I (λ_ _ f h=>j6 f h.1.2 h.2 (by have:=S6 (x:=J4 (el (el p.ul i5.i).fl 0).r*J4 (el (RF p.sh p.ul) (el (el p.ul i5.i).fl 0).k.toNat)) (by have h1:=W3 (J4 (el (el p.ul i5.i).fl 0).r) (J4 (el (RF p.sh p.ul) (el (el p.ul i5.i).fl 0).k.toNat));omega) huo.cv;have:=(h.1.1.1.1.1.1.1.1.1.1.1.1.1.1.1.2.us _ hum).Np;omega) (wi<|YS huo.st)) λ_=>QJ (Xv I)<|Qy<|QD ?_
   refine QO I (λhc2=>?_) λhc2=>?_
   ·have hcon:WW p.sh p.ul (el p.ul i5.i)=true:=by unfold WW;rw[hkt,TE huo.st];exact hc2
    refine wA 5 I<|ZS ?_
    exact QMn I I (congrArg (ai .i64) (by rw[Bf,if_neg (Classical.not_not.2 h0),if_neg (Classical.not_not.2 h3),if_neg (Classical.not_not.2 h8),if_neg h7,if_neg h18];first | exact if_pos (i5.hit hlt5 hcon) | exact if_neg (i5.stop hge5))) wz
   have hncon:WW p.sh p.ul (el p.ul i5.i)=false:=by unfold WW;rw[hkt,TE huo.st];exact hc2
   refine QN<|Qg<|QD<|QB<|QA (Qn I I O)<|wB 2 I ?_
   exact Qj (i5.next hlt5 hncon) (by show p.ul.length-(i5.i+1)<p.ul.length-i5.i;omega) wW (tB) λF h=>h.1.1.1.1.1
  have hncon:WW p.sh p.ul (el p.ul i5.i)=false:=by unfold WW;rw[show((el p.ul i5.i).kd==K7)=false by simpa[K7]using hc2];rfl
  refine QN<|Qg<|QD<|QB<|QA (Qn I I O)<|wB 2 I ?_
  exact Qj (i5.next hlt5 hncon) (by show p.ul.length-(i5.i+1)<p.ul.length-i5.i;omega) wW (tB) w7
 have hge5:p.ul.length<=i5.i:=wi<|QLs hc2
 refine JK ?_;refine wA 6 I ?_;exact QMn I I (congrArg (ai .i64) (by rw[Bf,if_neg (Classical.not_not.2 h0),if_neg (Classical.not_not.2 h3),if_neg (Classical.not_not.2 h8),if_neg h7,if_neg h18];first | exact if_pos (i5.hit hlt5 hcon) | exact if_neg (i5.stop hge5))) wz
structure APy where
 lost:Int
 Cx:Int
 load:Int
instance :Inhabited APy:=⟨⟨0,0,0⟩⟩
def pyC(f:APy):List Value:=[Qs f.lost,Qs f.Cx,Qs f.load]
def AA(f:APy):(pyC f).length=3:=rfl
structure Mt where
 p:YB
 sc:Sr
 sl:List Int
 QDf:Int
 QEV:Int
 fa:Sr
 fl:List APy
 lg:Sr
 ll:List Int
variable{m:Mt}
@[reducible] def Mt.v (m:Mt):Value:=.agg #[Qs m.p.sh,.slice m.p.un.q m.p.un.n m.p.un.cap,.slice m.p.ot.q m.p.ot.n m.p.ot.cap,.slice m.sc.q m.sc.n m.sc.cap,Qs m.QDf,Qs m.QEV,.slice m.fa.q m.fa.n m.fa.cap,.slice m.lg.q m.lg.n m.lg.cap]
structure BB(F:Gs)(m:Mt):Prop where
 p:GR F m.p
 sc:JC F m.sc.q m.sc.n 1 (m.sl.map Qs)
 fa:JC F m.fa.q m.fa.n 3 (m.fl.flatMap pyC)
 lg:JC F m.lg.q m.lg.n 1 (m.ll.map Qs)
 QFu:m.sl.length=m.sc.n
 E9:m.fl.length=m.fa.n
 QBj:m.ll.length=m.lg.n
def BB.le(h:BB F m)(k:Gs.le F F'):BB F' m:=⟨h.p.le k,h.sc.le k,h.fa.le k,h.lg.le k,h.QFu,h.E9,h.QBj⟩
instance{m:Mt}: Up (λF=>BB F m):=⟨λk h=>BB.le h k⟩
structure QH0(m:Mt):Prop where
 p:QC8 m.p
 sc:m.sc.n<=1000000
 fa:m.fa.n<=1000000
 lg:m.lg.n<=1000000
def N4(n a b:Int):Bool:=decide (n>=a)&&decide (n<=b)
def dA(us:List Xi)(k:Int):Bool:=!(decide (Va us k<0))&&H8 (el us (Va us k).toNat)
def ok4(m:Mt)(i:Nat):Bool:=N4 (el m.sl i) 1 1000000&&N4 (el m.fl i).lost 0 999999999&&N4 (el m.fl i).Cx 0 999&&N4 (el m.fl i).load 0 999999999
def Dh(m:Mt)(i:Nat):Bool:=ok4 m i&&((el m.fl i).Cx==0||dA m.p.ul (i:Nat))
def Oa(m:Mt)(i:Nat):Bool:=N4 (el m.ll i) 0 8&&(el m.ll i==0||(el m.p.ul i).kd==K7)
def Ey(m:Mt):Bool:=N4 m.QDf 1 1000000&&N4 m.QEV 1 999999999
def okM(m:Mt):Bool:=Ey m&&(au m.p.sh.toNat).all (Dh m)&&(au m.ll.length).all (Oa m)
def WV(m:Mt):Int:=if Vo m.p≠0 then Vo m.p else if ¬((m.sl.length:Int)=m.p.sh/\(m.fl.length:Int)=m.p.sh/\m.ll.length=m.p.ul.length)then 2 else if okM m=true then 0 else 3
def YM(f:Nat->Bool)(i:Nat):(au (i+1)).all f=((au i).all f&&f i):=by rw[eW,List.all_append];simp
def OV{p:YB}(h:Vo p=0):1<=p.sh/\p.sh<=100/\p.ul.length<=96:=by
 rw[Bf]at h;by_cases h0:c0E p=0
 ·unfold c0E at h0;split at h0
  ·cases h0
  split at h0
  ·cases h0
  omega
 rw[if_pos h0]at h;exact absurd h h0
structure QEo(u:Xi):Prop where
 fn:u.fd.n<=12
 cn:u.cv.n<=20
 st:u.st.length<=30
 fr:∀f∈u.fl,f.r.length<=30
 ca:∀a∈u.cl,a.length<=30
structure ShM(m:Mt):Prop where
 un:m.p.un.n<=20
 ot:m.p.ot.n<=30
 sc:m.sc.n<=30
 fa:m.fa.n<=30
 lg:m.lg.n<=30
 us:∀u∈m.p.ul,QEo u
theorem QEo.l(h:QEo u):UnL u:=⟨wi h.fn,wi h.cn,wi h.st,λf hf=>wi<|h.fr f hf,λa ha=>wi<|h.ca a ha⟩
theorem ShM.l(h:ShM m):QH0 m:=⟨⟨wi h.un,wi h.ot,λu hu=>(h.us u hu).l⟩,wi h.sc,wi h.fa,wi h.lg⟩
structure zD{α:Type}(l:List α)(q:α->Prop) where
 i:Nat
 le:i<=l.length
 ok:∀x∈l.take i,q x
def B4[Inhabited α]{l:List α}{q:α->Prop}{i:Nat}(h:i<l.length)(hq:∀x∈l.take i,q x)(e:q (el l i)):∀x∈l.take (i+1),q x:=λx hx=>by
 rw[ZB h]at hx;rcases List.mem_append.1 hx with hx | hx
 ·exact hq x hx
 rw[List.mem_singleton.1 hx];exact e
def zD.stop{l:List α}{q:α->Prop}(s:zD l q)(h:l.length<=s.i):∀x∈l,q x:=λx hx=>s.ok x (by rw[aB h];exact hx)
theorem Bb{n:Int}(hF:Fits F w):Qi prog 34 [.int .i64 n,.int .i64 a,.int .i64 b] w F (.bool (N4 n a b)):=by
 refine QS.go (G:=λF=>True) func34 hF trivial ?_;refine wA 11 I ?_
 refine Qa (t:=10) rfl (λhb10=>?_) λhb10=>?_
 ·refine QMW 11 I ?_;exact QMn I I (congrArg ae (by unfold N4;rw[hb10];rfl)) wz
 refine QMW 8 I ?_;exact QMn I I (congrArg ae (by unfold N4;rw[hb10];rfl)) wz
theorem yF(hF:Fits F w):Qi prog 36 [.agg (MR u).toArray] w F (.bool (H8 u)):=by
 refine QS.go (G:=λF=>True) func36 hF trivial ?_;refine QLF<|Q9 I (vs:=[_,_,_,_,_]) I λb1=>QMW 5 I<|QA (QH I KM Y5)<|QA (Qp I Y5 .here .h1)<|QA (Xc I I)<|wR I<|QU ?_
 exact QMn I I (rfl) wz
theorem DK(hF:Fits F w)(hM:BB F m)(hL:QH0 m):Qi prog 10 [m.v] w F (.int .i64 (WV m)):=by
 have Ax:=hM.p.Mf;have hsl:=hM.QFu;have hfl:=hM.E9;have hll:=hM.QBj;have hun:=hL.p.un;refine QS.go (G:=λF=>BB F m) func10 hF hM ?_;refine QLF<|Q9 rfl (vs:=[_,_,_,_,_,_,_,_]) rfl λb1=>wR rfl<|QG<|QG<|JN (b:=b1) .here<|QB<|QA (QH rfl Ks ZL)<|QA (XE (n:=1) (vs:=[Qs m.p.sh,.slice m.p.un.q m.p.un.n m.p.un.cap,.slice m.p.ot.q m.p.ot.n m.p.ot.cap]) ((0)*8) (λF h9=>(JC.of (n:=1) (sz:=8) h9.2 rfl)) O rfl ZL rfl λj v hv=>by match j,hv with | 0,h=>exact h | 1,h=>exact h | 2,h=>exact h | _+3,h=>cases h)<|QL rfl (λ_ _ f k=>U6 f k.1.p hL.p) λ_=>wR rfl<|wS rfl<|QA (QP rfl rfl rfl)<|QF<|QD ?_
 refine QO I (λhc2=>?_) λhc2=>?_
 ·have h0:Vo m.p≠0:=by simpa using hc2
  refine wA 7 I ?_;exact QMn I I (congrArg (ai .i64) (by
   unfold WV
   first
   |exact if_pos h0
   |(rw[if_neg (Classical.not_not.2 h0),if_neg (Classical.not_not.2 hlen),hok];rfl)
   |(rw[if_neg (Classical.not_not.2 h0)];exact if_pos (by simp_all;omega))
   |(rw[if_neg (Classical.not_not.2 h0)];exact if_pos (by simp_all)))) wz
 have h0:Vo m.p=0:=by simpa using hc2
 have hsh:=OV h0;refine QMX 4 I<|QA (QH I Ks ZL)<|QA (QH I K9 QY)<|QA (QW 0 (λF h9=>h9.1.2) rfl QY I)<|QMW 3 I ?_
 refine K4 (ι:=PLift ((m.sl.length:Int)=m.p.sh/\(m.fl.length:Int)=m.p.sh/\m.ll.length=m.p.ul.length)) [(1,_),(4,_)] (λkl=>[]) (λkl=>[]) (λkl F=>True) (by exact wU) ?_ ?_
 ·refine QLF<|QA (QH I CH Qu)<|QA (QW 3 (λF h9=>h9.1.2) rfl Qu I)<|QA (Qc I Qd)<|wB 3 I ?_
  refine Qa (t:=24) rfl (λhb24=>?_) λhb24=>?_
  ·refine QMW 18 I<|Jv I<|wA 6 I ?_
   exact QMn I I (congrArg (ai .i64) (by
    unfold WV
    first
    |exact if_pos h0
    |(rw[if_neg (Classical.not_not.2 h0),if_neg (Classical.not_not.2 hlen),hok];rfl)
    |(rw[if_neg (Classical.not_not.2 h0)];exact if_pos (by simp_all;omega))
    |(rw[if_neg (Classical.not_not.2 h0)];exact if_pos (by simp_all)))) wz
  refine QK I I<|QA (QH I UR MS)<|QK I I<|QA (QW 6 (λF h9=>h9.1.2) rfl MS I)<|QK I I<|QA (Qc I IN)<|wB 6 I ?_
  refine Qa (t:=31) rfl (λhb31=>?_) λhb31=>?_
  ·refine QMW 11 I<|Jv I<|wA 6 I ?_
   exact QMn I I (congrArg (ai .i64) (by
    unfold WV
    first
    |exact if_pos h0
    |(rw[if_neg (Classical.not_not.2 h0),if_neg (Classical.not_not.2 hlen),hok];rfl)
    |(rw[if_neg (Classical.not_not.2 h0)];exact if_pos (by simp_all;omega))
    |(rw[if_neg (Classical.not_not.2 h0)];exact if_pos (by simp_all)))) wz
  refine QK I I<|QA (QH I DO Qu)<|QK I I<|QA (QW 7 (λF h9=>h9.1.2) rfl Qu I)<|QK I I<|QA (Qc I Qd)<|QK I I<|QA (QH I Ks ZL)<|QK I I<|QA (QH I XP Jf)<|QK I I<|QA (QW 1 (λF h9=>h9.1.2) rfl Jf I)<|QK I I<|QA (Qc I Xk)<|QMW 5 I ?_
  refine QO I (λhc2=>?_) λhc2=>?_
  ·refine wA 6 I ?_;exact QMn I I (congrArg (ai .i64) (by
    unfold WV
    first
    |exact if_pos h0
    |(rw[if_neg (Classical.not_not.2 h0),if_neg (Classical.not_not.2 hlen),hok];rfl)
    |(rw[if_neg (Classical.not_not.2 h0)];exact if_pos (by simp_all;omega))
    |(rw[if_neg (Classical.not_not.2 h0)];exact if_pos (by simp_all)))) wz
  refine QN ?_;exact Kb (⟨by simp at hb24 hb31 hc2;omega⟩) wU QKK λF h9=>⟨⟨⟨h9.1.1,h9.1.2⟩,trivial⟩,trivial⟩
 intro kl;have hlen:=kl.down;refine Xq [(1,_),(4,_)] [(5,.bool (Ey m))] wU ?_ ?_
 ·refine QB<|QA (QH I QB8 QY)<|QA (QW 4 (λF h9=>h9.1.1.2) rfl QY I)<|QL I (λ_ _ f k=>Bb f) λ_=>QJm I ?_
  refine Qa (t:=44) rfl (λhb44=>?_) λhb44=>?_
  ·refine QK I I<|QA (QH I QB7 QY)<|QK I I<|QA (QW 5 (λF h9=>h9.1.1.1.2) rfl QY I)<|QK I I<|QL I (λ_ _ f k=>Bb f) λ_=>wB 3 I ?_
   exact Jc ⟨rfl,rfl,(congrArg (λb:Bool=>some (ae b)) (by unfold Ey;rw[hb44];rfl)),trivial⟩ QKK λ_ h=>h.1.1
  refine wB 6 I ?_;exact Jc ⟨rfl,rfl,(congrArg (λb:Bool=>some (ae b)) (by unfold Ey;rw[hb44];rfl)),trivial⟩ QKK w8
 refine wA 7 I<|Jt (ι:=IxJ m.p.sh.toNat) [(1,_),(4,_)] (λi=>[(5,.bool ((Ey m&&(au i.i).all (Dh m)))),(6,.int .i64 ((i.i:Nat):Int))]) (λi=>m.p.sh.toNat-i.i) (⟨0,ar _⟩) wU ⟨(congrArg (λb:Bool=>some (ae b)) (by dsimp only;rw[bH];simp)),rfl,trivial⟩ λi=>?_
 have hi:=i.le;refine wA 8 I ?_;refine QO I (λhc2=>?_) λhc2=>?_
 ·have hlt:i.i<m.p.sh.toNat:=wi<|QLr hc2
  refine QMX 6 I<|QA (QH I UR MS)<|QA (QW 6 (λF h9=>h9.1.1.2) rfl MS I)<|QJm I<|QA (Qo (n:=m.fa.n) i.i (λF h9=>h9.1.1.1.fa) rfl rfl IN IM O)<|QA (XE (n:=m.fa.n) (vs:=[Qs ((el m.fl i.i).lost),Qs ((el m.fl i.i).Cx),Qs ((el m.fl i.i).load)]) ((i.i)*3) (λF h9=>h9.1.1.1.fa) O rfl IM I λj v hv=>JR (f:=pyC) (l:=m.fl) AA O hv)<|Qk QIH λb7=>QV (vs:=[_,_,_]) I I I IM I .here .h3 wV<|QF<|QD ?_
  refine Xq [(1,_),(4,_),(6,_),(7,_)] [(5,.bool (((Ey m&&(au i.i).all (Dh m))&&ok4 m i.i)))] wW ?_ ?_
  ·refine wA 3 I ?_;refine Qa (t:=60) rfl (λhb60=>?_) λhb60=>?_
   ·refine QK I I<|QA (QH I CH Qu)<|QK I I<|QA (QW 3 (λF h9=>h9.1.1.2) rfl Qu I)<|wB 3 I<|QA (Qo (n:=m.sc.n) i.i (λF h9=>h9.1.1.1.sc) rfl rfl Qd QY O)<|QK I I<|QA (Ql (n:=m.sc.n) ((i.i)*1) (λF h9=>h9.1.1.1.sc) O rfl QY (Jo (f:=Qs) (l:=m.sl) O))<|QK I I<|QL I (λ_ _ f k=>Bb f) λ_=>wB 2 I ?_
    refine Qa (t:=68) rfl (λhb68=>?_) λhb68=>?_
    ·refine QK I I<|QA (QH I xH QY)<|QK I I<|QA (Qp I QY .here .h1)<|QK I I<|QL I (λ_ _ f k=>Bb f) λ_=>wB 2 I ?_
     refine Qa (t:=73) rfl (λhb73=>?_) λhb73=>?_
     ·refine QK I I<|QA (QH I xG QY)<|QK I I<|QA (Qp I QY .here (.skip .h1))<|QK I I<|QL I (λ_ _ f k=>Bb f) λ_=>wB 2 I ?_
      refine Qa (t:=78) rfl (λhb78=>?_) λhb78=>?_
      ·refine QK I I<|QA (QH I QB5 QY)<|QK I I<|QA (Qp I QY .here (.skip (.skip .h1)))<|QK I I<|QL I (λ_ _ f k=>Bb f) λ_=>wB 3 I ?_
       exact Jc ⟨rfl,rfl,rfl,rfl,(congrArg (λb:Bool=>some (ae b)) (by unfold ok4;rw[hb60,hb68,hb73,hb78];rfl)),trivial⟩ QKK λ_ h=>h.1.1.1.1
      refine wB 6 I ?_;exact Jc ⟨rfl,rfl,rfl,rfl,(congrArg (λb:Bool=>some (ae b)) (by rw[hb60];unfold ok4;rw[hb68,hb73,hb78];rfl)),trivial⟩ QKK λ_ h=>h.1.1.1
     refine wB 11 I ?_;exact Jc ⟨rfl,rfl,rfl,rfl,(congrArg (λb:Bool=>some (ae b)) (by rw[hb60];unfold ok4;rw[hb68,hb73];rfl)),trivial⟩ QKK λ_ h=>h.1.1
    refine wB 16 I ?_;exact Jc ⟨rfl,rfl,rfl,rfl,(congrArg (λb:Bool=>some (ae b)) (by rw[hb60];unfold ok4;rw[hb68];rfl)),trivial⟩ QKK w8
   refine wB 24 I ?_;exact Jc ⟨rfl,rfl,rfl,rfl,(congrArg (λb:Bool=>some (ae b)) (by rw[hb60];rfl)),trivial⟩ QKK w7
  refine QLF<|QA (QH rfl Ks ZL)<|QA (XE (n:=1) (vs:=[Qs m.p.sh,.slice m.p.un.q m.p.un.n m.p.un.cap,.slice m.p.ot.q m.p.ot.n m.p.ot.cap]) ((0)*8) (λF h9=>(JC.of (n:=1) (sz:=8) h9.1.1.2 rfl)) O rfl ZL rfl λj v hv=>by match j,hv with | 0,h=>exact h | 1,h=>exact h | 2,h=>exact h | _+3,h=>cases h)<|QJm rfl<|QL rfl (λ_ _ f k=>qK f k.1.1.1.p O) λ_=>wR rfl<|QLF<|QA (QH rfl xG QY)<|QA (Qp rfl QY .here (.skip .h1))<|QA (QP rfl rfl rfl)<|QJm rfl ?_
  refine Qa (t:=90) rfl (λhb90=>?_) λhb90=>?_
  ·refine wB 6 I ?_;refine Qa (t:=93) rfl (λhb93=>?_) λhb93=>?_
   ·refine QMW 13 I<|Jv I<|wA 3 I<|Qg<|QMY 3 I<|QA (Qn I I O)<|wB 2 I ?_
    exact Qj (⟨i.i+1,hlt⟩) (by show m.p.sh.toNat-(i.i+1)<m.p.sh.toNat-i.i;omega) ⟨rfl,rfl,(congrArg (λb:Bool=>some (ae b)) (by show false=_;rw[YM];unfold Dh dA;rw[show decide (Va m.p.ul ((i.i:Nat):Int)<0)=true from hb93,show((el m.fl i.i).Cx==0)=false by simpa using hb90];simp)),rfl,trivial⟩ (tB) w8
   have hd0:0<=Va m.p.ul ((i.i:Nat):Int):=wi<|QLs hb93
   have hdl:=xK m.p.ul ((i.i:Nat):Int);refine QK I I<|QA (QH I Ks ZL)<|QK I I<|QA (QH I XP Jf)<|QK I I<|QA (QW 1 (λF h9=>h9.1.1.1.2) rfl Jf I)<|wB 3 I<|QA (Qo (n:=m.p.un.n) ((Va m.p.ul ((i.i:Nat):Int)).toNat) (λF h9=>h9.1.1.1.1.p.un) rfl wN Xk XJ O)<|QK I I<|QA (XE (n:=m.p.un.n) (vs:=[tx (el m.p.ul ((Va m.p.ul ((i.i:Nat):Int)).toNat)).kd,.slice (el m.p.ul ((Va m.p.ul ((i.i:Nat):Int)).toNat)).fd.q (el m.p.ul ((Va m.p.ul ((i.i:Nat):Int)).toNat)).fd.n (el m.p.ul ((Va m.p.ul ((i.i:Nat):Int)).toNat)).fd.cap,Qs ((el m.p.ul ((Va m.p.ul ((i.i:Nat):Int)).toNat)).ou),tx (el m.p.ul ((Va m.p.ul ((i.i:Nat):Int)).toNat)).st,.slice (el m.p.ul ((Va m.p.ul ((i.i:Nat):Int)).toNat)).cv.q (el m.p.ul ((Va m.p.ul ((i.i:Nat):Int)).toNat)).cv.n (el m.p.ul ((Va m.p.ul ((i.i:Nat):Int)).toNat)).cv.cap]) (((Va m.p.ul ((i.i:Nat):Int)).toNat)*5) (λF h9=>h9.1.1.1.1.p.un) O rfl XJ I λj v hv=>JR (f:=MR) (l:=m.p.ul) ZI O hv)<|QK I I<|QL I (λ_ _ f k=>yF f) λ_=>QK I I<|QA (Xv I)<|QMW 5 I ?_
   refine QO I (λhc2=>?_) λhc2=>?_
   ·refine wA 3 I<|Qg<|QMY 3 I<|QA (Qn I I O)<|wB 2 I ?_
    exact Qj (⟨i.i+1,hlt⟩) (by show m.p.sh.toNat-(i.i+1)<m.p.sh.toNat-i.i;omega) ⟨rfl,rfl,(congrArg (λb:Bool=>some (ae b)) (by show false=_;rw[YM];unfold Dh dA;rw[show H8 (el m.p.ul (Va m.p.ul ((i.i:Nat):Int)).toNat)=false by simpa using hc2,show((el m.fl i.i).Cx==0)=false by simpa using hb90];simp)),rfl,trivial⟩ (tB) λF h=>h.1.1
   refine QN<|Qg<|QMY 3 I<|QA (Qn I I O)<|wB 2 I ?_
   exact Qj (⟨i.i+1,hlt⟩) (by show m.p.sh.toNat-(i.i+1)<m.p.sh.toNat-i.i;omega) ⟨rfl,rfl,(congrArg (λb:Bool=>some (ae b)) (by show(_&&_)=_;rw[YM];unfold Dh dA;rw[show decide (Va m.p.ul ((i.i:Nat):Int)<0)=false from hb93,show H8 (el m.p.ul (Va m.p.ul ((i.i:Nat):Int)).toNat)=true by simpa using hc2];simp[bg])),rfl,trivial⟩ (tB) λF h=>h.1.1
  refine wB 3 I<|Qz I I<|Qz I I<|Qz I I<|Qz I I<|Qz I I<|Qz I I<|Qz I I<|Qz I I<|QMW 4 I<|Zg I<|QN<|Qg<|QMY 3 I<|QA (Qn I I O)<|wB 2 I ?_
  exact Qj (⟨i.i+1,hlt⟩) (by show m.p.sh.toNat-(i.i+1)<m.p.sh.toNat-i.i;omega) ⟨rfl,rfl,(congrArg (λb:Bool=>some (ae b)) (by show(_&&_)=_;rw[YM];unfold Dh;rw[show((el m.fl i.i).Cx==0)=true by simpa using hb90];simp[bg])),rfl,trivial⟩ (tB) w8
 have hge:i.i=m.p.sh.toNat:=by have:=QLs hc2;have:=i.le;omega
 refine JK ?_;refine wA 7 I<|Jt (ι:=IxJ m.ll.length) [(1,_)] (λi2=>[(5,.bool ((Ey m&&(au m.p.sh.toNat).all (Dh m)&&(au i2.i).all (Oa m)))),(9,.int .i64 ((i2.i:Nat):Int))]) (λi2=>m.ll.length-i2.i) (⟨0,ar _⟩) wT ⟨(congrArg (λb:Bool=>some (ae b)) (by dsimp only;rw[hge,bH];simp)),rfl,trivial⟩ λi2=>?_
 have hi2:=i2.le;refine wA 4 I<|QA (QH I DO Qu)<|QA (QW 7 (λF h9=>h9.1.1.2) rfl Qu I)<|QA (Qc I Qd)<|QMW 3 I ?_
 refine QO I (λhc2=>?_) λhc2=>?_
 ·have hlt2:i2.i<m.ll.length:=wi<|QLr hc2
  refine QMX 7 I ?_;refine Qa (t:=112) rfl (λhb112=>?_) λhb112=>?_
  ·refine QK I I<|QA (QH I DO Qu)<|QK I I<|QA (QW 7 (λF h9=>h9.1.1.2) rfl Qu I)<|wB 3 I<|QA (Qo (n:=m.lg.n) (i2.i) (λF h9=>h9.1.1.1.lg) rfl rfl Qd QY O)<|QK I I<|QA (Ql (n:=m.lg.n) ((i2.i)*1) (λF h9=>h9.1.1.1.lg) O rfl QY (Jo (f:=Qs) (l:=m.ll) O))<|QK I I<|QL I (λ_ _ f k=>Bb f) λ_=>wB 2 I ?_
   refine Qa (t:=120) rfl (λhb120=>?_) λhb120=>?_
   ·refine QK I I<|QA (QH I DO Qu)<|QK I I<|QA (QW 7 (λF h9=>h9.1.1.1.2) rfl Qu I)<|wB 3 I<|QA (Qo (n:=m.lg.n) (i2.i) (λF h9=>h9.1.1.1.1.lg) rfl rfl Qd QY O)<|QK I I<|QA (Ql (n:=m.lg.n) ((i2.i)*1) (λF h9=>h9.1.1.1.1.lg) O rfl QY (Jo (f:=Qs) (l:=m.ll) O))<|wB 4 I ?_
    refine Qa (t:=127) rfl (λhb127=>?_) λhb127=>?_
    ·refine wB 13 I<|Qg<|QMY 3 I<|QA (Qn I I O)<|wB 2 I ?_
     exact Qj (⟨i2.i+1,hlt2⟩) (by show m.ll.length-(i2.i+1)<m.ll.length-i2.i;omega) ⟨rfl,(congrArg (λb:Bool=>some (ae b)) (by dsimp only;rw[YM,<-bg,hb112];unfold Oa;rw[hb120,hb127];rfl)),rfl,trivial⟩ QKK w8
    refine QK I I<|QA (QH I Ks ZL)<|QK I I<|QA (QH I XP Jf)<|QK I I<|QA (QW 1 (λF h9=>h9.1.1.1.2) rfl Jf I)<|wB 3 I<|QA (Qo (n:=m.p.un.n) (i2.i) (λF h9=>h9.1.1.1.1.p.un) rfl rfl Xk XJ O)<|QK I I<|QA (QH I KM Y5)<|QK I I<|QA (Ql (n:=m.p.un.n) ((i2.i)*5+0) (λF h9=>h9.1.1.1.1.p.un) O rfl Y5 (JR (f:=MR) (l:=m.p.ul) ZI O rfl))<|QK I I<|QA (Xc I I)<|wB 5 I<|Qg<|QMY 3 I<|QA (Qn I I O)<|wB 2 I ?_
    exact Qj (⟨i2.i+1,hlt2⟩) (by show m.ll.length-(i2.i+1)<m.ll.length-i2.i;omega) ⟨rfl,(congrArg (λb:Bool=>some (ae b)) (by dsimp only;rw[YM,<-bg,hb112];unfold Oa;rw[hb120,hb127];rfl)),rfl,trivial⟩ QKK w8
   refine wB 7 I<|Qz I I<|Qz I I<|Qz I I<|Qz I I<|Qz I I<|Qz I I<|Qz I I<|Qz I I<|wB 4 I<|Qg<|QMY 3 I<|QA (Qn I I O)<|wB 2 I ?_
   exact Qj (⟨i2.i+1,hlt2⟩) (by show m.ll.length-(i2.i+1)<m.ll.length-i2.i;omega) ⟨rfl,(congrArg (λb:Bool=>some (ae b)) (by dsimp only;rw[YM,<-bg,hb112];unfold Oa;rw[hb120];rfl)),rfl,trivial⟩ QKK w8
  refine wB 15 I<|Qz I I<|Qz I I<|Qz I I<|Qz I I<|Qz I I<|Qz I I<|Qz I I<|Qz I I<|wB 4 I<|Qg<|QMY 3 I<|QA (Qn I I O)<|wB 2 I ?_
  exact Qj (⟨i2.i+1,hlt2⟩) (by show m.ll.length-(i2.i+1)<m.ll.length-i2.i;omega) ⟨rfl,(congrArg (λb:Bool=>some (ae b)) (by dsimp only;rw[YM,<-bg,hb112];rfl)),rfl,trivial⟩ QKK w7
 have hge2:i2.i=m.ll.length:=by have:=QLs hc2;have:=i2.le;omega
 refine JK ?_;refine wA 4 I<|QA (Xv I)<|QF<|QD ?_
 refine QO I (λhc2=>?_) λhc2=>?_
 ·have hok:okM m=false:=by unfold okM;rw[<-hge2];exact(Bool.not_eq_true' _).mp hc2
  refine wA 6 I ?_;exact QMn I I (congrArg (ai .i64) (by
   unfold WV
   first
   |exact if_pos h0
   |(rw[if_neg (Classical.not_not.2 h0),if_neg (Classical.not_not.2 hlen),hok];rfl)
   |(rw[if_neg (Classical.not_not.2 h0)];exact if_pos (by simp_all;omega))
   |(rw[if_neg (Classical.not_not.2 h0)];exact if_pos (by simp_all)))) wz
 have hok:okM m=true:=by unfold okM;rw[<-hge2];exact(Bool.not_eq_false' _).mp hc2
 refine QMX 8 I ?_;exact QMn I I (congrArg (ai .i64) (by
  unfold WV
  first
  |exact if_pos h0
  |(rw[if_neg (Classical.not_not.2 h0),if_neg (Classical.not_not.2 hlen),hok];rfl)
  |(rw[if_neg (Classical.not_not.2 h0)];exact if_pos (by simp_all;omega))
  |(rw[if_neg (Classical.not_not.2 h0)];exact if_pos (by simp_all)))) wz
def FZ{l:List Tm}(h:∀t∈l,t.2.length=N/\PW t.2):∀t∈XO l,t.2.length=N/\PW t.2:=λt ht=>by
 obtain⟨y,hy,e⟩:=EO ht;rw[<-e];exact h y hy
def QE5{a b:Nat}(h:a ∣ b)(hb:0<b):sz (a:Int)<=sz (b:Int):=Ur (by rw[aZ,aZ];exact Nat.le_of_dvd hb h)
def QE4{a b:Nat}(h:a<=b):sz (a:Int)<=sz (b:Int):=Ur (by rw[aZ,aZ];exact h)
structure Pb(N F c:Nat)(d:Int)(V:Nat->Int)(r:Int)(L:List Tm):Prop where
 db:Db F c L
 pg:Az N d V r L
def Pb.norm{F:Nat}{d:Int}{r:Int}{L:List Tm}(h:Pb N F c d V r L):Pb N F c d V r (XO L):=⟨h.db.norm,h.pg.norm⟩
def Pb.app{F e:Nat}{d:Int}{r:Int}{L M:List Tm}(h:Pb N F c d V r L)(k:Pb N F e d V r M):Pb N F (c+e) d V r (L++M):=⟨h.db.app k.db,h.pg.app k.pg⟩
def Pb.mono{F e:Nat}{d d2:Int}{r r2:Int}{L:List Tm}(h:Pb N F c d V r L)(h1:c<=e)(h2:d<=d2)(h3:r<=r2):Pb N F e d2 V r2 L:=⟨h.db.mono h1,h.pg.mono h2 h3⟩
def Pb.wide{F c x y:Nat}{d:Int}{r:Int}{L:List Tm}(h:Pb N F c d V r L)(hx:sz (F:Int)<=x)(hy:sz (c:Int)<=y)(hxy:x+y<=90000):Sz L:=h.db.wide hx hy hxy
def Pb.pre{F:Nat}{d:Int}{r:Int}{L M:List Tm}(h:Pb N F c d V r (L++M)):Pb N F c d V r L:=⟨h.db.pre,h.pg.pre⟩
def Pb.LD{F:Nat}{d:Int}{r:Int}{L:List Tm}(h:Pb N F c d V r L)(hd:d<=6)(hN:N<=9)(hc:Canon L):L.length<=50000000:=(h.pg.mono hd (aj r)).LD hN hc
def Pb.QJY{F:Nat}{d:Int}{r:Int}{L:List Tm}(h:Pb N F c d V r L)(hd:d<=6)(hN:N<=9):∀l m,L=l++m->(XO l).length<=900000000:=λl m e =>
 aa ((e ▸ h:Pb N F c d V r (l++m)).pre.norm.LD hd hN (Zn l)) wk
def Pb.pw{F:Nat}{d:Int}{r:Int}{L:List Tm}(h:Pb N F c d V r L)(hd:d<=6)(hN:N<=9):∀t∈L,t.2.length=N/\PW t.2:=h.pg.pw O O
structure RlW(rs:List (List Tm))(L:List Tm)(N:Nat):Prop where
 n:N=rs.length+1
 n1:N<=9
 lp:L.length<=400000000
 pw:∀t∈L,t.2.length=N/\PW t.2
 sz:∀t∈L,Zv t.1<=90000
 dw:∀v,v<=rs.length->∀t∈Gc v L,t.2.length=N/\PW t.2
 ds:∀v,v<=rs.length->Sz (Gc v L)
 dl:∀v,v<=rs.length->(XO (Gc v L)).length<=400000000
 rt:∀k,k<rs.length->(el rs k).length<=400000000/\∀t∈el rs k,t.2.length=N/\PW t.2/\Zv t.1<=90000
 pm:∀k,k<rs.length->∀t∈Xo (XO (Gc (k+1) L)) (el rs k),t.2.length=N/\PW t.2
 pz:∀k,k<rs.length->Sz (Xo (XO (Gc (k+1) L)) (el rs k))
 pn:∀k,k<rs.length->∀l m,Xo (XO (Gc (k+1) L)) (el rs k)=l++m->(XO l).length<=900000000
 aw:∀k,k<=rs.length->(MQ rs L k).length<=400000000/\∀t∈MQ rs L k,t.2.length=N/\PW t.2
 az:∀k,k<rs.length->Sz (MQ rs L k++XO (Xo (XO (Gc (k+1) L)) (el rs k)))
 al:∀k,k<rs.length->(XO (Xo (XO (Gc (k+1) L)) (el rs k))).length<=400000000
structure pA(rs:List (List Tm))(L:List Tm)(N F c E C:Nat)(d:Int)(V:Nat->Int)(r:Int)(x y:Nat):Prop where
 n:N=rs.length+1
 n9:N<=9
 d6:d<=6
 d1:1<=d
 r0:0<=r
 dr:d-1+r<=6
 E0:0<E
 c0:0<c
 p:Pb N F c d V r L
 cn:Canon L
 v6:∀v,0<=V v/\V v<=6
 rt:∀k,k<rs.length->Pb N E C (V (k+1)) V 6 (el rs k)/\Canon (el rs k)
 sx:sz ((F*E:Nat):Int)<=x
 sy:sz ((6*c*(1+8*C):Nat):Int)<=y
 xy:x+y<=90000
section
variable{rs:List (List Tm)}{L:List Tm}{N F c E C:Nat}{d:Int}{V:Nat->Int}{r:Int}{x y:Nat}(h:pA rs L N F c E C d V r x y)
include h
theorem pA.FE:0<F*E:=ay h.p.db.pos h.E0
theorem pA.r6:r<=6:=by have:=h.d1;have:=h.dr;omega
theorem pA.der(v:Nat):Pb N F (6*c) (d-1) V r (Gc v L):=by
 have hd1:=h.d1;have hd6:=h.d6;exact⟨h.p.db.der λt ht=>wi<|(h.p.pg t ht).Qb v O,h.p.pg.der⟩
theorem pA.szF:YtphlgddkpboamaaGreatDoor.sz (F:Int)<=x:=aa (QE5 (aR F E) h.FE) h.sx
theorem pA.szE:YtphlgddkpboamaaGreatDoor.sz (E:Int)<=x:=aa (QE5 (bY E F) h.FE) h.sx
theorem pA.szc{e:Nat}(he:e<=6*c*(1+8*C)):YtphlgddkpboamaaGreatDoor.sz (e:Int)<=y:=aa (QE4 he) h.sy
theorem pA.c6:6*c<=6*c*(1+8*C):=bD _ O
theorem pA.occ{t:Tm}(ht:t∈XO (Gc (k+1) L)):V (k+1)<=r:=by
 obtain⟨u,hu,_⟩:=EO ht;obtain⟨a,ha,hu⟩:=List.mem_flatMap.1 hu;rw[Il]at hu;split at hu
 ·exact(h.p.pg a ha).occ _ O
 cases hu
theorem pA.prd(hk:k<rs.length):Pb N (F*E) (6*c*C) (d-1+r) V 6 (Xo (XO (Gc (k+1) L)) (el rs k)):=by
 refine⟨(h.der (k+1)).db.norm.prod (h.rt k hk).1.db,λt ht=>?_⟩;obtain⟨a,ha,ht2⟩:=List.mem_flatMap.1 ht;exact((h.der (k+1)).pg.norm.prod ((h.rt k hk).1.pg.mono (h.occ ha) (aj 6)) h.r6 (aj 6)) t ht
theorem pA.MQ:∀k,k<=rs.length->Pb N (F*E) (6*c+k*(6*c*C)) (d-1+r) V 6 (YtphlgddkpboamaaGreatDoor.MQ rs L k)/\Canon (YtphlgddkpboamaaGreatDoor.MQ rs L k)
 |0,_=>⟨(⟨(h.der 0).db.lift h.E0,(h.der 0).pg⟩:Pb N (F*E) (6*c) (d-1) V r (Gc 0 L)).norm.mono O (wi h.r0) h.r6,Zn _⟩
 |k+1,hk=>by
  have h1:=(pA.MQ k O).1;have h2:=(h.prd (show k<rs.length by omega)).norm;exact⟨((h1.app h2).norm).mono (by rw[bF k];omega) (aj _) (aj _),Zn _⟩
theorem pA.k8(hk:k<=rs.length):6*c+k*(6*c*C)<=6*c*(1+8*C):=by
 have h1:=h.n;have h2:=h.n9;have h3:k*(6*c*C)<=8*(6*c*C):=aG _ O;rw[Nat.mul_add,fi];have h4:6*c*(8*C)=8*(6*c*C):=by rw[Nat.mul_left_comm]
 omega
theorem pA.wok:RlW rs L N:=by
 have hd6:=h.d6;have hd1:=h.d1;have hr0:=h.r0;have hdr:=h.dr;have hx:=h.sx;have hxy:=h.xy;exact
 { n:=h.n,n1:=h.n9
   lp:=aa (h.p.LD h.d6 h.n9 h.cn) wk
   pw:=h.p.pw h.d6 h.n9
   sz:=λt ht=>aa (h.p.db.Zv h.szF (h.szc (aa O h.c6)) t ht) h.xy
   dw:=λv _=>(h.der v).pw O h.n9
   ds:=λv _=>(h.der v).wide h.szF (h.szc h.c6) h.xy
   dl:=λv _=>aa ((h.der v).norm.LD O h.n9 (Zn _)) wk
   rt:=λk hk=>⟨aa ((h.rt k hk).1.LD (h.v6 _).2 h.n9 (h.rt k hk).2) wk,λt ht =>
    ⟨((h.rt k hk).1.pw (h.v6 _).2 h.n9 t ht).1,((h.rt k hk).1.pw (h.v6 _).2 h.n9 t ht).2,by
     refine aa ((h.rt k hk).1.db.Zv h.szE (h.szc ?_) t ht) h.xy;have:=h.c0;exact aa (show C<=1+8*C by omega) (aM _ O)⟩⟩
   pm:=λk hk=>(h.prd hk).pw h.dr h.n9
   pz:=λk hk=>(h.prd hk).wide h.sx (h.szc (aa (by have:=aG (6*c*C) (show 1<=k+1 by omega);omega) (h.k8 (show k+1<=rs.length from hk)))) h.xy
   pn:=λk hk=>(h.prd hk).QJY h.dr h.n9
   aw:=λk hk=>⟨aa ((h.MQ k hk).1.LD h.dr h.n9 (h.MQ k hk).2) wk,(h.MQ k hk).1.pw h.dr h.n9⟩
   az:=λk hk=>((h.MQ k O).1.app (h.prd hk).norm).wide h.sx (h.szc (aa (by rw[bF k];omega) (h.k8 (show k+1<=rs.length from hk)))) h.xy
   al:=λk hk=>aa ((h.prd hk).norm.LD h.dr h.n9 (Zn _)) wk }
end
structure RwP(F:Gs)(r:Sr)(rl:List VW)(rs:List (List Tm)):Prop where
 row:JC F r.q r.n 1 (rl.map λe=>e.1.v)
 len:rl.length=r.n
 ln2:rs.length=rl.length
 pl:∀k,k<rl.length->Vl F (el rl k).1 (el rl k).2 (Xj (el rs k))
theorem RwP.le{r:Sr}{rl:List VW}{rs:List (List Tm)}(h:RwP F r rl rs)(k:Gs.le F F'):RwP F' r rl rs:=⟨h.row.le k,h.len,h.ln2,λi hi=>(h.pl i hi).le k⟩
structure QLB(n:Nat) where
 i:Nat
 c:VW
 le:i<=n
theorem yJ{y:Rat}{k:Nat}(hF:Fits F w)(hk:k<=1000):QS prog 185 [tx (Q8 y),.int .i64 (k:Nat)] w F (λ(c:VW)=>c.1.v) (λc F=>Vl F c.1 c.2 (Xj (Ws y (k+1)))):=by
 refine QS.go (G:=λF=>True) func185 hF trivial ?_;refine wA 9 I<|QL I (λ_ _ f _=>I1 f) λ_=>QF<|QD ?_
 refine QO I (λhc=>?_) λhc=>?_
 ·refine wA 6 I ?_;exact QM ((⟨none,0,0⟩,[])) I (wO I) (rfl) (λF ⟨_,_⟩=>by
   have hy:y=0:=by simpa[Uk]using hc
   rw[Ws,if_pos hy];exact⟨JC.nil F none 2,λ_ h=>(by cases h),rfl,ak _,rfl⟩)
 refine QMX 6 I<|QA (Qn I I O)<|K5 (n:=k+1) (bytes:=8) wN wN Qd QY HZ I WR O O λb10=>?_
 rw[show JL [ai .i64 0] (k+1)=(af (k+1) (0:Int)).map Qs by rw[ZM];simp[Qs]];refine Nx (b:=b10) .here<|QA (ZT I Ry Wf (wQ I I I))<|JG I (J2 ZF) ZN Wf I I λb12=>wR I<|QU ?_
 exact QM ((⟨some ⟨b12,0,none⟩,1,1⟩,[⟨Q8 y,⟨some ⟨b10,0,none⟩,k+1,k+1⟩,af (k+1) 0⟩])) I (wO I) (rfl) (λF ⟨⟨⟨_,_⟩,hz10⟩,hs12⟩=>by
  have hy:¬y=0:=by simpa[Uk]using hc
  rw[Ws,if_neg hy];exact⟨JC.of hs12 rfl,λt ht=>by
   rw[List.mem_singleton.1 ht];exact⟨JC.of hz10 wv,wv,ak _⟩,rfl,ak _,rfl⟩)
def TH[Inhabited α]{f:α->Value}{l:List α}{rest:List Value}{i:Nat}(h:i<l.length):(l.map f++rest)[0+i*1]?=some (f (el l i)):=by
 rw[bz,fi,List.getElem?_append_left (by simpa using h),eT,bB h,ZH h];rfl
theorem cC{w0:World}{F0:Gs}{bs:List (Nat×Obj)}{G:Gs->Prop}{b9 cap:Nat}{rl:List VW}{rest:List Value}{a:VW}{L:List Tm}{rs:List (List Tm)}(hpl:∀F,G F->∀k,k<rl.length->Vl F (el rl k).1 (el rl k).2 (Xj (el rs k)))(hrl:rs.length=rl.length)(hA:∀F,G F->Vl F a.1 a.2 (Xj L))(hal:a.1.n=L.length)(ho:RlW rs L N)(hcp:rl.length<=cap):YQ prog 187 [.slice (some ⟨b9,0,none⟩) rl.length cap,a.1.v] ⟨w0,F0,(b9,.cells (rl.map (λe:VW=>e.1.v)++rest).toArray 243 (0,0))::bs,G⟩ (λ(d:VW)=>d.1.v) (λd=>⟨w0,F0,(b9,.cells (rl.map (λe:VW=>e.1.v)++rest).toArray 243 (0,0))::bs,λF=>G F/\Vl F d.1 d.2 (Xj (MQ rs L rs.length))⟩):=by
 have hn:=ho.n;have hn1:=ho.n1;have hlp:=ho.lp;refine YQ.intro func187 rfl wu rfl rfl<|QLF<|wR rfl<|wS rfl<|QL rfl (λ_ F f k=>OE (N:=N) (v:=0) (L:=L) f (hA F k).1 (hA F k).2.1 (hA F k).2.2.2.2 (hA F k).2.2.1 O ho.pw ho.sz (ho.dw 0 O) (ho.ds 0 O) O) λc8=>wR rfl<|QG<|QLF<|wR rfl<|QQ<|XC (ι:=QLB rs.length) [(0,_),(1,_)] (λi=>[(5,.slice i.c.1.q i.c.1.n i.c.1.cap),(6,.int .i64 ((i.i:Nat):Int))]) (λi=>(b9,.cells (rl.map (λe:VW=>e.1.v)++rest).toArray 243 (0,0))::bs) (λi F=>Vl F i.c.1 i.c.2 (Xj (MQ rs L i.i))) (λi=>rs.length-i.i) (⟨0,c8,ar _⟩) wU wU QKK w9 λi=>?_
 have hi:=i.le;refine wA 5 I<|QA (Qc I Vu)<|QMW 3 I ?_
 refine QO I (λhc2=>?_) λhc2=>?_
 ·have hlt:i.i<rl.length:=wi<|QLr hc2
  have hlr:i.i<rs.length:=O;refine QMX 4 I<|JE QKK mixed wj<|QJ (QC I)<|QJ (QC I)<|QJ (QC I)<|QJ (Qn I I O) ?_
  rw[show(((i.i:Nat):Int)+1)=((i.i+1:Nat):Int)from rfl];refine QZ I (λw F hF ⟨⟨hG,h8⟩,hC⟩=>OE (N:=N) (v:=i.i+1) (L:=L) hF (hA F hG).1 (hA F hG).2.1 (hA F hG).2.2.2.2 (hA F hG).2.2.1 O ho.pw ho.sz (ho.dw _ O) (ho.ds _ O) O) (λc19=>Gm _ (λ_ _ f k=>k.2.AN) λhd19=>QJ (QC I)<|QJ (QC I)<|QJ (Qm (i:=i.i) rfl rfl Vu YR O)<|QJ (Xh (c:=rl.map (λe:VW=>e.1.v)++rest) (T':=243) rfl YR .here (TH (f:=λe:VW=>e.1.v) hlt))<|QZ I (λw F hF ⟨⟨⟨hG,h8⟩,hC⟩,SZ⟩=>pO (N:=N) (A:=XO (Gc (i.i+1) L)) (B:=el rs i.i) hF SZ.1 SZ.2.1 SZ.2.2.2.2 SZ.2.2.1 (hpl F hG _ hlt).1 (hpl F hG _ hlt).2.1 (hpl F hG _ hlt).2.2.2.2 (hpl F hG _ hlt).2.2.1 (λt h=>⟨(FZ (ho.dw _ O) t h).1,(FZ (ho.dw _ O) t h).2,(ho.ds _ O).1 _ [] (aQ _).symm t h⟩) (λt h=>(ho.rt _ hlr).2 t h) (λt h=>(ho.pm _ hlr t h).2) (ho.pz _ hlr) (ho.pn _ hlr) ⟨by rw[hd19];exact ho.dl _ O,by rw[(hpl F hG _ hlt).AN];exact(ho.rt _ hlr).1⟩) λc24=>Gm _ (λ_ _ f k=>k.2.AN) λhd24=>?_);refine QZ I (λw F hF ⟨⟨⟨⟨hG,h8⟩,hC⟩,SZ⟩,h24⟩=>pR (N:=N) (A:=MQ rs L i.i) (B:=XO (Xo (XO (Gc (i.i+1) L)) (el rs i.i))) hF hC.1 hC.2.1 hC.2.2.2.2 hC.2.2.1 h24.1 h24.2.1 h24.2.2.2.2 h24.2.2.1 (λt h=>by
   rcases List.mem_append.1 h with h | h
   ·exact(ho.aw _ O).2 t h
   exact FZ (ho.pm _ hlr) t h) (ho.az _ hlr) ⟨by rw[hC.AN];exact(ho.aw i.i O).1,by rw[hd24];exact ho.al _ hlr⟩) λc25=>?_
  refine QJ (QE I)<|Qy<|Qg<|QMY 3 I<|QA (Qn I I O)<|wB 2 I ?_
  exact Qj (⟨i.i+1,c25,hlr⟩) (by show rs.length-(i.i+1)<rs.length-i.i;omega) wW QKK λF h9=>⟨⟨h9.1.1.1.1.1,h9.1.1.1.1.2⟩,h9.2⟩
 have hge:i.i=rs.length:=by have:=QLs hc2;have:=i.le;omega
 refine JK ?_;refine wA 7 I ?_;exact G5 (i.c) rfl (wO I) (rfl) λw hw=>hw.imp QKK λF h=>⟨h.1.1,by have h1:=h.2;rw[hge]at h1;exact h1⟩
structure RE(p:YB):Prop where
 sh:1<=p.sh/\p.sh<=100
 us:∀u∈p.ul,G3 p.sh u
 nI:YJ p.ul<=24
 dr:Ab p.sh p.ul=false
 ord:(ZY p.ul).length=p.ul.length
theorem RE.of{p:YB}(h:Vo p=0):RE p:=by
 have hs:=OV h;unfold Vo at h;rw[if_neg O,if_neg O]at h;by_cases h3:JB (p.ul.map (VU p.sh))=0
 ·rw[if_neg O]at h;split at h
  ·cases h
  split at h
  ·cases h
  split at h
  ·cases h
  split at h
  ·cases h
  split at h
  ·cases h
  have h1:=(jY p.ul).le;exact⟨⟨hs.1,hs.2.1⟩,λu hu=>Lk (HK h3 _ (aW hu)),O,by simp_all,O⟩
 omega
theorem uS{k:Int}(hi:i<j)(hj:j<us.length)(h1:(el us i).ou=k)(h2:(el us j).ou=k):2<=Nn us k:=by
 have e:us=us.take j++us.drop j:=(eH _ _).symm;unfold Nn
 grind[decide,el,ZH,bA,bQ]
theorem uL{k:Int}:∀(us:List Xi) (i:Nat),0<=Ng k us i->∃j:Nat,j<us.length/\Ng k us i=((i+j:Nat):Int)/\(el us j).ou=k
 |[],_,h=>by trivial
 |u::us,i,h=>by
  rw[Ng]at h ⊢;by_cases e:u.ou=k
  ·grind[el]
  rw[if_neg e]at h ⊢;obtain⟨j,h1,h2,h3⟩:=uL us _ h;exact⟨j+1,by simp_all,O,by trivial⟩
theorem xL{k:Int}(h:0<=Va us k):∃j:Nat,j<us.length/\Va us k=(j:Int)/\(el us j).ou=k:=by
 grind[uL,Va]
section
variable{p:YB}(h:RE p)
include h
theorem RE.LD{k:Int}(h1:1<=k)(h2:k<p.sh):Nn p.ul k=1:=by
 have h3:=h.dr;have h4:=List.any_eq_false.1 h3 (k.toNat-1) (List.mem_range.2 O)
 grind[C8]
theorem RE.ou(hi:i<p.ul.length):1<=(el p.ul i).ou/\(el p.ul i).ou<p.sh:=(h.us _ (Q2 hi)).ou
theorem RE.inj(hi:i<p.ul.length)(hj:j<p.ul.length)(e:(el p.ul i).ou=(el p.ul j).ou):i=j:=by
 have ho:=h.ou hi;have hc:=h.LD ho.1 ho.2;rcases Nat.lt_trichotomy i j with g | g | g
 ·have:=uS g hj rfl e.symm;omega
 ·exact g
 have:=uS g hi rfl e;simp_all
theorem RE.Va{i:Nat}(hi:i<p.ul.length):Va p.ul (el p.ul i).ou=(i:Int):=by
 have ho:=h.ou hi;have hc:=h.LD ho.1 ho.2;have h1:¬YtphlgddkpboamaaGreatDoor.Va p.ul (el p.ul i).ou<0:=λg=>by grind[TD]
 obtain⟨j,g1,g2,g3⟩:=xL (us:=p.ul) (k:=(el p.ul i).ou) O;rw[g2,h.inj g1 hi g3]
theorem RE.QKm(hs:s<p.sh)(h1:YtphlgddkpboamaaGreatDoor.Va p.ul s<0):s<1:=by
 by_cases h2:1<=s
 ·have hc:=h.LD h2 hs;grind[TD]
 omega
end
def QAN(us:List Xi)(out:List Int):Prop:=∀k,k<out.length->∃i:Nat,i<us.length/\el out k=(i:Int)/\Ic us (out.take k) i=true
theorem QAN.next{out:List Int}(h:QAN us out){i:Nat}(hi:i<us.length)(hr:Ic us out i=true):QAN us (out++[(i:Int)]):=λk hk=>by
 rw[aC]at hk;have h1:[(i:Int)].length=1:=rfl;by_cases h2:k<out.length
 ·obtain⟨j,g1,g2,g3⟩:=h k h2
  grind[ZH,aC,List.getElem_append_left]
 have h3:k=out.length:=O;subst h3;exact⟨i,hi,by simp[ZH,aC],by simp_all⟩
theorem QBA(us:List Xi):∀n out,QAN us out->QAN us (vt us n out)
 |0,_,h=>h
 |n+1,out,h=>by
  rw[vt];cases hx:pj us out with
  |none=>exact h
  |some i=>exact QBA us n _ (h.next (List.mem_range.1 (List.mem_of_find?_eq_some hx)) (List.find?_some hx))
def QGA(us:List Xi):QAN us (ZY us):=QBA us _ [] λk hk=>by cases hk
def Dn(p:YB)(k:Nat)(s:Int):Prop:=Va p.ul s<0\/Va p.ul s∈(ZY p.ul).take k
def oU(p:YB)(k:Nat):Xi:=el p.ul (el (ZY p.ul) k).toNat
section
variable{p:YB}(h:RE p)
include h
theorem RE.unit(hk:k<p.ul.length):∃i,i<p.ul.length/\el (ZY p.ul) k=(i:Int)/\oU p k=el p.ul i/\((i:Int)∉(ZY p.ul).take k)/\∀f∈K6 (oU p k),Dn p k f.k:=by
 obtain⟨i,g1,g2,g3⟩:=QGA p.ul k (by rw[h.ord];exact hk);have e:oU p k=el p.ul i:=by unfold oU;simp_all
 unfold Ic at g3
 grind[Dn]
theorem RE.ok(hk:k<p.ul.length):G3 p.sh (oU p k):=by
 obtain⟨i,g1,_,e,_⟩:=h.unit hk;rw[e];exact h.us _ (Q2 g1)
theorem RE.mem(hk:k<p.ul.length):oU p k∈p.ul:=by
 obtain⟨i,g1,_,e,_⟩:=h.unit hk
 grind[Q2]
theorem RE.fdD(hk:k<p.ul.length){f:Lf}(hf:f∈K6 (oU p k)):Dn p k f.k:=by
 obtain⟨i,_,_,_,_,g⟩:=h.unit hk;simp_all
theorem RE.QKU(hk:k<p.ul.length):¬Dn p k (oU p k).ou:=by
 obtain⟨i,g1,_,e,g4,_⟩:=h.unit hk;rw[e];intro g;unfold Dn at g;rw[h.Va g1]at g
 grind
theorem RE.next(hk:k<p.ul.length){s:Int}(g:Dn p (k+1) s):Dn p k s\/s=(oU p k).ou:=by
 obtain⟨i,g1,g2,e,_,_⟩:=h.unit hk;rcases g with g | g
 ·exact .inl (.inl g)
 rw[ZB (by rw[h.ord];exact hk)]at g;rcases List.mem_append.1 g with g | g
 ·exact .inl (.inr g)
 have g5:=List.mem_singleton.1 g;obtain⟨j,j1,j2,j3⟩:=xL (us:=p.ul) (k:=s) O
 grind
theorem RE.all(k:Nat)(hk:p.ul.length<=k)(s:Int):Dn p k s:=by
 by_cases g:YtphlgddkpboamaaGreatDoor.Va p.ul s<0
 ·exact .inl g
 right;rw[aB (by rw[h.ord];exact hk)];obtain⟨j,j1,j2,_⟩:=xL (us:=p.ul) (k:=s) O;have hI:=jY p.ul;refine Decidable.byContradiction λhn=>?_;have h2:=Oi p.ul.length _ (List.nodup_cons.2 ⟨hn,hI.nd⟩) λx hx=>by
  rcases List.mem_cons.1 hx with rfl | hx
  ·omega
  exact hI.rg x hx
 rw[aT,h.ord]at h2;omega
end
def Dn.mono{p:YB}(h:Dn p k s):Dn p (k+1) s:=h.elim .inl λg=>.inr ((List.take_subset_take_left _ (Nat.le_succ k)) g)
def Xl(D:List Int)(s:Int):Int:=Qb D s.toNat
def tm(u:Xi):Int:=if u.kd=K7 then max 1 ((u.cl.length:Int)-1)else 1
def xD(D:List Int)(u:Xi):Int:=if u.kd=K7 then Xl D u.ou else if u.kd=WA then Xl D (el u.fl 0).k else 0
def uF(D:List Int)(u:Xi):Prop:=u.kd≠WA->∀f∈u.fl,Xl D f.k*tm u<=Xl D u.ou
def rF(D R:List Int)(u:Xi):Prop:=∀f∈K6 u,Xl R f.k+Xl D f.k-1+xD D u<=Xl R u.ou
theorem QAf:1<=tm u:=by grind[tm]
theorem QIM(h:G3 sh u):tm u<=12:=by grind[G6,tm]
theorem Gk(h:∀x∈D,a<=x/\x<=b){s:Int}(hs:s.toNat<D.length):a<=Xl D s/\Xl D s<=b:=by
 grind[Xl,Gb,eU]
def GC{v:Int}(h:a.toNat<D.length)(ha:0<=a)(hb:0<=b):Xl (D.set a.toNat v) b=if b=a then v else Xl D b:=by
 unfold Xl;rw[KP h];omega
theorem I2{v:Int}(h:∀x∈D,a<=x/\x<=b)(h1:a<=v)(h2:v<=b):∀x∈D.set i v,a<=x/\x<=b:=by grind
theorem y7(h:a.toNat<D.length):D.set a.toNat (Xl D a)=D:=by
 grind[Xl,Gb,List.set_getElem_self]
theorem Dn.le{p:YB}{m:Nat}(h:Dn p k s)(hm:k<=m):Dn p m s:=by
 induction m with
 |zero=>simp_all
 |succ m ih =>
  by_cases e:k=m+1
  ·simp_all
  exact(ih O).mono
section
variable{p:YB}(h:RE p)
include h
theorem RE.QKV(hk:k<p.ul.length):Dn p (k+1) (oU p k).ou:=by
 obtain⟨i,g1,g2,e,_⟩:=h.unit hk;rw[e];refine .inr ?_;rw[h.Va g1,<-g2,ZB (by rw[h.ord];exact hk)];simp
theorem RE.sep(hk:k<p.ul.length){s:Int}(hs:Dn p k s):s≠(oU p k).ou:=λe=>h.QKU hk (e ▸ hs)
theorem RE.fr(hk:k<p.ul.length){f:Lf}(hf:f∈(oU p k).fl):0<=f.k/\f.k<p.sh:=((h.ok hk).fd f hf).1
end
theorem AJ(h:u.kd≠WA):K6 u=u.fl:=by simp_all[K6,if_neg]
structure Lw1(p:YB)(i:Nat)(D:List Int):Prop where
 len:D.length=p.sh.toNat
 jP:∀x∈D,0<=x/\x<=6
 D0:1<=Xl D 0
 int:∀j,j<i->(el p.ul j).kd=WA->1<=Xl D (el p.ul j).ou
theorem Lw1.start{p:YB}(h:1<=p.sh):Lw1 p 0 ((af p.sh.toNat (0:Int)).set 0 1):=by
 have hl:0<(af p.sh.toNat (0:Int)).length:=by grind
 refine⟨wv,I2 (λx hx=>by simp_all) wk wk,?_,λj hj=>absurd hj O⟩;unfold Xl;rw[show(0:Int).toNat=0 from rfl,KP hl,if_pos rfl];decide
theorem Lw1.hit{p:YB}(h:Lw1 p i D)(hv:RE p)(hi:i<p.ul.length):Lw1 p (i+1) (D.set (el p.ul i).ou.toNat 1):=by
 have ho:=hv.ou hi;have hl:(el p.ul i).ou.toNat<D.length:=by rw[h.len];omega
 refine⟨by rw[ah];exact h.len,I2 h.jP wk wk,by rw[GC hl O O,if_neg O];exact h.D0,λj hj hk=>?_⟩;by_cases hj2:j<i
 ·have hoj:=hv.ou (show j<p.ul.length by omega);rw[GC hl O O];split
  ·decide
  exact h.int j hj2 hk
 have e:j=i:=O;subst e;rw[GC hl O O,if_pos rfl];decide
theorem Lw1.skip{p:YB}(h:Lw1 p i D)(hi:(el p.ul i).kd≠WA):Lw1 p (i+1) D :=
 ⟨h.len,h.jP,h.D0,λj hj hk=>by
  by_cases hj2:j<i
  ·exact h.int j hj2 hk
  grind⟩
structure Lw2(p:YB)(k:Nat)(D:List Int):Prop where
 len:D.length=p.sh.toNat
 jP:∀x∈D,0<=x/\x<=6
 int:∀j,j<p.ul.length->(el p.ul j).kd=WA->1<=Xl D (el p.ul j).ou
 one:∀s,0<=s->s<p.sh->Dn p k s->1<=Xl D s
 un:∀j,j<k->uF D (oU p j)
theorem Lw1.two{p:YB}(hv:RE p)(h:Lw1 p i D)(hi:p.ul.length<=i):Lw2 p 0 D :=
 ⟨h.len,h.jP,λj hj=>h.int j O,λs h0 hs hd=>(hd.elim (λhd=>by
   have:=hv.QKm hs hd;rw[show s=0 by omega];exact h.D0) λhd=>by cases hd),λj hj=>absurd hj O⟩
theorem Lw2.next{p:YB}(h:Lw2 p k D)(hv:RE p)(hk:k<p.ul.length){v:Int}(h1:Xl D (oU p k).ou<=v)(h2:v<=6)(h3:(oU p k).kd≠WA->∀f∈(oU p k).fl,Xl D f.k*tm (oU p k)<=v):Lw2 p (k+1) (D.set (oU p k).ou.toNat v):=by
 have hok:=hv.ok hk;have ho:=hok.ou;have hl:(oU p k).ou.toNat<D.length:=by rw[h.len];omega
 have h0:=(Gk h.jP hl).1;have hD:∀s,0<=s->Xl _ s=if s=(oU p k).ou then v else Xl D s:=λs hs=>GC hl O hs
 refine⟨by rw[ah];exact h.len,I2 h.jP O h2,λj hj hj2=>?_,λs hs0 hs hd=>?_,λj hj hkd f hf=>?_⟩
 ·have:=hv.ou hj;have:=h.int j hj hj2
  grind
 ·rw[hD s hs0];split
  ·obtain⟨i,i1,_,e,_⟩:=hv.unit hk;by_cases hI:(oU p k).kd=WA
   ·have:=h.int i i1 (by simp_all)
    grind
   obtain⟨f1,_⟩:=Z0 hok;have hf:el (oU p k).fl 0∈(oU p k).fl:=Q2 O;have g1:=h3 hI _ hf;have g2:=hv.fr hk hf;have g3:=h.one _ g2.1 g2.2 (hv.fdD hk (by grind[AJ]));have g4:Xl D (el (oU p k).fl 0).k*1<=Xl D (el (oU p k).fl 0).k*tm (oU p k):=bm QAf O;omega
  rename_i hne;exact h.one s hs0 hs ((hv.next hk hd).elim id λe=>absurd e hne)
 by_cases hj2:j<k
 ·have hjn:j<p.ul.length:=O;have g1:=h.un j hj2 hkd f hf;have g2:=hv.fr hjn hf;have g3:=hv.sep hk ((hv.fdD hjn (by rw[AJ hkd];exact hf)).le (show j<=k by omega));have g5:=(hv.ok hjn).ou
  grind
 have e:j=k:=O;subst e;have g2:=hv.fr hk hf;have g3:=hv.sep hk (hv.fdD hk (by rw[AJ hkd];exact hf))
 grind
structure Lw3(p:YB)(D:List Int)(k:Nat)(R:List Int):Prop where
 len:R.length=p.sh.toNat
 jP:∀x∈R,0<=x/\x<=6
 un:∀j,j<k->rF D R (oU p j)
theorem Lw3.start{p:YB}:Lw3 p D 0 (af p.sh.toNat 0):=⟨wv,λx hx=>by simp_all,λj hj=>absurd hj O⟩
theorem yg(h:f∈K6 u):f∈u.fl:=by
 grind[K6,eO]
theorem Lw3.next{p:YB}(h:Lw3 p D k R)(hv:RE p)(hk:k<p.ul.length){v:Int}(h1:0<=v)(h2:v<=6)(h3:∀f∈K6 (oU p k),Xl R f.k+Xl D f.k-1+xD D (oU p k)<=v):Lw3 p D (k+1) (R.set (oU p k).ou.toNat v):=by
 have hok:=hv.ok hk;have ho:=hok.ou;have hl:(oU p k).ou.toNat<R.length:=by rw[h.len];omega
 have hD:∀s,0<=s->Xl _ s=if s=(oU p k).ou then v else Xl R s:=λs hs=>GC hl O hs
 refine⟨by rw[ah];exact h.len,I2 h.jP h1 h2,λj hj f hf=>?_⟩;have hjn:j<p.ul.length:=O;have g2:=hv.fr hjn (yg hf);have g5:=(hv.ok hjn).ou;have g3:=hv.sep hk ((hv.fdD hjn hf).le (show j<=k by omega));by_cases hj2:j<k
 ·have g4:=hv.sep hk ((hv.QKV hjn).le (show j+1<=k by omega));rw[hD _ g2.1,hD _ O,if_neg g3,if_neg g4];exact h.un j hj2 f hf
 grind
structure P5(p:YB)(D R:List Int):Prop where
 QMT:D.length=p.sh.toNat
 C6:∀s,0<=s->s<p.sh->1<=Xl D s/\Xl D s<=6
 QMK:R.length=p.sh.toNat
 uw:∀s,0<=s->s<p.sh->0<=Xl R s/\Xl R s<=6
 un:∀j,j<p.ul.length->uF D (oU p j)/\rF D R (oU p j)
theorem P5.of{p:YB}{m:Nat}(hv:RE p)(h:Lw2 p k D)(g:Lw3 p D m R)(hk:p.ul.length<=k)(hm:p.ul.length<=m):P5 p D R :=
 ⟨h.len,λs h0 hs=>⟨h.one s h0 hs (hv.all k hk s),(Gk h.jP (by rw[h.len];omega)).2⟩,g.len,λs h0 hs=>Gk g.jP (by rw[g.len];omega),λj hj=>⟨h.un j O,g.un j O⟩⟩
structure QLE(p:YB) where
 i:Nat
 D:List Int
 ok:Lw1 p i D
structure QLD(p:YB) where
 k:Nat
 D:List Int
 ok:Lw2 p k D
structure QEs(u:Xi)(D:List Int) where
 i:Nat
 v:Int
 le:i<=u.fl.length
 ge:Xl D u.ou<=v
 b:v<=100
 hv:∀f∈u.fl.take i,Xl D f.k*tm u<=v
structure QLC(p:YB)(D:List Int) where
 k:Nat
 R:List Int
 ok:Lw3 p D k R
structure QEr(u:Xi)(D R:List Int) where
 i:Nat
 v:Int
 le:i<=(K6 u).length
 ge:0<=v
 b:v<=100
 hv:∀f∈(K6 u).take i,Xl R f.k+Xl D f.k-1<=v
def TA(a b:Int):a<=(if b>a then b else a)/\b<=(if b>a then b else a):=O
def p8{c:Int}(h1:a<=c)(h2:b<=c):(if b>a then b else a)<=c:=O
theorem QKF(h:u.kd=K7):(if((u.cl.length:Int)-1)>1 then((u.cl.length:Int)-1)else 1)=tm u:=by
 unfold tm;grind
theorem QKG(h:u.kd≠K7):tm u=1:=by simp_all[tm,if_neg]
structure LwX(u:Xi)(D:List Int) where
 v:Int
 ge:Xl D u.ou<=v
 hv:u.kd≠WA->∀f∈u.fl,Xl D f.k*tm u<=v
def QEs.next{u:Xi}{D:List Int}(s:QEs u D)(h:s.i<u.fl.length)(hb:Xl D (el u.fl s.i).k*tm u<=100):QEs u D where
 i:=s.i+1
 v:=if Xl D (el u.fl s.i).k*tm u>s.v then Xl D (el u.fl s.i).k*tm u else s.v
 le:=h
 ge:=bI s.ge (TA _ _).1
 b:=p8 s.b hb
 hv:=λf hf=>by
  rw[ZB h]at hf;rcases List.mem_append.1 hf with hf | hf
  ·exact bI (s.hv f hf) (TA _ _).1
  rw[List.mem_singleton.1 hf];exact(TA _ _).2
def QEr.next{u:Xi}{D R:List Int}(s:QEr u D R)(h:s.i<(K6 u).length)(hb:Xl R (el (K6 u) s.i).k+Xl D (el (K6 u) s.i).k-1<=100):QEr u D R where
 i:=s.i+1
 v:=if Xl R (el (K6 u) s.i).k+Xl D (el (K6 u) s.i).k-1>s.v then Xl R (el (K6 u) s.i).k+Xl D (el (K6 u) s.i).k-1 else s.v
 le:=h
 ge:=bI s.ge (TA _ _).1
 b:=p8 s.b hb
 hv:=λf hf=>by
  rw[ZB h]at hf;rcases List.mem_append.1 hf with hf | hf
  ·exact bI (s.hv f hf) (TA _ _).1
  rw[List.mem_singleton.1 hf];exact(TA _ _).2
theorem QII(h0:0<=Xl D (el u.fl 0).k):xD D u<=(if u.kd=K7 then Xl D u.ou else 0)+(if u.kd=WA then Xl D (el u.fl 0).k else 0):=by
 grind[xD]
def QDz(h1:0<=a/\a<=6)(h2:1<=b/\b<=12):0<=a*b/\a*b<=72:=by
 have e1:=Int.mul_le_mul h1.2 h2.2 O O;exact⟨eZ h1.1 O,O⟩
theorem QF3{p:YB}(hF:Fits F w)(hP:GR F p)(hV:RE p)(hb:p.un.n<=1000000):QS prog 177 [p.v,.int .i64 6] w F (λ(b:Bool)=>.bool b) (λb F=>b=true->∃D R,P5 p D R):=by
 have Ax:=hP.Mf;have hs1:=hV.sh;have hon:=hV.ord;have hub:UnB p.ul:=λu hu=>by have h1:=Z0 (hV.us u hu);have h2:=(hP.us u hu).E9;omega
 refine QS.go (G:=λF=>GR F p) func177 hF hP ?_;refine QLF<|Q9 I (vs:=[_,_,_]) I λb2=>wR I<|QG<|JN (b:=b2) .here<|QB<|QA (QH I K9 QY)<|QA (QW 0 w9 rfl QY I)<|K5 (n:=p.sh.toNat) (bytes:=8) wN wN Qd QY HZ I WR O O λb19=>?_
 rw[show JL [ai .i64 0] p.sh.toNat=(af p.sh.toNat (0:Int)).map Qs++[] by rw[ZM];simp[Qs]];refine QMW 6 I<|QA (Qm (i:=0) rfl wN Qd QY O)<|QV (vs:=[_]) I I I QY I .here (Z5 wy 1) wT<|QMW 9 I<|XC (ι:=QLE p) [(1,_),(2,_),(5,_)] (λi=>[(6,.int .i64 ((i.i:Nat):Int))]) (λi=>[(b19,.cells ((i.D).map Qs++[]).toArray 3 (0,0))]) (λi F=>True) (λi=>p.ul.length-i.i) (⟨0,(af p.sh.toNat (0:Int)).set 0 1,Lw1.start hs1.1⟩) wV wT QKK wz λi=>wA 4 I<|QA (QH I XP Jf)<|QA (QW 1 (λF h9=>h9.1.2) rfl Jf I)<|QA (Qc I Xk)<|QMW 3 I ?_
 refine QO I (λhc2=>?_) λhc2=>?_
 ·have hlt:i.i<p.ul.length:=wi<|QLr hc2
  have ho:=hV.ou hlt;have hDl:=i.ok.len;refine QMX 6 I<|QA (QH I XP Jf)<|QA (QW 1 (λF h9=>h9.1.2) rfl Jf I)<|QJm I<|QA (Qo (n:=p.un.n) i.i (λF h9=>h9.1.1.un) rfl rfl Xk XJ O)<|QA (QH I KM Y5)<|QA (Ql (n:=p.un.n) ((i.i)*5+0) (λF h9=>h9.1.1.un) O rfl Y5 (JR (f:=MR) (l:=p.ul) ZI O rfl))<|QA (Xc I I)<|QF<|QD ?_
  refine QO I (λhc2=>?_) λhc2=>?_
  ·refine wA 2 I<|QA (QH I XP Jf)<|QA (QW 1 (λF h9=>h9.1.2) rfl Jf I)<|QJm I<|QA (Qo (n:=p.un.n) i.i (λF h9=>h9.1.1.un) rfl rfl Xk XJ O)<|QA (QH I Yf QY)<|QA (Ql (n:=p.un.n) ((i.i)*5+2) (λF h9=>h9.1.1.un) O rfl QY (JR (f:=MR) (l:=p.ul) ZI O rfl))<|QA (Qm (i:=(el p.ul i.i).ou.toNat) rfl wN Qd QY O)<|QV (vs:=[_]) I I I QY I .here (Z5 (by rw[i.ok.len];omega) 1) wT<|QF<|Qg<|QMY 3 I<|QA (Qn I I O)<|wB 2 I ?_
   exact Qj (⟨i.i+1,i.D.set (el p.ul i.i).ou.toNat 1,i.ok.hit hV hlt⟩) (by show p.ul.length-(i.i+1)<p.ul.length-i.i;omega) wW QKK λF h=>⟨h.1,trivial⟩
  refine QN<|Qg<|QMY 3 I<|QA (Qn I I O)<|wB 2 I ?_
  exact Qj (⟨i.i+1,i.D,i.ok.skip (by simpa[WA]using hc2)⟩) (by show p.ul.length-(i.i+1)<p.ul.length-i.i;omega) wW QKK λF h=>⟨h.1,trivial⟩
 have hge:p.ul.length<=i.i:=wi<|QLs hc2
 refine JK ?_;refine QLF<|QA (Jj (λF h9=>h9.1.2) rfl ZL I)<|QL I (λ_ _ f k=>L7 f k.1.1 hb hub) λc45=>XA _ (λ_ _ f k=>k.2.2.1) λhn45=>QMW 10 I<|XC (ι:=QLD p) [(1,_),(2,_),(5,_),(7,_)] (λi2=>[(8,.int .i64 ((i2.k:Nat):Int))]) (λi2=>[(b19,.cells ((i2.D).map Qs++[]).toArray 3 (0,0))]) (λi2 F=>True) (λi2=>p.ul.length-i2.k) (⟨0,i.D,i.ok.two hV hge⟩) wW wT QKK wz λi2=>wA 5 I<|QA (Qc I Qd)<|QMW 3 I ?_
 refine QO I (λhc2=>?_) λhc2=>?_
 ·have hlt2:i2.k<p.ul.length:=wi<|QLr hc2
  have hDl:=i2.ok.len;obtain⟨j9,hj9,hje,_,_⟩:=hV.unit hlt2;have hiu:(el (ZY p.ul) i2.k).toNat<p.ul.length:=by rw[hje];omega
  have hok:G3 p.sh (oU p i2.k):=hV.ok hlt2;have hum:(oU p i2.k)∈p.ul:=Q2 hiu;have ho:=hok.ou;have hfu:=(hP.us _ hum).E9;have hcu:=(hP.us _ hum).Np;have hf8:=Z0 hok;have hc13:=G6 hok;refine QMX 5 I<|Je 9 QKK mixed wj wj ?_
  simp only[ao,aA,aq,aD];refine QJ (QH I XP Jf)<|QJ (QW 1 (λF h9=>h9.1.1.1.2) rfl Jf I)<|QJ (QC I)<|QJ (QC I)<|QJ (Qo (n:=c45.n) (i2.k) (λF h9=>h9.1.2.1) rfl rfl Qd QY O)<|QJ (Ql (n:=c45.n) (i2.k*1) (λF h9=>h9.1.2.1) O rfl QY (Jo (f:=Qs) (l:=ZY p.ul) O))<|QJ (Qo (n:=p.un.n) ((el (ZY p.ul) i2.k).toNat) (λF h9=>h9.1.1.1.1.un) rfl wN Xk XJ O)<|QJ (XE (n:=p.un.n) (vs:=[tx (oU p i2.k).kd,.slice (oU p i2.k).fd.q (oU p i2.k).fd.n (oU p i2.k).fd.cap,Qs ((oU p i2.k).ou),tx (oU p i2.k).st,.slice (oU p i2.k).cv.q (oU p i2.k).cv.n (oU p i2.k).cv.cap]) (((el (ZY p.ul) i2.k).toNat)*5) (λF h9=>h9.1.1.1.1.un) O rfl XJ I λj v hv=>JR (f:=MR) (l:=p.ul) ZI O hv)<|Gh TM λb9=>X7<|QV (vs:=[_,_,_,_,_]) I I I XJ I .here .h5 wX<|QJl<|JN (b:=b9) .here ?_
  refine EK (ι:=LwX (oU p i2.k) i2.D) [(1,_),(2,_),(5,_),(7,_),(8,_),(9,_)] (λx3=>[]) (λx3=>[(b19,.cells ((i2.D.set (oU p i2.k).ou.toNat x3.v).map Qs++[]).toArray 3 (0,0))]) (λx3 F=>True) wY ?_ ?_
  ·refine wA 6 I<|XC (ι:=QEs (oU p i2.k) i2.D) [(1,_),(2,_),(5,_),(7,_),(8,_),(9,_)] (λi3=>[(10,.int .i64 ((i3.i:Nat):Int))]) (λi3=>[(b19,.cells ((i2.D.set (oU p i2.k).ou.toNat i3.v).map Qs++[]).toArray 3 (0,0))]) (λi3 F=>True) (λi3=>(oU p i2.k).fl.length-i3.i) (⟨0,Xl i2.D (oU p i2.k).ou,ar _,aj _,wi (Gk i2.ok.jP (s:=(oU p i2.k).ou) O),λf hf=>by cases hf⟩) wY wT (by rw[y7 O];exact eC _) wz λi3=>wA 4 I<|QA (QH I Zz Xd)<|QA (QW 1 (λF h9=>h9.1.2) rfl Xd I)<|QA (Qc I YV)<|wB 2 I ?_
   refine Qa (t:=65) rfl (λhb65=>?_) λhb65=>?_
   ·have hlt3:i3.i<(oU p i2.k).fl.length:=wi<|QLr hb65
    refine QK I I<|QA (QH I KM Y5)<|QK I I<|QA (QW 0 (λF h9=>h9.1.2) rfl Y5 I)<|QK I I<|QA (Rv I I)<|QMW 3 I ?_
    refine QO I (λhc2=>?_) λhc2=>?_
    ·have hkI:(oU p i2.k).kd≠WA:=by simpa[WA]using hc2
     have hf3:=Q2 hlt3;have hr3:=(hok.fd _ hf3).1;have hsp:(el (oU p i2.k).fl i3.i).k≠(oU p i2.k).ou:=hV.sep hlt2 (hV.fdD hlt2 (by rw[AJ (show(oU p i2.k).kd≠WA from hkI)];exact hf3));have hd80:Qb (i2.D.set (oU p i2.k).ou.toNat i3.v) (el (oU p i2.k).fl i3.i).k.toNat=Xl i2.D (el (oU p i2.k).fl i3.i).k:=(GC O O O).trans (if_neg hsp);have hd98:Qb (i2.D.set (oU p i2.k).ou.toNat i3.v) (oU p i2.k).ou.toNat=i3.v:=(GC O O O).trans (if_pos rfl);have hm3:=QDz (Gk i2.ok.jP (s:=(el (oU p i2.k).fl i3.i).k) O) (⟨QAf,QIM hok⟩:1<=tm (oU p i2.k)/\_);have hm4:=Gk i2.ok.jP (s:=(el (oU p i2.k).fl i3.i).k) O;refine QMX 7 I<|QA (QH I Zz Xd)<|QA (QW 1 (λF h9=>h9.1.2) rfl Xd I)<|QJm I<|QA (Qo (n:=(oU p i2.k).fd.n) (i3.i) (λF h9=>((h9.1.1.1.1.1.1.us _ (Q2 (show(el (ZY p.ul) i2.k).toNat<p.ul.length from O)))).fd) rfl rfl YV Kf O)<|QA (QH I GQ QY)<|QA (Ql (n:=(oU p i2.k).fd.n) ((i3.i)*2+0) (λF h9=>((h9.1.1.1.1.1.1.us _ (Q2 (show(el (ZY p.ul) i2.k).toNat<p.ul.length from O)))).fd) O rfl QY (JR (f:=Uj) (l:=(oU p i2.k).fl) YT O rfl))<|QA (Qm (i:=(el (oU p i2.k).fl i3.i).k.toNat) rfl wN Qd QY O)<|QA (Xh (c:=(i2.D.set (oU p i2.k).ou.toNat i3.v).map Qs++[]) (T':=3) rfl QY .here (Xb (by simp only[ah];omega))) ?_
     rw[hd80];refine QMW 3 I ?_;refine Xq [(1,_),(2,_),(5,_),(7,_),(8,_),(9,_),(10,_),(66,_),(67,_),(68,_)] [(11,.int .i64 ((Xl i2.D (el (oU p i2.k).fl i3.i).k*tm (oU p i2.k))))] wc ?_ ?_
     ·refine QLF<|QA (QH I KM Y5)<|QA (QW 0 (λF h9=>h9.1.2) rfl Y5 I)<|QA (Xc I I)<|QF<|QD ?_
      refine QO I (λhc2=>?_) λhc2=>?_
      ·have hkT:(oU p i2.k).kd=K7:=by simpa[K7]using hc2
       refine wA 2 I<|QA (QH I Wp Xg)<|QA (QW 4 (λF h9=>h9.1.2) rfl Xg I)<|QA (Qc I Z2)<|QA (Jg I I O)<|QA (IU I I) ?_
       rw[show(if(((oU p i2.k).cv.n:Nat):Int)-1>1 then(((oU p i2.k).cv.n:Nat):Int)-1 else 1)=tm (oU p i2.k)from by rw[<-hcu];exact QKF hkT];refine QA (VV I I O)<|wB 2 I ?_
       exact Jc we QKK w7
      have hkT:(oU p i2.k).kd≠K7:=by simpa[K7]using hc2
      refine QN ?_;exact Jc ⟨rfl,rfl,rfl,rfl,rfl,rfl,rfl,rfl,rfl,rfl,(congrArg (λz:Int=>some (ai .i64 z)) (by rw[QKG hkT,Int.mul_one])),trivial⟩ QKK w7
     refine Je 11 QKK mixed wj wj ?_;simp only[ao,aA,aq,aD];refine QJ (QC I)<|QJ (QH I Yf QY)<|QJ (QW 2 (λF h9=>h9.1.2) rfl QY I)<|QJ (QC I)<|QJ (QH I Yf QY)<|QJ (QW 2 (λF h9=>h9.1.2) rfl QY I)<|QJ (Qm (i:=(oU p i2.k).ou.toNat) rfl wN Qd QY O)<|QJ (Xh (c:=(i2.D.set (oU p i2.k).ou.toNat i3.v).map Qs++[]) (T':=3) rfl QY .here (Xb (by simp only[ah];omega))) ?_
     rw[hd98];refine QJ (QC I)<|QJ (IU I I)<|QJ (Qm (i:=(oU p i2.k).ou.toNat) rfl wN Qd QY O)<|X7<|QV (vs:=[_]) I I I QY I .here (Z5 (by simp only[ah];omega) _) wT ?_
     rw[bS];refine QF<|Qg<|QMY 3 I<|QA (Qn I I O)<|wB 2 I ?_
     exact Qj (i3.next hlt3 O) (by show(oU p i2.k).fl.length-(i3.i+1)<(oU p i2.k).fl.length-i3.i;omega) wZ QKK λF h=>⟨h.1,trivial⟩
    refine Yh ?_
    repeat first|refine Jy ?_|refine Jp wu ?_
    refine Jz ?_;exact ZP (⟨i3.v,i3.ge,λh=>absurd (by simpa[WA]using hc2) h⟩) wY QKK λF h9=>⟨⟨⟨⟨⟨⟨h9.1.1.1.1.1.1,h9.1.1.1.1.1.2⟩,trivial⟩,h9.1.1.1.2⟩,trivial⟩,h9.1.2⟩,trivial⟩
   have hge3:(oU p i2.k).fl.length<=i3.i:=wi<|QLs hb65
   refine QMW 6 I<|Zg I<|Yh ?_
   repeat first|refine Jy ?_|refine Jp wu ?_
   refine Jz ?_;exact ZP (⟨i3.v,i3.ge,λ_ f hf=>i3.hv f (by rw[aB hge3];exact hf)⟩) wY QKK λF h9=>⟨⟨⟨⟨⟨⟨h9.1.1.1.1.1.1,h9.1.1.1.1.1.2⟩,trivial⟩,h9.1.1.1.2⟩,trivial⟩,h9.1.2⟩,trivial⟩
  intro x3;have hd106:Qb (i2.D.set (oU p i2.k).ou.toNat x3.v) (oU p i2.k).ou.toNat=x3.v:=(GC O O O).trans (if_pos rfl);refine wS I<|QA (QH I Yf QY)<|QA (QW 2 (λF h9=>h9.1.2) rfl QY I)<|QA (Qm (i:=(oU p i2.k).ou.toNat) rfl wN Qd QY O)<|QA (Xh (c:=(i2.D.set (oU p i2.k).ou.toNat x3.v).map Qs++[]) (T':=3) rfl QY .here (Xb (by simp only[ah];omega))) ?_
  rw[hd106];refine QMW 4 I ?_;refine QO I (λhc2=>?_) λhc2=>?_
  ·refine wA 5 I<|ZS ?_
   exact QM (false) rfl (wO rfl) (rfl) λF ⟨⟨⟨⟨⟨⟨hP,hz2⟩,_⟩,h45⟩,_⟩,hz9⟩,_⟩ h=>by cases h
  refine QN<|Qg<|QMY 3 I<|QA (Qn I I O)<|wB 2 I ?_
  exact Qj (⟨i2.k+1,i2.D.set (oU p i2.k).ou.toNat x3.v,i2.ok.next hV hlt2 x3.ge (wi<|QLs hc2) x3.hv⟩) (by show p.ul.length-(i2.k+1)<p.ul.length-i2.k;omega) wX QKK λF h=>⟨h.1.1.1,trivial⟩
 have hge2:p.ul.length<=i2.k:=wi<|QLs hc2
 have hDl:=i2.ok.len;refine JK ?_;refine QG ?_;obtain⟨rr,hvrr,hnrr,hcrr,hfixrr⟩:=Q6.fix (w0:=w) (F0:=F) (bs1:=[]) (G:=_) (Q6.some (T:=3) (sz:=1) (b:=b19) (n:=p.sh.toNat) (cap:=p.sh.toNat) (l:=(i2.D).map Qs) (rest:=[]) (by rw[ax];omega) (by rw[ax,ee];omega) (ak _) (aa (show p.sh.toNat<=100 by omega) wk));refine Da hfixrr ?_;rw[hvrr];refine QB<|QA (QH I K9 QY)<|QA (QW 0 (λF h9=>h9.1.1.1.1.2) rfl QY I)<|K5 (n:=p.sh.toNat) (bytes:=8) wN wN Qd QY HZ I WR O O λb111=>?_
 rw[show JL [ai .i64 0] p.sh.toNat=(af p.sh.toNat (0:Int)).map Qs++[] by rw[ZM];simp[Qs]];refine QMW 10 I<|XC (ι:=QLC p i2.D) [(1,_),(2,_),(5,_),(7,_),(12,_)] (λi4=>[(13,.int .i64 ((i4.k:Nat):Int))]) (λi4=>[(b111,.cells ((i4.R).map Qs++[]).toArray 3 (0,0))]) (λi4 F=>True) (λi4=>p.ul.length-i4.k) (⟨0,af p.sh.toNat 0,Lw3.start⟩) wX wT QKK wz λi4=>wA 5 I<|QA (Qc I Qd)<|QMW 3 I ?_
 refine QO I (λhc2=>?_) λhc2=>?_
 ·have hlt4:i4.k<p.ul.length:=wi<|QLr hc2
  have hRl:=i4.ok.len;obtain⟨j9,hj9,hje,_,_⟩:=hV.unit hlt4;have hiu:(el (ZY p.ul) i4.k).toNat<p.ul.length:=by rw[hje];omega
  have hok:G3 p.sh (oU p i4.k):=hV.ok hlt4;have hum:(oU p i4.k)∈p.ul:=Q2 hiu;have ho:=hok.ou;have hfu:=(hP.us _ hum).E9;have hcu:=(hP.us _ hum).Np;have hf8:=Z0 hok;have hc13:=G6 hok;have hml:=jf hfu;have hml2:=gI (u:=(oU p i4.k));refine QMX 5 I<|Je 9 QKK mixed wj wj ?_
  simp only[ao,aA,aq,aD];refine QJ (QH I XP Jf)<|QJ (QW 1 (λF h9=>h9.1.1.1.1.1.2) rfl Jf I)<|QJ (QC I)<|QJ (QC I)<|QJ (Qo (n:=c45.n) (i4.k) (λF h9=>h9.1.1.1.2.1) rfl rfl Qd QY O)<|QJ (Ql (n:=c45.n) (i4.k*1) (λF h9=>h9.1.1.1.2.1) O rfl QY (Jo (f:=Qs) (l:=ZY p.ul) O))<|QJ (Qo (n:=p.un.n) ((el (ZY p.ul) i4.k).toNat) (λF h9=>h9.1.1.1.1.1.1.un) rfl wN Xk XJ O)<|QJ (XE (n:=p.un.n) (vs:=[tx (oU p i4.k).kd,.slice (oU p i4.k).fd.q (oU p i4.k).fd.n (oU p i4.k).fd.cap,Qs ((oU p i4.k).ou),tx (oU p i4.k).st,.slice (oU p i4.k).cv.q (oU p i4.k).cv.n (oU p i4.k).cv.cap]) (((el (ZY p.ul) i4.k).toNat)*5) (λF h9=>h9.1.1.1.1.1.1.un) O rfl XJ I λj v hv=>JR (f:=MR) (l:=p.ul) ZI O hv)<|Gh TM λb14=>X7<|QV (vs:=[_,_,_,_,_]) I I I XJ I .here .h5 wX<|QJl<|QG<|JN (b:=b14) .here<|QB<|QA (Jj w9 rfl XJ I)<|QL I (λ_ _ f k=>OA f (k.1.1.1.1.1.1.1.us _ hum) (k.1.1.1.1.1.1.1.us _ hum).C5 O) λ_=>QMW 10 I<|XC (ι:=QEr (oU p i4.k) i2.D i4.R) [(1,_),(2,_),(5,_),(7,_),(12,_),(13,_),(14,_),(15,_)] (λi5=>[(16,.int .i64 ((i5.i:Nat):Int))]) (λi5=>[(b111,.cells ((i4.R.set (oU p i4.k).ou.toNat i5.v).map Qs++[]).toArray 3 (0,0))]) (λi5 F=>True) (λi5=>(K6 (oU p i4.k)).length-i5.i) (⟨0,Xl i4.R (oU p i4.k).ou,ar _,(Gk i4.ok.jP O).1,wi (Gk i4.ok.jP (s:=(oU p i4.k).ou) O),λf hf=>by cases hf⟩) wa wT (by rw[y7 O];exact eC _) wz λi5=>wA 5 I<|QA (Qc I YV)<|QMW 3 I ?_
  refine QO I (λhc2=>?_) λhc2=>?_
  ·have hlt5:i5.i<(K6 (oU p i4.k)).length:=wi<|QLr hc2
   have hf5:=Q2 hlt5;have hr5:=(hok.fd _ (yg hf5)).1;have hsp:(el (K6 (oU p i4.k)) i5.i).k≠(oU p i4.k).ou:=hV.sep hlt4 (hV.fdD hlt4 hf5);have hd149:Qb (i4.R.set (oU p i4.k).ou.toNat i5.v) (el (K6 (oU p i4.k)) i5.i).k.toNat=Xl i4.R (el (K6 (oU p i4.k)) i5.i).k:=(GC O O O).trans (if_neg hsp);have hd141:Qb (i4.R.set (oU p i4.k).ou.toNat i5.v) (oU p i4.k).ou.toNat=i5.v:=(GC O O O).trans (if_pos rfl);have hq1:=Gk i4.ok.jP (s:=(el (K6 (oU p i4.k)) i5.i).k) O;have hq2:=Gk i2.ok.jP (s:=(el (K6 (oU p i4.k)) i5.i).k) O;have hq3:Xl i2.D (el (K6 (oU p i4.k)) i5.i).k=Qb i2.D (el (K6 (oU p i4.k)) i5.i).k.toNat:=rfl;refine QMX 4 I<|Je 28 QKK mixed wj wj ?_
   simp only[ao,aA,aq,aD];refine QJ (QC I)<|QJ (QH I Yf QY)<|QJ (QW 2 (λF h9=>h9.1.1.2) rfl QY I)<|QJ (QC I)<|QJ (QH I Yf QY)<|QJ (QW 2 (λF h9=>h9.1.1.2) rfl QY I)<|QJ (Qm (i:=(oU p i4.k).ou.toNat) rfl wN Qd QY O)<|QJ (Xh (c:=(i4.R.set (oU p i4.k).ou.toNat i5.v).map Qs++[]) (T':=3) rfl QY .here (Xb (by simp only[ah];omega))) ?_
   rw[hd141];refine QJ (QC I)<|QJ (QC I)<|QJ (QC I)<|QJ (Qo (n:=(jg (oU p i4.k)).n) (i5.i) (λF h9=>(MX (h9.1.1.1.1.1.1.1.1.1.us _ hum) (h9.1.1.1.1.1.1.1.1.1.us _ hum).C5)) I I YV Kf O)<|QJ (QH I GQ QY)<|QJ (Ql (n:=(jg (oU p i4.k)).n) ((i5.i)*2+0) (λF h9=>(MX (h9.1.1.1.1.1.1.1.1.1.us _ hum) (h9.1.1.1.1.1.1.1.1.1.us _ hum).C5)) O rfl QY (JR (f:=Uj) (l:=(K6 (oU p i4.k))) YT O rfl))<|QJ (Qm (i:=(el (K6 (oU p i4.k)) i5.i).k.toNat) rfl wN Qd QY O)<|QJ (Xh (c:=(i4.R.set (oU p i4.k).ou.toNat i5.v).map Qs++[]) (T':=3) rfl QY .here (Xb (by simp only[ah];omega))) ?_
   rw[hd149];refine QJ (QC I)<|QJ (QC I)<|QJ (QC I)<|QJ (Qo (n:=(jg (oU p i4.k)).n) (i5.i) (λF h9=>(MX (h9.1.1.1.1.1.1.1.1.1.us _ hum) (h9.1.1.1.1.1.1.1.1.1.us _ hum).C5)) I I YV Kf O)<|QJ (QH I GQ QY)<|QJ (Ql (n:=(jg (oU p i4.k)).n) ((i5.i)*2+0) (λF h9=>(MX (h9.1.1.1.1.1.1.1.1.1.us _ hum) (h9.1.1.1.1.1.1.1.1.1.us _ hum).C5)) O rfl QY (JR (f:=Uj) (l:=(K6 (oU p i4.k))) YT O rfl))<|QJ (Qo (n:=rr.n) ((el (K6 (oU p i4.k)) i5.i).k.toNat) (λF h9=>(by rw[hnrr];exact h9.1.1.1.1.2)) I wN Qd QY O)<|QJ (Ql (n:=rr.n) (((el (K6 (oU p i4.k)) i5.i).k.toNat)*1) (λF h9=>(by rw[hnrr];exact h9.1.1.1.1.2)) O rfl QY (JP (o:=i2.D) O))<|QJ (Qn I I O)<|QJ (Jg I I O)<|QJ (IU I I)<|QJ (Qm (i:=(oU p i4.k).ou.toNat) rfl wN Qd QY O)<|X7<|QV (vs:=[_]) I I I QY I .here (Z5 (by simp only[ah];omega) _) wT ?_
   rw[bS];refine QF<|Qg<|QMY 3 I<|QA (Qn I I O)<|wB 2 I ?_
   exact Qj (i5.next hlt5 O) (by show(K6 (oU p i4.k)).length-(i5.i+1)<(K6 (oU p i4.k)).length-i5.i;omega) wb QKK λF h=>⟨h.1,trivial⟩
  have hge5:(K6 (oU p i4.k)).length<=i5.i:=wi<|QLs hc2
  have hd141:Qb (i4.R.set (oU p i4.k).ou.toNat i5.v) (oU p i4.k).ou.toNat=i5.v:=(GC O O O).trans (if_pos rfl);have h50:=i5.ge;have h5b:=i5.b;have hf0:el (oU p i4.k).fl 0∈(oU p i4.k).fl:=Q2 O;have hr0:=(hok.fd _ hf0).1;have hq4:=Gk i2.ok.jP (s:=(oU p i4.k).ou) O;have hq5:=Gk i2.ok.jP (s:=(el (oU p i4.k).fl 0).k) O;have hq6:Xl i2.D (oU p i4.k).ou=Qb i2.D (oU p i4.k).ou.toNat:=rfl;have hq7:Xl i2.D (el (oU p i4.k).fl 0).k=Qb i2.D (el (oU p i4.k).fl 0).k.toNat:=rfl;have hall:∀f∈K6 (oU p i4.k),Xl i4.R f.k+Xl i2.D f.k-1<=i5.v:=λf hf=>i5.hv f (by rw[aB hge5];exact hf);refine JK ?_;refine EK (ι:={v:Int // v=i5.v+(if(oU p i4.k).kd=K7 then Xl i2.D (oU p i4.k).ou else 0)}) [(1,_),(2,_),(5,_),(7,_),(12,_),(13,_),(14,_)] (λy4=>[]) (λy4=>[(b111,.cells ((i4.R.set (oU p i4.k).ou.toNat y4.1).map Qs++[]).toArray 3 (0,0))]) (λy4 F=>True) wZ ?_ ?_
  ·refine QLF<|QA (QH I KM Y5)<|QA (QW 0 (λF h9=>h9.1.1.2) rfl Y5 I)<|QA (Xc I I)<|QF<|QD ?_
   refine QO I (λhc2=>?_) λhc2=>?_
   ·have hkT4:(oU p i4.k).kd=K7:=by simpa[K7]using hc2
    refine Je 15 QKK mixed wj wj ?_;simp only[ao,aA,aq,aD];refine QJ (QC I)<|QJ (QH I Yf QY)<|QJ (QW 2 (λF h9=>h9.1.1.2) rfl QY I)<|QJ (QC I)<|QJ (QH I Yf QY)<|QJ (QW 2 (λF h9=>h9.1.1.2) rfl QY I)<|QJ (Qm (i:=(oU p i4.k).ou.toNat) rfl wN Qd QY O)<|QJ (Xh (c:=(i4.R.set (oU p i4.k).ou.toNat i5.v).map Qs++[]) (T':=3) rfl QY .here (Xb (by simp only[ah];omega))) ?_
    rw[hd141];refine QJ (QC I)<|QJ (QH I Yf QY)<|QJ (QW 2 (λF h9=>h9.1.1.2) rfl QY I)<|QJ (Qo (n:=rr.n) ((oU p i4.k).ou.toNat) (λF h9=>(by rw[hnrr];exact h9.1.1.1.1.2)) I wN Qd QY O)<|QJ (Ql (n:=rr.n) (((oU p i4.k).ou.toNat)*1) (λF h9=>(by rw[hnrr];exact h9.1.1.1.1.2)) O rfl QY (JP (o:=i2.D) O))<|QJ (Qn I I O)<|QJ (Qm (i:=(oU p i4.k).ou.toNat) rfl wN Qd QY O)<|X7<|QV (vs:=[_]) I I I QY I .here (Z5 (by simp only[ah];omega) _) wT ?_
    rw[bS];refine QF ?_;exact ZP (⟨i5.v+Xl i2.D (oU p i4.k).ou,by rw[if_pos hkT4]⟩) wZ QKK λF ⟨⟨⟨⟨⟨⟨⟨⟨⟨hP,hz2⟩,_⟩,h45⟩,_⟩,hrow⟩,_⟩,hz14⟩,_⟩,_⟩=>⟨⟨⟨⟨⟨⟨⟨⟨⟨⟨hP,hz2⟩,trivial⟩,h45⟩,trivial⟩,hrow⟩,trivial⟩,hz14⟩,trivial⟩,trivial⟩,trivial⟩
   have hkT4:(oU p i4.k).kd≠K7:=by simpa[K7]using hc2
   refine QN ?_;exact ZP (⟨i5.v,by rw[if_neg hkT4,fg]⟩) wZ QKK λF ⟨⟨⟨⟨⟨⟨⟨⟨⟨hP,hz2⟩,_⟩,h45⟩,_⟩,hrow⟩,_⟩,hz14⟩,_⟩,_⟩=>⟨⟨⟨⟨⟨⟨⟨⟨⟨⟨hP,hz2⟩,trivial⟩,h45⟩,trivial⟩,hrow⟩,trivial⟩,hz14⟩,trivial⟩,trivial⟩,trivial⟩
  intro y4;have hd190:Qb (i4.R.set (oU p i4.k).ou.toNat y4.1) (oU p i4.k).ou.toNat=y4.1:=(GC O O O).trans (if_pos rfl);have hy4:=y4.2;have hy4b:0<=y4.1/\y4.1<=200:=by rw[hy4];split<;>omega
  refine EK (ι:={v:Int // v=y4.1+(if(oU p i4.k).kd=WA then Xl i2.D (el (oU p i4.k).fl 0).k else 0)}) [(1,_),(2,_),(5,_),(7,_),(12,_),(13,_),(14,_)] (λz4=>[]) (λz4=>[(b111,.cells ((i4.R.set (oU p i4.k).ou.toNat z4.1).map Qs++[]).toArray 3 (0,0))]) (λz4 F=>True) wZ ?_ ?_
  ·refine QLF<|QA (QH I KM Y5)<|QA (QW 0 (λF h9=>h9.1.1.1.2) rfl Y5 I)<|QA (Xc I I)<|QF<|QD ?_
   refine QO I (λhc2=>?_) λhc2=>?_
   ·have hkI4:(oU p i4.k).kd=WA:=by simpa[WA]using hc2
    refine Je 18 QKK mixed wj wj ?_;simp only[ao,aA,aq,aD];refine QJ (QC I)<|QJ (QH I Yf QY)<|QJ (QW 2 (λF h9=>h9.1.1.1.2) rfl QY I)<|QJ (QC I)<|QJ (QH I Yf QY)<|QJ (QW 2 (λF h9=>h9.1.1.1.2) rfl QY I)<|QJ (Qm (i:=(oU p i4.k).ou.toNat) rfl wN Qd QY O)<|QJ (Xh (c:=(i4.R.set (oU p i4.k).ou.toNat y4.1).map Qs++[]) (T':=3) rfl QY .here (Xb (by simp only[ah];omega))) ?_
    rw[hd190];refine QJ (QC I)<|QJ (QH I Zz Xd)<|QJ (QW 1 (λF h9=>h9.1.1.1.2) rfl Xd I)<|QJ (Qo (n:=(oU p i4.k).fd.n) (0) (λF h9=>((h9.1.1.1.1.1.1.1.1.1.1.us _ (Q2 (show(el (ZY p.ul) i4.k).toNat<p.ul.length from O)))).fd) rfl wN YV Kf O)<|QJ (QH I GQ QY)<|QJ (Ql (n:=(oU p i4.k).fd.n) ((0)*2+0) (λF h9=>((h9.1.1.1.1.1.1.1.1.1.1.us _ (Q2 (show(el (ZY p.ul) i4.k).toNat<p.ul.length from O)))).fd) O rfl QY (JR (f:=Uj) (l:=(oU p i4.k).fl) YT O rfl))<|QJ (Qo (n:=rr.n) ((el (oU p i4.k).fl 0).k.toNat) (λF h9=>(by rw[hnrr];exact h9.1.1.1.1.1.2)) I wN Qd QY O)<|QJ (Ql (n:=rr.n) (((el (oU p i4.k).fl 0).k.toNat)*1) (λF h9=>(by rw[hnrr];exact h9.1.1.1.1.1.2)) O rfl QY (JP (o:=i2.D) O))<|QJ (Qn I I O)<|QJ (Qm (i:=(oU p i4.k).ou.toNat) rfl wN Qd QY O)<|X7<|QV (vs:=[_]) I I I QY I .here (Z5 (by simp only[ah];omega) _) wT ?_
    rw[bS];refine QF ?_;exact ZP (⟨y4.1+Xl i2.D (el (oU p i4.k).fl 0).k,by rw[if_pos hkI4]⟩) wZ QKK λF ⟨⟨⟨⟨⟨⟨⟨⟨⟨⟨hP,hz2⟩,_⟩,h45⟩,_⟩,hrow⟩,_⟩,hz14⟩,_⟩,_⟩,_⟩=>⟨⟨⟨⟨⟨⟨⟨⟨⟨⟨⟨hP,hz2⟩,trivial⟩,h45⟩,trivial⟩,hrow⟩,trivial⟩,hz14⟩,trivial⟩,trivial⟩,trivial⟩,trivial⟩
   have hkI4:(oU p i4.k).kd≠WA:=by simpa[WA]using hc2
   refine QN ?_;exact ZP (⟨y4.1,by rw[if_neg hkI4,fg]⟩) wZ QKK λF ⟨⟨⟨⟨⟨⟨⟨⟨⟨⟨hP,hz2⟩,_⟩,h45⟩,_⟩,hrow⟩,_⟩,hz14⟩,_⟩,_⟩,_⟩=>⟨⟨⟨⟨⟨⟨⟨⟨⟨⟨⟨hP,hz2⟩,trivial⟩,h45⟩,trivial⟩,hrow⟩,trivial⟩,hz14⟩,trivial⟩,trivial⟩,trivial⟩,trivial⟩
  intro z4;have hd205:Qb (i4.R.set (oU p i4.k).ou.toNat z4.1) (oU p i4.k).ou.toNat=z4.1:=(GC O O O).trans (if_pos rfl);have hz4:=z4.2;have hz4b:0<=z4.1:=by rw[hz4];split<;>omega
  refine wS I<|QA (QH I Yf QY)<|QA (QW 2 (λF h9=>h9.1.1.1.1.2) rfl QY I)<|QA (Qm (i:=(oU p i4.k).ou.toNat) rfl wN Qd QY O)<|QA (Xh (c:=(i4.R.set (oU p i4.k).ou.toNat z4.1).map Qs++[]) (T':=3) rfl QY .here (Xb (by simp only[ah];omega))) ?_
  rw[hd205];refine QMW 4 I ?_;refine QO I (λhc2=>?_) λhc2=>?_
  ·refine wA 5 I<|ZS ?_
   exact QM (false) rfl (wO rfl) (rfl) λF ⟨⟨⟨⟨⟨⟨⟨⟨⟨⟨⟨hP,hz2⟩,_⟩,h45⟩,_⟩,hrow⟩,_⟩,hz14⟩,_⟩,_⟩,_⟩,_⟩ h=>by cases h
  refine QN<|Qg<|QMY 3 I<|QA (Qn I I O)<|wB 2 I ?_
  exact Qj (⟨i4.k+1,i4.R.set (oU p i4.k).ou.toNat z4.1,i4.ok.next hV hlt4 hz4b (wi<|QLs hc2) λf hf=>by have h1:=hall f hf;have h2:=QII (D:=i2.D) (u:=(oU p i4.k)) hq5.1;show _+xD i2.D (oU p i4.k)<=_;omega⟩) (by show p.ul.length-(i4.k+1)<p.ul.length-i4.k;omega) wY QKK λF h=>⟨h.1.1.1.1.1.1,trivial⟩
 have hge4:p.ul.length<=i4.k:=wi<|QLs hc2
 refine JK ?_;refine wA 6 I ?_;exact QM (true) rfl (wO I) (rfl) λF ⟨⟨⟨⟨⟨⟨hP,hz2⟩,_⟩,h45⟩,_⟩,hrow⟩,_⟩ h=>⟨_,_,P5.of hV i2.ok i4.ok hge2 hge4⟩
structure UnF(u:Xi):Prop where
 st:H9 u.st 6=true
 cn:u.cl.length<=4
 cl:∀a∈u.cl,H9 a 3=true
 fl:∀f∈u.fl,H9 f.r 3=true
structure Uh(p:YB)(n:Nat):Prop where
 v:RE p
 un:p.ul.length<=n
 sh:p.sh<=n+1
 us:∀u∈p.ul,UnF u
 lw:∃D R,P5 p D R
theorem ux{p:YB}{n:Nat}(hF:Fits F w)(hP:GR F p)(hL:QC8 p)(hn:n<=1000):QS prog 105 [p.v,.int .i64 (n:Nat)] w F (λ(b:Bool)=>.bool b) (λb F=>b=true->Uh p n):=by
 have Ax:=hP.Mf;have hLu:=hL.un;refine QS.go (G:=λF=>GR F p) func105 hF hP ?_;refine QLF<|Q9 I (vs:=[_,_,_]) I λb2=>wR I<|JN (b:=b2) .here ?_
 refine K4 (ι:=PLift (RE p/\p.ul.length<=n/\p.sh<=n+1)) [(2,_)] (λkl=>[]) (λkl=>[]) (λkl F=>True) (by exact wT) ?_ ?_
 ·refine QLF<|QA (QH I XP Jf)<|QA (QW 1 w9 rfl Jf I)<|QA (Qc I Xk)<|wB 3 I ?_
  refine Qa (t:=13) rfl (λhb13=>?_) λhb13=>?_
  ·refine QMW 13 I<|Jv I<|wA 6 I ?_
   exact QM (false) rfl (wO rfl) (rfl) λF ⟨hP,hz2⟩ h=>by cases h
  refine QK I I<|QA (QH I K9 QY)<|QK I I<|QA (QW 0 w9 rfl QY I)<|wB 3 I<|QA (Qn I I O)<|wB 4 I ?_
  refine Qa (t:=20) rfl (λhb20=>?_) λhb20=>?_
  ·refine QMW 6 I<|Jv I<|wA 6 I ?_
   exact QM (false) rfl (wO rfl) (rfl) λF ⟨hP,hz2⟩ h=>by cases h
  refine QK I I<|QA (Jj w9 rfl ZL I)<|QK I I<|QL I (λ_ _ f k=>U6 f k.1 hL) λ_=>QMW 5 I ?_
  refine QO I (λhc2=>?_) λhc2=>?_
  ·refine wA 6 I ?_;exact QM (false) rfl (wO rfl) (rfl) λF ⟨⟨hP,hz2⟩,_⟩ h=>by cases h
  refine QN ?_;exact Kb (⟨RE.of (by simpa using hc2),by simp at hb13;omega,by simp at hb20;omega⟩) wT QKK λF h9=>⟨⟨h9.1.1,h9.1.2⟩,trivial⟩
 intro kl;obtain⟨hV,hun,hshn⟩:=kl.down;refine QG<|QLF<|wR rfl<|QQ<|Jt (ι:=zD p.ul UnF) [(2,_)] (λi=>[(5,.int .i64 ((i.i:Nat):Int))]) (λi=>p.ul.length-i.i) (⟨0,ar _,λx h=>by cases h⟩) wT wT λi=>?_
 have hi:=i.le;refine wA 4 I<|QA (QH I XP Jf)<|QA (QW 1 (λF h9=>h9.1.2) rfl Jf I)<|QA (Qc I Xk)<|QMW 3 I ?_
 refine QO I (λhc2=>?_) λhc2=>?_
 ·have hlt:i.i<p.ul.length:=wi<|QLr hc2
  have hfu:=(hP.us _ (Q2 hlt)).E9;have hf8:=Z0 (hV.us _ (Q2 hlt));refine QMX 6 I<|QA (QH I XP Jf)<|QA (QW 1 (λF h9=>h9.1.2) rfl Jf I)<|QJm I<|QA (Qo (n:=p.un.n) i.i (λF h9=>h9.1.1.un) rfl rfl Xk XJ O)<|QA (XE (n:=p.un.n) (vs:=[tx (el p.ul i.i).kd,.slice (el p.ul i.i).fd.q (el p.ul i.i).fd.n (el p.ul i.i).fd.cap,Qs ((el p.ul i.i).ou),tx (el p.ul i.i).st,.slice (el p.ul i.i).cv.q (el p.ul i.i).cv.n (el p.ul i.i).cv.cap]) ((i.i)*5) (λF h9=>h9.1.1.un) O rfl XJ I λj v hv=>JR (f:=MR) (l:=p.ul) ZI O hv)<|Qk TM λb6=>QV (vs:=[_,_,_,_,_]) I I I XJ I .here .h5 wX<|QJl<|JN (b:=b6) .here ?_
  refine K4 (ι:=PLift (H9 (el p.ul i.i).st 6=true/\(el p.ul i.i).cl.length<=4/\∀a∈(el p.ul i.i).cl,H9 a 3=true)) [(2,_),(5,_),(6,_)] (λk7=>[]) (λk7=>[]) (λk7 F=>True) (by exact wV) ?_ ?_
  ·refine QLF<|QA (QH I BN Ja)<|QA (QW 3 w9 rfl Ja I)<|QL I (λ_ _ f k=>I4 f wk) λ_=>QA (Xv I)<|QJm I ?_
   refine Qa (t:=41) rfl (λhb41=>?_) λhb41=>?_
   ·refine QMW 7 I<|Jv I<|wA 5 I<|ZS ?_
    exact QM (false) rfl (wO rfl) (rfl) λF ⟨⟨⟨⟨hP,hz2⟩,_⟩,hz6⟩,_⟩ h=>by cases h
   refine QK I I<|QA (QH I Wp Xg)<|QK I I<|QA (QW 4 (λF h9=>h9.1.2) rfl Xg I)<|QK I I<|QL I (λw F hF ⟨⟨⟨⟨hP,hz2⟩,_⟩,hz6⟩,_⟩=>yG hF (hP.us _ (Q2 hlt)).cv (hP.us _ (Q2 hlt)).Np wk (by have:=G6 (hV.us _ (Q2 hlt));have:=(hP.us _ (Q2 hlt)).Np;omega)) λ_=>QK I I<|QA (Xv I)<|QMW 3 I ?_
   refine QO I (λhc2=>?_) λhc2=>?_
   ·refine wA 5 I<|ZS ?_
    exact QM (false) rfl (wO rfl) (rfl) λF ⟨⟨⟨⟨⟨hP,hz2⟩,_⟩,hz6⟩,_⟩,_⟩ h=>by cases h
   refine QN ?_;exact Kb (⟨by simpa using hb41,by simp at hc2;have:=(hP.us _ (Q2 hlt)).Np;omega,by simp at hc2;exact hc2.2⟩) wV QKK λF h9=>⟨⟨⟨⟨h9.1.1.1.1.1,h9.1.1.1.1.2⟩,trivial⟩,h9.1.1.2⟩,trivial⟩
  intro k7;obtain⟨hst,hcn,hcl⟩:=k7.down;refine QLF<|wR rfl<|QQ<|Jt (ι:=zD (el p.ul i.i).fl λf=>H9 f.r 3=true) [(2,_),(5,_),(6,_)] (λi2=>[(7,.int .i64 ((i2.i:Nat):Int))]) (λi2=>(el p.ul i.i).fl.length-i2.i) (⟨0,ar _,λx h=>by cases h⟩) wV wT λi2=>?_
  have hi2:=i2.le;refine wA 4 I<|QA (QH I Zz Xd)<|QA (QW 1 (λF h9=>h9.1.2) rfl Xd I)<|QA (Qc I YV)<|QMW 3 I ?_
  refine QO I (λhc2=>?_) λhc2=>?_
  ·have hlt2:i2.i<(el p.ul i.i).fl.length:=wi<|QLr hc2
   refine QMX 6 I<|QA (QH I Zz Xd)<|QA (QW 1 (λF h9=>h9.1.2) rfl Xd I)<|QJm I<|QA (Qo (n:=(el p.ul i.i).fd.n) (i2.i) (λF h9=>((h9.1.1.1.1.us _ (Q2 (show i.i<p.ul.length from O)))).fd) rfl rfl YV Kf O)<|QA (QH I BM Ja)<|QA (Ql (n:=(el p.ul i.i).fd.n) ((i2.i)*2+1) (λF h9=>((h9.1.1.1.1.us _ (Q2 (show i.i<p.ul.length from O)))).fd) O rfl Ja (JR (f:=Uj) (l:=(el p.ul i.i).fl) YT O rfl))<|QL I (λ_ _ f k=>I4 f wk) λ_=>QA (Xv I)<|QF<|QD ?_
   refine QO I (λhc2=>?_) λhc2=>?_
   ·refine wA 5 I<|ZS ?_
    exact QM (false) rfl (wO rfl) (rfl) λF ⟨⟨⟨⟨⟨hP,hz2⟩,_⟩,hz6⟩,_⟩,_⟩ h=>by cases h
   refine QN<|Qg<|QMY 3 I<|QA (Qn I I O)<|wB 2 I ?_
   exact Qj (⟨i2.i+1,hlt2,B4 hlt2 i2.ok (by simpa using hc2)⟩) (by show(el p.ul i.i).fl.length-(i2.i+1)<(el p.ul i.i).fl.length-i2.i;omega) wW QKK w8
  have hge2:(el p.ul i.i).fl.length<=i2.i:=wi<|QLs hc2
  refine JK ?_;refine wA 2 I<|QA (Qn I I O)<|wB 2 I ?_
  exact Qj (⟨i.i+1,hlt,B4 hlt i.ok ⟨hst,hcn,hcl,i2.stop hge2⟩⟩) (by show p.ul.length-(i.i+1)<p.ul.length-i.i;omega) wU QKK λF h=>h.1.1
 have hge:p.ul.length<=i.i:=wi<|QLs hc2
 refine JK ?_;refine QLF<|QA (Jj (λF h9=>h9.1.2) rfl ZL I)<|QL I (λ_ _ f k=>QF3 f k.1.1 hV O) λc63=>wR I<|QU ?_
 exact QM (c63) rfl (wO I) (rfl) λF ⟨⟨⟨hP,hz2⟩,_⟩,h63⟩ h=>⟨hV,hun,hshn,i.stop hge,h63 h⟩
structure Rb(F c:Nat)(q:Rat):Prop where
 pos:0<F
 ex:∃z:Int,q=ey z F/\z.natAbs<=F*c
theorem Rb.lift{F:Nat}(h:Rb F c q)(k:0<G):Rb (F*G) c q:=by
 obtain⟨z,e,h1⟩:=h.ex;refine⟨ay h.pos k,z*G,?_,?_⟩
 ·grind[ew,Rat.divInt_mul_right]
 rw[eD,aZ,Nat.mul_right_comm];exact aG _ h1
def Rb.dvd{F:Nat}(h:Rb F c q)(k:F ∣ G)(h0:0<G):Rb G c q:=by
 obtain⟨g,rfl⟩:=k;exact h.lift (Nat.pos_of_mul_pos_left h0)
theorem Rb.mono{F d:Nat}(h:Rb F c q)(k:c<=d):Rb F d q:=by
 obtain⟨z,e,h1⟩:=h.ex;exact⟨h.pos,z,e,aa h1 (bO _ k)⟩
def Rb.of{F:Nat}(hd:q.den ∣ F)(h0:0<F)(hq:q.num.natAbs<=q.den*c):Rb F c q :=
 (⟨q.den_pos,q.num,(Rat.num_divInt_den q).symm,hq⟩:Rb q.den c q).dvd hd h0
theorem Rb.sub{F d:Nat}{r:Rat}(h:Rb F c q)(k:Rb F d r):Rb F (c+d) (q-r):=by
 obtain⟨z,rfl,h1⟩:=h.ex;obtain⟨y,rfl,h2⟩:=k.ex;refine⟨h.pos,z + -y,?_,?_⟩
 ·rw[Rat.sub_eq_add_neg,Rat.neg_divInt,IW h.pos]
 grind
theorem Rb.mul{F d:Nat}{r:Rat}(h:Rb F c q)(k:Rb G d r):Rb (F*G) (c*d) (q*r):=by
 obtain⟨z,rfl,h1⟩:=h.ex;obtain⟨y,rfl,h2⟩:=k.ex;refine⟨ay h.pos k.pos,z*y,by rw[eM,ew],?_⟩;rw[eD]
 calc z.natAbs*y.natAbs<=(F*c)*(G*d):=eB h1 h2
  _=F*G*(c*d):=by grind
theorem Rb.Zv{F c x y:Nat}(h:Rb F c q)(hx:sz (F:Int)<=x)(hy:sz (c:Int)<=y):YtphlgddkpboamaaGreatDoor.Zv q<=x+y:=by
 obtain⟨z,rfl,h1⟩:=h.ex;have h0:=h.pos;refine aa (Vt O) ?_;have h2:sz z<=sz ((F:Int)*(c:Int)):=Ur O
 grind[X8]
theorem Rb.const{F:Nat}(h:Rb F c q):Db F c (Ws q k):=by
 unfold Ws;split
 ·exact Db.nil h.pos c
 obtain⟨z,rfl,h1⟩:=h.ex;exact⟨h.pos,[(z,af k 0)],rfl,by trivial⟩
theorem Rb.scl{F d:Nat}{L:List Tm}(h:Rb G c q)(k:Db F d L):Db (G*F) (c*d) (Bn q L):=by
 obtain⟨y,rfl,h1⟩:=h.ex;obtain⟨Z,rfl,h2⟩:=k.ex;refine⟨ay h.pos k.pos,Z.map λz=>(y*z.1,z.2),?_,?_⟩
 ·rw[fb,Bn,fb];refine List.map_congr_left λz _=>?_;show(ey y G*ey z.1 F,z.2)=(ey _ ((G*F:Nat):Int),z.2);rw[ew,eM]
 rw[q8 y.natAbs _ (λz=>by simp[eD])]
 calc y.natAbs*zS Z<=(G*c)*(F*d):=eB h1 h2
  _=(G*F)*(c*d):=by grind
def gq{s:List UInt8}{d F:Nat}(h:H9 s (d:Int)=true)(hz:10^d<=2^z)(hd:(J4 s).den ∣ F)(h0:0<F):Rb F (2^z) (J4 s):=by
 have h1:=uG h hz;refine Rb.of hd h0 (aa (bU ((XK _ z).1 (aa (JZ _) h1))) (aM _ (J4 s).den_pos))
def xE{s:List UInt8}{d:Nat}(h:H9 s (d:Int)=true)(hz:10^d<=2^z):sz ((J4 s).den:Int)<=z:=aa (JQ _) (uG h hz)
def gL:List Rat->Nat
 |[]=>1
 |q::l=>q.den*gL l
theorem Ht:∀l,0<gL l
 |[]=>eQ
 |q::l=>ay q.den_pos (Ht l)
theorem j4:∀ {l:List Rat} {q:Rat},q∈l->q.den ∣ gL l
 |x::l,q,h=>by
  rcases List.mem_cons.1 h with rfl | h
  ·exact aR _ _
  exact bP (j4 h) (bY _ _)
theorem uC:∀ {l:List Rat},(∀q∈l,sz (q.den:Int)<=z)->sz ((gL l:Nat):Int)<=l.length*z+1
 |[],_=>by simp;decide
 |q::l,h=>by
  have h1:=uC λx hx=>h x (eP _ hx);have h2:=h q (bQ ..);have h3:=zY q.den (gL l);simp only[gL,aT,Nat.add_mul,Nat.one_mul];omega
def gF(u:Xi):Nat:=gL (u.fl.map λf=>J4 f.r)
def gC(u:Xi):Nat:=gL (u.cl.map J4)
def gU(u:Xi):Nat:=gF u*gC u
def gS(p:YB):Nat:=gL (p.ul.map λu=>J4 u.st)
theorem QFS{u:Xi}(h:UnF u):sz ((gF u:Nat):Int)<=u.fl.length*10+1:=by
 have:=uC (z:=10) λq hq=>by
  obtain⟨f,hf,rfl⟩:=List.mem_map.1 hq;exact xE (h.fl f hf) wk
 grind[gF]
theorem QJR{u:Xi}(h:UnF u):sz ((gC u:Nat):Int)<=41:=by
 have:=uC (z:=10) λq hq=>by
  obtain⟨f,hf,rfl⟩:=List.mem_map.1 hq;exact xE (h.cl f hf) wk
 have h2:=h.cn
 grind[gC,ax]
def QHE(u:Xi):0<gU u:=ay (Ht _) (Ht _)
theorem QJP{u:Xi}(h:UnF u)(hk:G3 sh u):sz ((gU u:Nat):Int)<=123:=by
 have h1:=QFS h;have h2:=QJR h;have h3:=zY (gF u) (gC u);grind[Z0,gU]
theorem QJQ{p:YB}(h:∀u∈p.ul,UnF u):sz ((gS p:Nat):Int)<=p.ul.length*20+1:=by
 have:=uC (z:=20) λq hq=>by
  obtain⟨f,hf,rfl⟩:=List.mem_map.1 hq;exact xE (h f hf).st wk
 grind[gS]
theorem QB4(h:UnF u){f:Lf}(hf:f∈u.fl):Rb (gF u) 1024 (J4 f.r):=gq (z:=10) (h.fl f hf) wk (j4 (aW hf)) (Ht _)
theorem QKo(h:UnF u){a:List UInt8}(ha:a∈u.cl):Rb (gC u) 1024 (J4 a):=gq (z:=10) (h.cl a ha) wk (j4 (aW ha)) (Ht _)
theorem QIT{p:YB}(h:∀u∈p.ul,UnF u){u:Xi}(hu:u∈p.ul):Rb (gS p) 1048576 (J4 u.st):=gq (z:=20) (h u hu).st wk (j4 (aW hu)) (Ht _)
theorem QDU:∀s∈RF sh us,s=[48]\/∃u∈us,s=u.st:=by
 have hg:∀(us:List Xi) (l:List _),∀s∈us.foldl (λl u=>l.set u.ou.toNat u.st) l,s∈l\/∃u∈us,s=u.st:=λus=>by
  induction us<;>grind[List.mem_or_eq_of_mem_set,bQ,eP]
 intro s hs;rcases hg us _ s hs with h | h
 all_goals simp_all
def QIK:J4 [48]=0:=wm
theorem QIQ{p:YB}(h:∀u∈p.ul,UnF u){s:List UInt8}(hs:s∈RF p.sh p.ul):Rb (gS p) 1048576 (J4 s):=by
 rcases QDU s hs with rfl | ⟨u,hu,rfl⟩
 ·rw[QIK];exact⟨Ht _,0,wv,wv⟩
 grind[QIT]
def KG(p:YB)(k:Nat):Nat:=((ZY p.ul).take k).countP λx=>!H8 (el p.ul x.toNat)
def Im(p:YB)(k:Nat):Nat:=((ZY p.ul).take k).countP λx=>H8 (el p.ul x.toNat)
def wK(p:YB):Nat->Nat
 |0=>gS p
 |k+1=>if H8 (oU p k)then wK p k else wK p k*gU (oU p k)
def mK(a:Nat):Nat:=2^(40+30*a)
theorem QD6(a:Nat):mK (a+1)=2^30*mK a:=by unfold mK;grind
def SD(a:Nat):0<mK a:=aE wk
def QIw(a:Nat):2^40<=mK a:=aF wk O
theorem QFL(a:Nat):sz ((mK a:Nat):Int)<=41+30*a:=(XK _ _).2 (by exact Nat.pow_lt_pow_right wk O)
theorem DH(p:YB):∀k,0<wK p k
 |0=>Ht _
 |k+1=>by
  have:=DH p k;rw[wK];split
  all_goals simp_all[ay,QHE]
theorem QFg(p:YB):∀k,gS p ∣ wK p k
 |0=>ff _
 |k+1=>by
  have:=QFg p k
  grind[wK,bP,aR]
theorem TF{p:YB}(h:k<(ZY p.ul).length):KG p (k+1)=KG p k+(if H8 (oU p k)then 0 else 1):=by
 unfold KG;rw[Wu h];show _+(if(!H8 (oU p k))=true then 1 else 0)=_
 grind
theorem F5{p:YB}(h:k<(ZY p.ul).length):Im p (k+1)=Im p k+(if H8 (oU p k)then 1 else 0):=by
 unfold Im;rw[Wu h];rfl
theorem QEb(p:YB)(k:Nat)(h:k<=(ZY p.ul).length):KG p k+Im p k=k:=by
 induction k with
 |zero=>rfl
 |succ k ih =>
  grind[TF,F5,H8,oU]
section
variable{p:YB}{n:Nat}(h:Uh p n)
include h
theorem Uh.QJZ:YtphlgddkpboamaaGreatDoor.Im p p.ul.length=YJ p.ul:=by
 have hI:=jY p.ul;have h2:(ZY p.ul).Perm (yf p.ul.length):=(List.perm_ext_iff_of_nodup hI.nd (by
  unfold yf;rw[List.Nodup,List.pairwise_map];exact List.nodup_range.imp λhne e=>hne O)).2 λx=>⟨λhx=>by
   have:=hI.rg x hx;rw[show x=((x.toNat:Nat):Int) by omega];exact QBa.2 O,λhx=>by
   obtain⟨k,hk,rfl⟩:=List.mem_map.1 hx;have:=h.v.all _ (ak _) (el p.ul k).ou;have hk2:=List.mem_range.1 hk;rcases this with g | g
   ·rw[h.v.Va hk2]at g;omega
   rw[h.v.Va hk2]at g;grind⟩
 unfold YtphlgddkpboamaaGreatDoor.Im;rw[aB (by rw[h.v.ord];omega),h2.countP_eq];unfold yf YJ;rw[eX]
 conv=>rhs;rw[<-AL p.ul,eX]
 rfl
theorem Uh.Im(hk:k<=p.ul.length):YtphlgddkpboamaaGreatDoor.Im p k<=YJ p.ul:=by
 rw[<-h.QJZ];exact(er hk).countP_le
theorem Uh.KG(hk:k<=p.ul.length):YtphlgddkpboamaaGreatDoor.KG p k+YJ p.ul<=p.ul.length:=by
 have h1:=QEb p (p.ul.length) (by rw[h.v.ord];omega);have h2:YtphlgddkpboamaaGreatDoor.KG p k<=YtphlgddkpboamaaGreatDoor.KG p _:=(er hk).countP_le;rw[h.QJZ]at h1;omega
theorem Uh.wsz{k:Nat}(hk:k<=p.ul.length):sz ((wK p k:Nat):Int)<=p.ul.length*20+1+123*YtphlgddkpboamaaGreatDoor.KG p k:=by
 induction k with
 |zero=>exact aa (QJQ h.us) (bW _ _)
 |succ k ih =>
  rw[TF (by rw[h.v.ord];omega),wK];split
  ·omega
  have h2:=QJP (h.us _ (h.v.mem (show k<p.ul.length by omega))) (h.v.ok (show k<p.ul.length by omega))
  grind[zY,wK,gU,oU]
end
def vF(p:YB)(R:List Int)(v:Nat):Int:=Qb (0::(p.ul.filter H8).map λu=>Xl R u.ou) v
def TB{l:List Xi}(h:i<l.length)(hi:H8 (el l i)=true):∃hh,(l.filter H8)[(l.take i).countP H8]'hh=el l i:=by
 have e:l=l.take i++el l i::l.drop (i+1):=by
  rw[ZH h,<-bA h,eH]
 have e2:l.filter H8=(l.take i).filter H8++el l i::(l.drop (i+1)).filter H8:=by
  conv=>lhs;rw[e]
  rw[List.filter_append,List.filter_cons,if_pos hi]
 have e3:((l.take i).filter H8).length=(l.take i).countP H8:=List.countP_eq_length_filter.symm;refine⟨by rw[e2,aC,aT];omega,?_⟩;simp only[e2];rw[List.getElem_append_right O];simp[e3]
def QEy{p:YB}(h:i<p.ul.length)(hi:H8 (el p.ul i)=true):vF p R (YJ (p.ul.take i)+1)=Xl R (el p.ul i).ou:=by
 obtain⟨hh,e⟩:=TB h hi;unfold vF YJ;rw[Gb (by rw[aT,ax];omega)];simp only[List.getElem_cons_succ,List.getElem_map];rw[e]
theorem QAZ{p:YB}(hv:RE p)(hL:P5 p D R)(v:Nat):0<=vF p R v/\vF p R v<=6:=by
 unfold vF;by_cases h:v<(0::(p.ul.filter H8).map λu=>Xl R u.ou).length
 ·rw[Gb h];have hm:=eU h;rcases List.mem_cons.1 hm with e | e
  ·rw[e];decide
  obtain⟨u,hu,e⟩:=List.mem_map.1 e;rw[<-e];have ho:=(hv.us u (List.mem_filter.1 hu).1).ou;exact hL.uw _ O ho.2
 rw[B0 O];decide
def qk{y:Rat}{k:List Int}(hy:y≠0):Canon [(y,k)]:=⟨List.pairwise_singleton _ _,λt ht=>by rw[List.mem_singleton.1 ht];exact hy⟩
theorem Pb.nil{F:Nat}{d:Int}{r:Int}(h:0<F):Pb N F c d V r []:=⟨Db.nil h c,λt ht=>by cases ht⟩
def Pb.var{F v:Nat}{d:Int}{r:Int}(h:0<F)(hc:0<c)(hv:v<N)(hd:1<=d)(hr:V v<=r):Pb N F c d V r [(1,(af N (0:Int)).set v 1)] :=
 ⟨Db.one h (by show(1:Nat) ∣ F;exact Nat.one_dvd F) (by show 1<=1*c;omega),λt ht=>by rw[List.mem_singleton.1 ht];exact Pg.var hv hd hr⟩
def Pb.const{F:Nat}{d:Int}{r:Int}(h:Rb F c q)(hd:0<=d):Pb N F c d V r (Ws q N):=⟨h.const,λt ht=>by
 unfold Ws at ht;split at ht
 ·cases ht
 rw[List.mem_singleton.1 ht];exact Pg.zero hd⟩
def Pb.dvd{F:Nat}{d:Int}{r:Int}{L:List Tm}(h:Pb N F c d V r L)(k:F ∣ G)(h0:0<G):Pb N G c d V r L:=⟨h.db.dvd k h0,h.pg⟩
def Pb.scl{F e:Nat}{d:Int}{r:Int}{L:List Tm}(h:Rb G e q)(k:Pb N F c d V r L):Pb N (G*F) (e*c) d V r (Bn q L):=⟨h.scl k.db,k.pg.scl⟩
def Pb.prod{F e:Nat}{d f:Int}{r:Int}{A B:List Tm}(h:Pb N F c d V r A)(k:Pb N G e f V r B):Pb N (F*G) (c*e) (d+f) V r (Xo A B):=⟨h.db.prod k.db,h.pg.prod k.pg (aj _) (aj _)⟩
structure Nw(p:YB)(D R:List Int)(k:Nat)(Sh:List (List Tm)):Prop where
 len:Sh.length=p.sh.toNat
 pb:∀s:Int,0<=s->s<p.sh->Pb (YJ p.ul+1) (wK p k^(Xl D s).toNat) (mK (KG p k)^(Xl D s).toNat) (Xl D s) (vF p R) (Xl R s) (el Sh s.toNat)/\Canon (el Sh s.toNat)
def Aa[Inhabited α]{l:List α}{i j:Nat}{x:α}(h:i<l.length):el (l.set i x) j=if j=i then x else el l j:=by
 by_cases hj:j<l.length
 ·rw[ZH (by rw[ah];exact hj),List.getElem_set];by_cases e:i=j
  ·rw[if_pos e,if_pos e.symm]
  rw[if_neg e,if_neg (Ne.symm e),ZH hj]
 rw[if_neg O];simp only[el,List.getD_eq_getElem?_getD];rw[eI (by rw[ah];omega),eI O]
theorem gz{a n:Nat}(h:1<=n):a ∣ a^n:=by have:=bJ a h;rwa [bZ]at this
theorem Nw.put{p:YB}{Sh:List (List Tm)}(h:Nw p D R k Sh){o:Int}(ho:0<=o/\o<p.sh){L:List Tm}(hL:Pb (YJ p.ul+1) (wK p k^(Xl D o).toNat) (mK (KG p k)^(Xl D o).toNat) (Xl D o) (vF p R) (Xl R o) L)(hc:Canon L):Nw p D R k (Sh.set o.toNat L) :=
 ⟨by rw[ah];exact h.len,λs h0 h1=>by
  rw[Aa (by rw[h.len];omega)];by_cases e:s=o
  ·subst e;rw[if_pos rfl];exact⟨hL,hc⟩
  rw[if_neg O];exact h.pb s h0 h1⟩
def Nw.start{p:YB}(hL:P5 p D R)(hs:1<=p.sh):Nw p D R 0 ((af p.sh.toNat []).set 0 [(1,(af (YJ p.ul+1) (0:Int)).set 0 1)]):=by
 have hw:=DH p 0;have h:Nw p D R 0 (af p.sh.toNat []):=⟨wv,λs h0 h1=>by
  rw[ZH wy,ba];exact⟨Pb.nil (aE hw),Canon.nil⟩⟩
 have hd:=hL.C6 0 (aj 0) O;exact h.put (o:=0) ⟨aj 0,O⟩ (Pb.var (aE hw) (aE (SD _)) O hd.1 (by show Qb (0::_) 0<=_;exact(hL.uw 0 (aj 0) O).1)) (qk wk)
def Nw.var{p:YB}{Sh:List (List Tm)}(h:Nw p D R 0 Sh)(hv:RE p)(hL:P5 p D R){i:Nat}(hi:i<p.ul.length)(hI:H8 (el p.ul i)=true):Nw p D R 0 (Sh.set (el p.ul i).ou.toNat [(1,(af (YJ p.ul+1) (0:Int)).set (YJ (p.ul.take i)+1) 1)]):=by
 have ho:=hv.ou hi;have hd:=hL.C6 (el p.ul i).ou O ho.2;have hn:YJ (p.ul.take i)<YJ p.ul:=by
  obtain⟨hh,_⟩:=TB hi hI;rw[<-bw]at hh;exact hh
 exact h.put ⟨O,ho.2⟩ (Pb.var (aE (DH p 0)) (aE (SD _)) O hd.1 (by rw[QEy hi hI];exact aj _)) (qk wk)
theorem Nw.skip{p:YB}{Sh:List (List Tm)}(h:Nw p D R k Sh)(hv:RE p)(hk:k<p.ul.length)(hI:H8 (oU p k)=true):Nw p D R (k+1) Sh:=by
 have e1:wK p (k+1)=wK p k:=by rw[wK,if_pos hI]
 have e2:KG p (k+1)=KG p k:=by rw[TF (by rw[hv.ord];exact hk),if_pos hI];rfl
 exact⟨h.len,λs h0 h1=>by rw[e1,e2];exact h.pb s h0 h1⟩
section
variable{p:YB}{D R:List Int}{k:Nat}{Sh:List (List Tm)}(hv:RE p)(hk:k<p.ul.length)(hI:H8 (oU p k)=false)
include hv hk hI
theorem QDN:wK p (k+1)=wK p k*gU (oU p k):=by rw[wK,if_neg (by rw[hI];decide)]
theorem QD7:mK (KG p (k+1))=2^30*mK (KG p k):=by
 rw[TF (by rw[hv.ord];exact hk),if_neg (by rw[hI];decide),QD6]
theorem Nw.next(h:Nw p D R k Sh){L:List Tm}(hL:Pb (YJ p.ul+1) (wK p (k+1)^(Xl D (oU p k).ou).toNat) (mK (KG p (k+1))^(Xl D (oU p k).ou).toNat) (Xl D (oU p k).ou) (vF p R) (Xl R (oU p k).ou) L)(hc:Canon L):Nw p D R (k+1) (Sh.set (oU p k).ou.toNat L):=by
 have ho:=(hv.ok hk).ou;have h1:Nw p D R (k+1) Sh:=⟨h.len,λs h0 h1=>by
  refine⟨((h.pb s h0 h1).1.mono ?_ (aj _) (aj _)).dvd ?_ (aE (DH p _)),(h.pb s h0 h1).2⟩
  ·rw[QD7 hv hk hI];exact Nat.pow_le_pow_left (aM _ wk) _
  rw[QDN hv hk hI];rw[aS];exact aR _ _⟩
 exact h1.put ⟨O,ho.2⟩ hL hc
end
structure Av(p:YB)(D R:List Int)(k i:Nat)(SL:List Tm)(c:Rat):Prop where
 pb:Pb (YJ p.ul+1) (wK p (k+1)^(Xl D (oU p k).ou).toNat) (i*(1024*mK (KG p k)^(Xl D (oU p k).ou).toNat)) (Xl D (oU p k).ou) (vF p R) (Xl R (oU p k).ou) SL
 cn:Canon SL
 cb:Rb (wK p (k+1)) (1048576+i*1073741824) c
def SS(h:u.kd≠WA):H8 u=false:=by unfold H8;simpa using h
section
variable{p:YB}{n:Nat}{D R:List Int}{k:Nat}{Sh:List (List Tm)}(hM:Uh p n)(hn:n<=8)(hL:P5 p D R)(hk:k<p.ul.length)(hI:(oU p k).kd≠WA)
include hM hL hk
theorem dn1:1<=(Xl D (oU p k).ou).toNat/\(Xl D (oU p k).ou).toNat<=6:=by
 have ho:=(hM.v.ok hk).ou;have:=hL.C6 (oU p k).ou O ho.2;omega
include hI
theorem uH(hf:f∈(oU p k).fl):(0<=f.k/\f.k<p.sh)/\(1<=Xl D f.k/\Xl D f.k<=6)/\Xl D f.k*tm (oU p k)<=Xl D (oU p k).ou/\Xl D f.k<=Xl D (oU p k).ou/\Xl R f.k<=Xl R (oU p k).ou:=by
 have h1:=hM.v.fr hk hf;have h2:=(hL.un k hk).1 hI f hf;have h3:=(hL.un k hk).2 f (by rw[AJ hI];exact hf);have h4:=hL.C6 f.k h1.1 h1.2;have h5:Xl D f.k*1<=Xl D f.k*tm (oU p k):=bm QAf O;have ho:=(hM.v.ok hk).ou;have h6:=hL.C6 (oU p k).ou O ho.2;have h7:0<=xD D (oU p k):=by unfold xD;split;omega;first | omega | (rw[if_neg hI];omega)
 exact⟨h1,h4,h2,O,O⟩
theorem QBx:gF (oU p k) ∣ gU (oU p k):=aR _ _
theorem QFw(hS:Nw p D R k Sh){f:Lf}(hf:f∈(oU p k).fl):Pb (YJ p.ul+1) (wK p (k+1)^(Xl D (oU p k).ou).toNat) (1024*mK (KG p k)^(Xl D (oU p k).ou).toNat) (Xl D (oU p k).ou) (vF p R) (Xl R (oU p k).ou) (Bn (J4 f.r) (el Sh f.k.toNat)):=by
 obtain⟨h1,h2,_,h4,h5⟩:=uH hM hL hk hI hf;have hd:=dn1 hM hL hk;have h6:=(hS.pb f.k h1.1 h1.2).1;refine(((Pb.scl (QB4 (hM.us _ (hM.v.mem hk)) hf) h6)).mono ?_ h4 h5).dvd ?_ (aE (DH p _))
 ·exact bO _ (aF (SD _) O)
 rw[QDN hM.v hk (SS hI),aS,eG];exact ep (bJ _ O) (bP (QBx hM hL hk hI) (gz hd.1))
theorem Av.start:Av p D R k 0 [] (J4 (oU p k).st) :=
 ⟨by rw[fe];exact Pb.nil (aE (DH p _)),Canon.nil,by rw[fe];exact(QIT hM.us (hM.v.mem hk)).dvd (QFg p _) (DH p _)⟩
theorem Av.next(hS:Nw p D R k Sh){i:Nat}{SL:List Tm}{c:Rat}(s:Av p D R k i SL c){f:Lf}(hf:f∈(oU p k).fl){t:List UInt8}(ht:t∈RF p.sh p.ul):Av p D R k (i+1) (XO (SL++XO (Bn (J4 f.r) (el Sh f.k.toNat)))) (c-J4 f.r*J4 t):=by
 refine⟨(s.pb.app (QFw hM hL hk hI hS hf).norm).norm.mono (by rw[bF i];exact ak _) (aj _) (aj _),Zn _,?_⟩;have h1:=(QB4 (hM.us _ (hM.v.mem hk)) hf).mul (QIQ hM.us ht);refine(s.cb.sub (h1.dvd ?_ (DH p _))).mono O;rw[QDN hM.v hk (SS hI),eG];exact ep (QFg p k) (QBx hM hL hk hI)
theorem Av.cst{SL:List Tm}{c:Rat}(s:Av p D R k i SL c):Pb (YJ p.ul+1) (wK p (k+1)^(Xl D (oU p k).ou).toNat) (1048576+i*1073741824) (Xl D (oU p k).ou) (vF p R) (Xl R (oU p k).ou) (Ws c (YJ p.ul+1)):=by
 have hd:=dn1 hM hL hk;exact Pb.const (s.cb.dvd (gz hd.1) (aE (DH p _))) O
theorem Av.sum{SL:List Tm}{c:Rat}(s:Av p D R k i SL c)(hi:i<=8):Pb (YJ p.ul+1) (wK p (k+1)^(Xl D (oU p k).ou).toNat) (mK (KG p (k+1))^(Xl D (oU p k).ou).toNat) (Xl D (oU p k).ou) (vF p R) (Xl R (oU p k).ou) (SL++Ws c (YJ p.ul+1)):=by
 have hd:=dn1 hM hL hk;refine(s.pb.app (s.cst hM hL hk hI)).mono ?_ (aj _) (aj _);rw[QD7 hM.v hk (SS hI),aS];have g1:mK (KG p k)<=mK (KG p k)^(Xl D (oU p k).ou).toNat:=aa (by rw[bZ];exact ak _) (aF (SD _) hd.1);have g2:=QIw (KG p k);have g3:2^30<=(2^30)^(Xl D (oU p k).ou).toNat:=aa (by rw[bZ];exact ak _) (aF wk hd.1);have g4:=aG (mK (KG p k)^(Xl D (oU p k).ou).toNat) g3;have g5:i*(1024*mK (KG p k)^(Xl D (oU p k).ou).toNat)<=8*(1024*mK (KG p k)^(Xl D (oU p k).ou).toNat):=aG _ hi;generalize mK (KG p k)^(Xl D (oU p k).ou).toNat=X at *
 generalize (2^30)^(Xl D (oU p k).ou).toNat*X=Y at *
 omega
end
theorem Pb.eq{F F' c':Nat}{d d':Int}{r:Int}{L:List Tm}(h:Pb N F c d V r L)(h1:F=F')(h2:c=c')(h3:d=d'):Pb N F' c' d' V r L:=by simp_all
theorem QFn{g1 g2 W dn E:Nat}(h1:j*dn<=E)(h2:1<=E)(h3:1<=dn):g2*(g1*W^dn)^j ∣ (W*(g1*g2))^E:=by
 have h4:j<=j*dn:=bD _ h3;rw[aS,aS,aS,<-fh]
 grind[eG,eF,ep,bJ,gz]
theorem QIN{M dn E:Nat}(hM:0<M)(hj:j<=3)(h1:j*dn<=E)(h2:1<=E)(h3:1<=dn):(j+1)*(1024*(1024*M^dn)^j)<=(2^30*M)^E:=by
 have h4:j<=j*dn:=bD _ h3;rw[aS,aS,<-fh,<-eF,<-eF];refine eB ?_ (aF hM (by grind));refine aa ?_ (aF wk (show max 1 j<=E by omega));have:j=0\/j=1\/j=2\/j=3:=O
 grind
section
variable{p:YB}{n:Nat}{D R:List Int}{k:Nat}{Sh:List (List Tm)}(hM:Uh p n)(hn:n<=8)(hL:P5 p D R)(hk:k<p.ul.length)
def um(p:YB)(k:Nat)(Sh:List (List Tm)):List Tm:=XO (Bn (J4 (el (oU p k).fl 0).r) (el Sh (el (oU p k).fl 0).k.toNat))
def vJ(p:YB)(D:List Int)(k:Nat):Nat:=gF (oU p k)*wK p k^(Xl D (el (oU p k).fl 0).k).toNat
def vK(p:YB)(D:List Int)(k:Nat):Nat:=1024*mK (KG p k)^(Xl D (el (oU p k).fl 0).k).toNat
def Ls:0<vJ p D k:=ay (Ht _) (aE (DH p k))
structure TbS(p:YB)(D R:List Int)(k j:Nat)(SL:List Tm):Prop where
 pb:Pb (YJ p.ul+1) (gC (oU p k)*vJ p D k^(j-1)) (j*(1024*vK p D k^(j-1))) (((j-1:Nat):Int)*Xl D (el (oU p k).fl 0).k) (vF p R) (Xl R (oU p k).ou) SL
 cn:Canon SL
 z:j=0->SL=[]
def TbS.start:TbS p D R k 0 []:=⟨Pb.nil (ay (Ht _) (aE Ls)),Canon.nil,λ_=>rfl⟩
include hM hL hk
theorem QKH(hT:(oU p k).kd=K7)(hS:Nw p D R k Sh):Pb (YJ p.ul+1) (vJ p D k) (vK p D k) (Xl D (el (oU p k).fl 0).k) (vF p R) (Xl R (oU p k).ou) (um p k Sh):=by
 have hI:(oU p k).kd≠WA:=by rw[hT];trivial
 have hf:=Q2 (Z0 (hM.v.ok hk)).1;obtain⟨h1,_,_,_,h5⟩:=uH hM hL hk hI hf;exact((Pb.scl (QB4 (hM.us _ (hM.v.mem hk)) hf) (hS.pb _ h1.1 h1.2).1).norm).mono (ak _) (aj _) h5
theorem TbS.prod(hT:(oU p k).kd=K7)(hS:Nw p D R k Sh){j:Nat}{SL:List Tm}(s:TbS p D R k j SL):Pb (YJ p.ul+1) (gC (oU p k)*vJ p D k^j) (j*(1024*vK p D k^j)) ((j:Int)*Xl D (el (oU p k).fl 0).k) (vF p R) (Xl R (oU p k).ou) (Xo SL (um p k Sh)):=by
 cases j with
 |zero =>
  rw[s.z I];exact Pb.nil (ay (Ht _) (aE Ls))
 |succ i =>
  refine(s.pb.prod (QKH hM hL hk hT hS)).eq ?_ ?_ ?_
  all_goals grind
theorem TbS.sum(hT:(oU p k).kd=K7)(hS:Nw p D R k Sh){j:Nat}{SL:List Tm}(s:TbS p D R k j SL){a:List UInt8}(ha:a∈(oU p k).cl):Pb (YJ p.ul+1) (gC (oU p k)*vJ p D k^j) ((j+1)*(1024*vK p D k^j)) ((j:Int)*Xl D (el (oU p k).fl 0).k) (vF p R) (Xl R (oU p k).ou) (XO (Xo SL (um p k Sh))++Ws (J4 a) (YJ p.ul+1)):=by
 have hI:(oU p k).kd≠WA:=by rw[hT];trivial
 have hf:=Q2 (Z0 (hM.v.ok hk)).1;obtain⟨_,h2,_⟩:=uH hM hL hk hI hf;have hB:0<vK p D k:=ay wk (aE (SD _));have h1:=(s.prod hM hL hk hT hS).norm.app (Pb.const ((QKo (hM.us _ (hM.v.mem hk)) ha).dvd (aR _ _) (ay (Ht _) (aE Ls))) (eZ O O));refine h1.mono ?_ (aj _) (aj _)
 grind
theorem TbS.next(hT:(oU p k).kd=K7)(hS:Nw p D R k Sh){j:Nat}{SL:List Tm}(s:TbS p D R k j SL){a:List UInt8}(ha:a∈(oU p k).cl):TbS p D R k (j+1) (XO (XO (Xo SL (um p k Sh))++Ws (J4 a) (YJ p.ul+1))) :=
 ⟨(s.sum hM hL hk hT hS ha).norm,Zn _,λh=>O⟩
theorem QAg(hT:(oU p k).kd=K7){j c:Nat}{L:List Tm}(hj:j<(oU p k).cl.length)(hc:c<=j+1)(h:Pb (YJ p.ul+1) (gC (oU p k)*vJ p D k^j) (c*(1024*vK p D k^j)) ((j:Int)*Xl D (el (oU p k).fl 0).k) (vF p R) (Xl R (oU p k).ou) L):Pb (YJ p.ul+1) (wK p (k+1)^(Xl D (oU p k).ou).toNat) (mK (KG p (k+1))^(Xl D (oU p k).ou).toNat) (Xl D (oU p k).ou) (vF p R) (Xl R (oU p k).ou) L:=by
 have hI:(oU p k).kd≠WA:=by rw[hT];trivial
 have hf:=Q2 (Z0 (hM.v.ok hk)).1;obtain⟨_,h2,h3,_,_⟩:=uH hM hL hk hI hf;have hd:=dn1 hM hL hk;have hcn:=(hM.us _ (hM.v.mem hk)).cn;have htm:(j:Int)<=tm (oU p k):=by unfold tm;grind
 have hjd:(j:Int)*Xl D (el (oU p k).fl 0).k<=Xl D (oU p k).ou:=by
  refine bI ?_ h3;rw[Int.mul_comm];exact bm htm O
 have hjn:j*(Xl D (el (oU p k).fl 0).k).toNat<=(Xl D (oU p k).ou).toNat:=by
  grind
 refine(h.mono ?_ hjd (aj _)).dvd ?_ (aE (DH p _))
 ·rw[QD7 hM.v hk (SS hI)];exact aa (aG _ hc) (QIN (SD _) O hjn hd.1 O)
 rw[QDN hM.v hk (SS hI)];exact QFn hjn hd.1 O
end
theorem Iz(a E:Nat){x:Nat}(h:sz (a:Int)<=x):sz ((a^E:Nat):Int)<=E*x+1:=aa (QIO a E) (by simp_all[bO])
def VY{a b x y:Nat}(h:sz (a:Int)<=x)(k:sz (b:Int)<=y):sz ((a*b:Nat):Int)<=x+y:=aa (zY a b) (Nat.add_le_add h k)
structure Tw(N:Nat)(L:List Tm):Prop where
 pw:∀t∈L,t.2.length=N/\PW t.2
 w:Sz L
 LD:∀l m,L=l++m->(XO l).length<=900000000
theorem Tw.els{L:List Tm}(h:Tw N L):∀t∈L,t.2.length=N/\PW t.2/\Zv t.1<=90000:=λt ht=>⟨(h.pw t ht).1,(h.pw t ht).2,h.w.2 t ht⟩
def Pb.tw{F c x y:Nat}{d:Int}{r:Int}{L:List Tm}(h:Pb N F c d V r L)(hd:d<=6)(hN:N<=9)(hx:sz (F:Int)<=x)(hy:sz (c:Int)<=y)(hxy:x+y<=90000):Tw N L :=
 ⟨h.pw hd hN,h.wide hx hy hxy,h.QJY hd hN⟩
section
variable{p:YB}{n:Nat}{D R:List Int}{k:Nat}(hM:Uh p n)(hn:n<=8)(hL:P5 p D R)
include hM hn
theorem AI:YJ p.ul+1<=9:=by
 have:=hM.un
 grind[YJ,bK]
theorem QEw(hk:k<=p.ul.length):sz ((wK p k:Nat):Int)<=161+123*KG p k:=by
 have:=hM.wsz hk;have:=hM.un;omega
theorem QAY(hk:k<=p.ul.length){E:Nat}(hE:E<=6):sz ((wK p k^E:Nat):Int)<=7000/\sz ((mK (KG p k)^E:Nat):Int)<=1700:=by
 have h1:=QEw hM hn hk;have h2:=hM.KG hk;have h3:=hM.un;have h4:=Iz (wK p k) E (x:=1145) O;have h5:=Iz (mK (KG p k)) E (x:=281) (by grind[QFL,KG]);omega
include hL
theorem qS(hk:k<=p.ul.length){s:Int}(hs:0<=s/\s<p.sh){L:List Tm}(h:Pb (YJ p.ul+1) (wK p k^(Xl D s).toNat) (mK (KG p k)^(Xl D s).toNat) (Xl D s) (vF p R) (Xl R s) L):Tw (YJ p.ul+1) L:=by
 have hd:=hL.C6 s hs.1 hs.2;have h1:=QAY hM hn hk (E:=(Xl D s).toNat) O;exact h.tw hd.2 (AI hM hn) h1.1 h1.2 wk
theorem yV(hk:k<=p.ul.length){s:Int}(hs:0<=s/\s<p.sh){L:List Tm}(h:Pb (YJ p.ul+1) (wK p k^(Xl D s).toNat) (mK (KG p k)^(Xl D s).toNat) (Xl D s) (vF p R) (Xl R s) L)(hc:Canon L):L.length<=50000000 :=
 h.LD (hL.C6 s hs.1 hs.2).2 (AI hM hn) hc
end
def w6(p:YB):Nat:=wK p p.ul.length^6
def m6(p:YB):Nat:=mK (KG p p.ul.length)^6
def eK(p:YB):Nat->Nat
 |0=>1
 |k+1=>if H8 (oU p k)then(gF (oU p k)*gF (oU p k))*(w6 p*(w6 p*eK p k))else eK p k
def cK(p:YB):Nat->Nat
 |0=>1
 |k+1=>if H8 (oU p k)then 1048576*(m6 p*(6*m6 p*(1+8*cK p k)))else cK p k
def ki(p:YB):0<w6 p:=aE (DH p _)
def O2(p:YB):0<m6 p:=aE (SD _)
theorem xJ(p:YB):∀k,0<eK p k
 |0=>eQ
 |k+1=>by
  have:=xJ p k;rw[eK];split
  ·exact ay (ay (Ht _) (Ht _)) (ay (ki p) (ay (ki p) this))
  omega
def xY(p:YB):∀k,0<cK p k
 |0=>eQ
 |k+1=>by
  have:=xY p k;rw[cK];split
  ·exact ay wk (ay (O2 p) (ay (ay wk (O2 p)) O))
  omega
theorem QHH(p:YB)(k:Nat):eK p k ∣ eK p (k+1):=by
 grind[eK,bP,bY,ff]
def QJe(p:YB)(k:Nat):cK p k<=cK p (k+1):=by
 rw[cK];split
 ·refine aa (show cK p k<=1+8*cK p k by omega) ?_;refine aa (aM _ (ay (show 0<6 by decide) (O2 p))) ?_;exact aa (aM _ (O2 p)) (aM _ (show 0<1048576 by decide))
 omega
def vL:sz ((6:Nat):Int)<=3:=wk
def QFr:sz ((1048576:Nat):Int)<=21:=by trivial
def QAh{c:Nat}(h:0<c):sz ((1+8*c:Nat):Int)<=sz (c:Int)+5:=by
 have h1:=QE4 (show 1+8*c<=c*16 by omega);have h2:=zY c 16;have h3:sz ((16:Nat):Int)<=5:=wk;omega
theorem bud{a b:Nat}(h:a+b<=8):b*(1980+1476*a)<=32100/\b*(523+360*a)<=8100:=by
 have:a=0\/a=1\/a=2\/a=3\/a=4\/a=5\/a=6\/a=7\/a=8:=O
 grind
section
variable{p:YB}{n:Nat}{D R:List Int}{k:Nat}{Sh:List (List Tm)}(hM:Uh p n)(hn:n<=8)(hL:P5 p D R)
include hM hn
theorem QEx:sz ((w6 p:Nat):Int)<=967+738*KG p p.ul.length:=by
 have h1:=Iz _ 6 (QEw hM hn (ak _))
 grind[w6]
theorem QFM:sz ((m6 p:Nat):Int)<=247+180*KG p p.ul.length:=by
 have h1:=Iz (mK (KG p p.ul.length)) 6 (QFL _)
 grind[m6]
theorem QJV(hk:k<=p.ul.length):sz ((eK p k:Nat):Int)<=1+Im p k*(1980+1476*KG p p.ul.length):=by
 induction k with
 |zero=>exact aa (show sz ((1:Nat):Int)<=1 by decide) (bW _ _)
 |succ k ih =>
  have h1:=ih O;rw[F5 (by rw[hM.v.ord];omega),eK];split
  ·have h2:=QEx hM hn;have hkd:(oU p k).fl.length=2:=by
    have hs:=(hM.v.ok (show k<p.ul.length by omega)).shp;unfold PC at hs;rw[if_pos (show(oU p k).kd=WA by grind[H8]),eV]at hs;simp_all
   have h3:=QFS (hM.us _ (hM.v.mem (show k<p.ul.length by omega)));have h4:=VY (VY h3 h3) (VY h2 (VY h2 h1))
   grind
  omega
theorem QJd(hk:k<=p.ul.length):sz ((cK p k:Nat):Int)<=1+Im p k*(523+360*KG p p.ul.length):=by
 induction k with
 |zero=>exact aa (show sz ((1:Nat):Int)<=1 by decide) (bW _ _)
 |succ k ih =>
  have h1:=ih O;rw[F5 (by rw[hM.v.ord];omega),cK];split
  ·have h2:=QFM hM hn;have h4:=VY QFr (VY h2 (VY (VY vL h2) (aa (QAh (xY p k)) (bN h1 5))))
   grind
  omega
theorem QEQ(hk:k<=p.ul.length):sz ((eK p k:Nat):Int)<=33000/\sz ((cK p k:Nat):Int)<=9000/\sz ((w6 p:Nat):Int)<=7000/\sz ((m6 p:Nat):Int)<=1700:=by
 have h1:=QJV hM hn hk;have h2:=QJd hM hn hk;have h3:=QEx hM hn;have h4:=QFM hM hn;have h5:=hM.Im hk;have h6:=hM.KG (ak _);have h7:=hM.un;have h8:=bud (a:=KG p p.ul.length) (b:=Im p k) O;omega
include hL
theorem QE8(hS:Nw p D R p.ul.length Sh){s:Int}(h0:0<=s)(h1:s<p.sh):Pb (YJ p.ul+1) (w6 p) (m6 p) (Xl D s) (vF p R) (Xl R s) (el Sh s.toNat)/\Canon (el Sh s.toNat):=by
 have hd:=hL.C6 s h0 h1;obtain⟨g1,g2⟩:=hS.pb s h0 h1;exact⟨(g1.mono (aF (SD _) O) (aj _) (aj _)).dvd (bJ _ O) (ki p),g2⟩
end
structure qt(p:YB)(R:List Int)(k:Nat)(Rs:List (List Tm)):Prop where
 len:Rs.length=YJ p.ul
 pb:∀j,j<YJ p.ul->Pb (YJ p.ul+1) (eK p k) (cK p k) (vF p R (j+1)) (vF p R) 6 (el Rs j)/\Canon (el Rs j)
theorem qt.start{p:YB}:qt p R 0 (af (YJ p.ul) []):=⟨wv,λj hj=>by
 grind[ZH,Pb.nil,xJ,Canon.nil]⟩
theorem qt.up{p:YB}{Rs:List _}(h:qt p R k Rs):qt p R (k+1) Rs:=⟨h.len,λj hj=>⟨((h.pb j hj).1.mono (QJe p k) (aj _) (aj _)).dvd (QHH p k) (xJ p _),(h.pb j hj).2⟩⟩
section
variable{p:YB}{n:Nat}{D R:List Int}{k:Nat}{Sh Rs:List (List Tm)}(hM:Uh p n)(hn:n<=8)(hL:P5 p D R)(hk:k<p.ul.length)(hI:(oU p k).kd=WA)(hS:Nw p D R p.ul.length Sh)(hR:qt p R k Rs)
include hM hn hL hk hI
omit hn in
theorem yp:(oU p k).fl.length=2/\((0<=(el (oU p k).fl 0).k/\(el (oU p k).fl 0).k<p.sh)/\(0<=(el (oU p k).fl 1).k/\(el (oU p k).fl 1).k<p.sh))/\Xl R (el (oU p k).fl 1).k+Xl D (el (oU p k).fl 1).k-1+Xl D (el (oU p k).fl 0).k<=Xl R (oU p k).ou:=by
 have hs:=(hM.v.ok hk).shp
 unfold PC at hs
 rw[if_pos hI,eV]at hs
 have hl:=QLr hs.1
 have m0:el (oU p k).fl 0∈(oU p k).fl:=Q2 O
 have m1:el (oU p k).fl 1∈(oU p k).fl:=Q2 O
 have hm:el (oU p k).fl 1∈K6 (oU p k):=by
  unfold K6;rw[if_pos hI,ZH O,bA O];grind
 have h1:=(hL.un k hk).2 _ hm
 have h2:xD D (oU p k)=Xl D (el (oU p k).fl 0).k:=by
  unfold xD;rw[if_neg (by rw[hI];trivial),if_pos hI]
 rw[h2]at h1
 exact⟨hl,⟨hM.v.fr hk m0,hM.v.fr hk m1⟩,h1⟩
theorem QHa(hS:Nw p D R p.ul.length Sh)(hR:qt p R k Rs):pA Rs (el Sh (el (oU p k).fl 1).k.toNat) (YJ p.ul+1) (w6 p) (m6 p) (eK p k) (cK p k) (Xl D (el (oU p k).fl 1).k) (vF p R) (Xl R (el (oU p k).fl 1).k) 40000 12000:=by
 obtain⟨hl,⟨h0,h1⟩,h2⟩:=yp hM hL hk hI;have d0:=hL.C6 _ h0.1 h0.2;have d1:=hL.C6 _ h1.1 h1.2;have r1:=hL.uw _ h1.1 h1.2;have ho:=(hM.v.ok hk).ou;have ro:=hL.uw (oU p k).ou O ho.2;have hb:=QEQ hM hn (show k<=p.ul.length by omega);have hp:=QE8 hM hn hL hS h1.1 h1.2;exact
 { n:=by rw[hR.len]
   n9:=AI hM hn
   d6:=d1.2
   d1:=d1.1
   r0:=r1.1
   dr:=O
   E0:=xJ p k
   c0:=O2 p
   p:=hp.1
   cn:=hp.2
   v6:=QAZ hM.v hL
   rt:=λj hj=>hR.pb j (by rw[<-hR.len];exact hj)
   sx:=aa (VY hb.2.2.1 hb.1) wk
   sy:=aa (VY (VY vL hb.2.2.2) (aa (QAh (xY p k)) (bN hb.2.1 5))) wk
   xy:=by decide }
def rtP(p:YB)(k:Nat)(Sh Rs:List (List Tm)):List Tm:=Xo (el Sh (el (oU p k).fl 0).k.toNat) (MQ Rs (el Sh (el (oU p k).fl 1).k.toNat) Rs.length)
def rtY(p:YB)(k:Nat):Rat:=J4 (el (oU p k).fl 0).r*J4 (el (oU p k).fl 1).r
theorem QAt(hS:Nw p D R p.ul.length Sh)(hR:qt p R k Rs):Pb (YJ p.ul+1) (w6 p*(w6 p*eK p k)) (m6 p*(6*m6 p*(1+8*cK p k))) (Xl R (oU p k).ou) (vF p R) 6 (rtP p k Sh Rs):=by
 obtain⟨hl,⟨h0,h1⟩,h2⟩:=yp hM hL hk hI;have ha:=QHa hM hn hL hk hI hS hR;have g1:=(ha.MQ _ (ak _)).1.mono (ha.k8 (ak _)) (aj _) (aj _);have g2:=(QE8 hM hn hL hS h0.1 h0.2).1.mono (ak _) (aj _) (hL.uw _ h0.1 h0.2).2;exact(g2.prod g1).mono (ak _) O (aj _)
theorem QFy:Rb (gF (oU p k)*gF (oU p k)) 1048576 (rtY p k):=by
 obtain⟨hl,_,_⟩:=yp hM hL hk hI;exact(QB4 (hM.us _ (hM.v.mem hk)) (Q2 (show 0<(oU p k).fl.length by omega))).mul (QB4 (hM.us _ (hM.v.mem hk)) (Q2 (show 1<(oU p k).fl.length by omega)))
theorem QE9(hS:Nw p D R p.ul.length Sh)(hR:qt p R k Rs):Pb (YJ p.ul+1) (eK p (k+1)) (cK p (k+1)) (Xl R (oU p k).ou) (vF p R) 6 (Bn (rtY p k) (XO (rtP p k Sh Rs))):=by
 have h1:=Pb.scl (QFy hM hn hL hk hI) (QAt hM hn hL hk hI hS hR).norm;simp_all[eK,cK,if_pos,H8,oU]
def je(p:YB)(k:Nat):Nat:=YJ (p.ul.take (el (ZY p.ul) k).toNat)
theorem p4:je p k<YJ p.ul/\vF p R (je p k+1)=Xl R (oU p k).ou:=by
 obtain⟨i,g1,g2,e,_⟩:=hM.v.unit hk;have hi:H8 (el p.ul i)=true:=by grind[H8]
 unfold je;rw[g2,e,show((i:Nat):Int).toNat=i by omega];refine⟨?_,QEy g1 hi⟩;obtain⟨hh,_⟩:=TB g1 hi;rw[<-bw]at hh;exact hh
theorem qt.next(hS:Nw p D R p.ul.length Sh)(hR:qt p R k Rs):qt p R (k+1) (Rs.set (je p k) (XO (Bn (rtY p k) (XO (rtP p k Sh Rs))))):=by
 obtain⟨h1,h2⟩:=p4 hM hn hL hk hI;refine⟨by rw[ah];exact hR.len,λj hj=>?_⟩;rw[Aa (by rw[hR.len];exact h1)];by_cases e:j=je p k
 ·subst e;rw[if_pos rfl,h2];exact⟨(QE9 hM hn hL hk hI hS hR).norm,Zn _⟩
 rw[if_neg e];exact hR.up.pb j hj
theorem QIU(hS:Nw p D R p.ul.length Sh)(hR:qt p R k Rs):Tw (YJ p.ul+1) (rtP p k Sh Rs)/\Tw (YJ p.ul+1) (Bn (rtY p k) (XO (rtP p k Sh Rs)))/\(XO (rtP p k Sh Rs)).length<=50000000/\(∀t∈XO (rtP p k Sh Rs),Zv t.1<=90000):=by
 have hb:=QEQ hM hn (show k<=p.ul.length by omega);have hb2:=QEQ hM hn (show k+1<=p.ul.length by omega);have ho:=(hM.v.ok hk).ou;have ro:=hL.uw (oU p k).ou O ho.2;have h1:=QAt hM hn hL hk hI hS hR;have h2:=QE9 hM hn hL hk hI hS hR;have sx:sz ((w6 p*(w6 p*eK p k):Nat):Int)<=47000:=aa (VY hb.2.2.1 (VY hb.2.2.1 hb.1)) wk;have sy:sz ((m6 p*(6*m6 p*(1+8*cK p k)):Nat):Int)<=13000:=aa (VY hb.2.2.2 (VY (VY vL hb.2.2.2) (aa (QAh (xY p k)) (bN hb.2.1 5)))) wk;exact⟨h1.tw ro.2 (AI hM hn) sx sy wk,h2.tw ro.2 (AI hM hn) hb2.1 hb2.2.1 wk,h1.norm.LD ro.2 (AI hM hn) (Zn _),λt ht=>aa (h1.norm.db.Zv sx sy t ht) wk⟩
end
section
variable{n s m:List (Nat×Obj)}{x y z t:Nat×Obj}
theorem QId:(x::y::z::t::(n++(s++m))).Perm (m++(x::y::z::t::(n++s))):=by
 grind[List.append_assoc,List.perm_append_comm]
def QIc:(x::y::z::t::(n++(s++m))).Perm (n++(x::y::z::t::(s++m))) :=
 (eu [x,y,z,t] n _)
theorem QIb:(x::y::z::t::(n++(s++m))).Perm (s++(x::y::z::t::(n++m))):=by
 grind[eu]
def QKT:(x::y::z::t::(n++(s++m))).Perm ((x::y::z::t::(n++s))++m):=wv
end
theorem qG{q:Option Addr}{n cap:Nat}{ps:List GS}{L:List Tm}{s:List UInt8}(hs:JO s=0)(hF:Fits F w)(hR:Vl F ⟨q,n,cap⟩ ps (Xj L))(hw:Tw N (Bn (J4 s) L))(hz:∀t∈L,Zv t.1<=90000)(hl:L.length<=50000000):
  QS prog 183 [tx s,.slice q n cap] w F (λ(c:VW)=>c.1.v) (λc F=>Vl F c.1 c.2 (Xj (XO (Bn (J4 s) L)))):=by
 have h1:=hR.AN;have h2:=qF (cap:=cap) hF hR.1 hR.2.1 hR.2.2.2.2 hR.2.2.1 (by grind[YS]) (λt ht=>by grind) hw.pw hw.w (by grind)
 grind[ZR]
theorem cA{s:List UInt8}{k:Nat}(hs:JO s=0)(hF:Fits F w)(hk:k<=1000):QS prog 185 [tx s,.int .i64 (k:Nat)] w F (λ(c:VW)=>c.1.v) (λc F=>Vl F c.1 c.2 (Xj (Ws (J4 s) (k+1)))):=by
 have h:=yJ (y:=J4 s) hF hk
 grind[ZR]
theorem OJ{a b:VW}{A B:List Tm}(hF:Fits F w)(hA:Vl F a.1 a.2 (Xj A))(hB:Vl F b.1 b.2 (Xj B))(hw:Tw N (A++B))(hl:A.length<=50000000)(hm:B.length<=50000000):
  QS prog 182 [a.1.v,b.1.v] w F (λ(c:VW)=>c.1.v) (λc F=>Vl F c.1 c.2 (Xj (XO (A++B)))):=by
 have h1:=hA.AN;have h2:=hB.AN;exact pR hF hA.1 hA.2.1 hA.2.2.2.2 hA.2.2.1 hB.1 hB.2.1 hB.2.2.2.2 hB.2.2.1 hw.pw hw.w ⟨O,O⟩
theorem yD{a b:VW}{A B:List Tm}(hF:Fits F w)(hA:Vl F a.1 a.2 (Xj A))(hB:Vl F b.1 b.2 (Xj B))(ha:Tw N A)(hb:Tw N B)(hw:Tw N (Xo A B))(hl:A.length<=50000000)(hm:B.length<=50000000):
  QS prog 186 [a.1.v,b.1.v] w F (λ(c:VW)=>c.1.v) (λc F=>Vl F c.1 c.2 (Xj (XO (Xo A B)))):=by
 have h1:=hA.AN;have h2:=hB.AN;exact pO hF hA.1 hA.2.1 hA.2.2.2.2 hA.2.2.1 hB.1 hB.2.1 hB.2.2.2.2 hB.2.2.1 ha.els hb.els (λt ht=>(hw.pw t ht).2) hw.w hw.LD ⟨O,O⟩
def Ii(p:YB)(i:Nat):List Int:=(au i).map λj=>((YJ (p.ul.take j):Nat):Int)
def cI(p:YB)(i:Nat):Ii p (i+1)=Ii p i++[((YJ (p.ul.take i):Nat):Int)]:=by
 unfold Ii;rw[eW,aY];rfl
theorem ye(p:YB)(i:Nat):(Ii p i).length=i:=by simp[Ii]
theorem QDx{p:YB}(h:j<i):el (Ii p i) j=((YJ (p.ul.take j):Nat):Int):=by
 grind[ZH,ye,Ii]
def Ug(F:Gs)(ps:List VW)(Sh:List (List Tm)):Prop:=∀k,k<ps.length->Vl F (el ps k).1 (el ps k).2 (Xj (el Sh k))
theorem Ug.set{ps:List VW}{Sh:List _}(h:Ug F ps Sh)(hl:Sh.length=ps.length){i:Nat}{c:VW}{L:List Tm}(hc:Vl F c.1 c.2 (Xj L)):Ug F (ps.set i c) (Sh.set i L):=λk hk=>by
 rw[ah]at hk;by_cases hi:i<ps.length
 ·rw[Aa hi,Aa O];by_cases e:k=i
  ·simp_all
  rw[if_neg e,if_neg e];exact h k hk
 rw[eE O,eE O];exact h k hk
instance :Inhabited VW:=⟨(⟨none,0,0⟩,[])⟩
def Io:VW:=(⟨none,0,0⟩,[])
theorem Ug.zero(F:Gs)(n:Nat):Ug F (af n Io) (af n []):=λk hk=>by
 rw[ZH (by simp_all),ZH (by simp_all),ba,ba];exact⟨JC.nil F none 2,λ_ h=>(by cases h),rfl,ak _,rfl⟩
def zM(n:Nat):JL [Value.slice none 0 0] n=(af n Io).map (λe:VW=>e.1.v)++[]:=by simp[ZM,Io,Sr.v]
def QAk(a:List UInt8×List UInt8):∀v∈spC a,v.oneCell'=true:=by
 intro v hv;simp[spC]at hv;rcases hv with rfl | rfl<;>rfl
structure Rd1(p:YB)(D R:List Int) where
 i:Nat
 ps:List VW
 Sh:List (List Tm)
 nv:Value
 nob:List (Nat×Obj)
 nl:List (List UInt8)
 sv:Value
 sob:List (Nat×Obj)
 sl:List (List UInt8×List UInt8)
 mv:Value
 mob:List (Nat×Obj)
 le:i<=p.ul.length
 sh:Nw p D R 0 Sh
 pl:ps.length=p.sh.toNat
 hn:Q6 9 1 nv nl.length (nl.map tx) nob
 hs:Q6 63 2 sv sl.length (sl.flatMap spC) sob
 hm:Q6 3 1 mv i ((Ii p i).map Qs) mob
 nn:nl.length=YJ (p.ul.take i)
 sn:sl.length=YJ (p.ul.take i)
def Rd1.lk{p:YB}(s:Rd1 p D R):s.nl.length<=s.i/\s.sl.length<=s.i:=by
 have h:YJ _<=(p.ul.take s.i).length:=bK;rw[bj]at h;have:=s.nn;have:=s.sn;omega
theorem QFI(h:i<us.length)(hI:H8 (el us i)=true):YJ (us.take (i+1))=YJ (us.take i)+1:=by simp_all[YJ,Wu,if_pos]
def QFJ(h:i<us.length)(hI:¬H8 (el us i)=true):YJ (us.take (i+1))=YJ (us.take i):=by unfold YJ;rw[Wu h,if_neg hI];rfl
structure Rd2(p:YB)(D R:List Int) where
 k:Nat
 le:k<=p.ul.length
 ps:List VW
 Sh:List (List Tm)
 sh:Nw p D R k Sh
 pl:ps.length=p.sh.toNat
structure AdJ(p:YB)(D R:List Int)(k m:Nat) where
 i:Nat
 c:VW
 SL:List Tm
 q:Rat
 le:i<=m
 ok:Av p D R k i SL q
structure TbJ(p:YB)(D R:List Int)(k m:Nat) where
 j:Nat
 c:VW
 SL:List Tm
 le:j<=m
 ok:TbS p D R k j SL
structure Rd3(p:YB)(R:List Int) where
 k:Nat
 le:k<=p.ul.length
 rl:List VW
 Rs:List (List Tm)
 ok:qt p R k Rs
 pl:rl.length=YJ p.ul
structure ARd where
 nv:Value
 sv:Value
 rt:Sr
 rl:List VW
 Rs:List (List Tm)
 sh:Sr
 ps:List VW
 Sh:List (List Tm)
def Ct(L:List Tm):Prop:=(∀t∈L,PW t.2/\Zv t.1<=90000)/\L.length<=50000000
def zE(F:Gs)(c:ARd):Prop:=RwP F c.rt c.rl c.Rs/\RwP F c.sh c.ps c.Sh/\(∀L∈c.Rs,Ct L)/\(∀L∈c.Sh,Ct L)/\c.sh.n<=1000/\c.rt.n<=1000
section
variable{p:YB}{n:Nat}{D R:List Int}{k:Nat}{Sh:List (List Tm)}(hM:Uh p n)(hn:n<=8)(hL:P5 p D R)(hk:k<p.ul.length)
omit hM hn hL hk in
theorem QIm(h:i<p.ul.length)(hi:H8 (el p.ul i)=true):YJ (p.ul.take i)<YJ p.ul:=by
 obtain⟨hh,_⟩:=TB h hi
 rw[<-bw]at hh;exact hh
include hM hL hk
theorem Av.QKJ(hI:(oU p k).kd≠WA){e:Nat}{L:List Tm}(he:e<=9)(h:Pb (YJ p.ul+1) (wK p (k+1)^(Xl D (oU p k).ou).toNat) (e*(1024*mK (KG p k)^(Xl D (oU p k).ou).toNat)) (Xl D (oU p k).ou) (vF p R) (Xl R (oU p k).ou) L):Pb (YJ p.ul+1) (wK p (k+1)^(Xl D (oU p k).ou).toNat) (mK (KG p (k+1))^(Xl D (oU p k).ou).toNat) (Xl D (oU p k).ou) (vF p R) (Xl R (oU p k).ou) L:=by
 have hd:=dn1 hM hL hk;refine h.mono ?_ (aj _) (aj _);rw[QD7 hM.v hk (SS hI),aS];have g3:2^30<=(2^30)^(Xl D (oU p k).ou).toNat:=aa O (aF wk hd.1);have g4:=aG (mK (KG p k)^(Xl D (oU p k).ou).toNat) g3;have g5:e*(1024*mK _^(Xl D (oU p k).ou).toNat)<=9*(1024*mK (KG p k)^(Xl D (oU p k).ou).toNat):=aG _ he;omega
include hn
theorem Av.tw(hI:(oU p k).kd≠WA){e:Nat}{L:List Tm}(he:e<=9)(h:Pb (YJ p.ul+1) (wK p (k+1)^(Xl D (oU p k).ou).toNat) (e*(1024*mK (KG p k)^(Xl D (oU p k).ou).toNat)) (Xl D (oU p k).ou) (vF p R) (Xl R (oU p k).ou) L):Tw (YJ p.ul+1) L/\(Canon L->L.length<=50000000):=by
 have ho:=(hM.v.ok hk).ou;have h1:=Av.QKJ hM hL hk hI he h;exact⟨qS hM hn hL (show k+1<=p.ul.length from hk) ⟨O,ho.2⟩ h1,λhc=>yV hM hn hL (show k+1<=p.ul.length from hk) ⟨O,ho.2⟩ h1 hc⟩
theorem Av.two(hI:(oU p k).kd≠WA)(hS:Nw p D R k Sh){i:Nat}{SL:List Tm}{c:Rat}(s:Av p D R k i SL c)(hi:i<=8){f:Lf}(hf:f∈(oU p k).fl):Tw (YJ p.ul+1) (Bn (J4 f.r) (el Sh f.k.toNat))/\Tw (YJ p.ul+1) (SL++XO (Bn (J4 f.r) (el Sh f.k.toNat)))/\SL.length<=50000000/\(XO (Bn (J4 f.r) (el Sh f.k.toNat))).length<=50000000:=by
 have h1:=QFw hM hL hk hI hS hf;have h2:Pb (YJ p.ul+1) (wK p (k+1)^(Xl D (oU p k).ou).toNat) (1*(1024*mK (KG p k)^(Xl D (oU p k).ou).toNat)) (Xl D (oU p k).ou) (vF p R) (Xl R (oU p k).ou) (Bn (J4 f.r) (el Sh f.k.toNat)):=by simp_all
 have h3:=s.pb.app h1.norm;rw[<-bF i]at h3;exact⟨(Av.tw hM hn hL hk hI wk h2).1,(Av.tw hM hn hL hk hI O h3).1,(Av.tw hM hn hL hk hI O s.pb).2 s.cn,(Av.tw hM hn hL hk hI wk h2.norm).2 (Zn _)⟩
omit hL in
theorem Av.qsz{SL:List Tm}{c:Rat}(s:Av p D R k i SL c)(hi:i<=8):Zv c<=90000:=by
 have h1:=(QAY hM hn (show k+1<=p.ul.length from hk) (E:=1) wk).1
 rw[bZ]at h1
 have h2:sz ((1048576+i*1073741824:Nat):Int)<=35:=(XK _ _).2 O
 exact aa (s.cb.Zv h1 h2) wk
theorem QE7(hS:Nw p D R k Sh){s:Int}(h:0<=s/\s<p.sh):Tw (YJ p.ul+1) (el Sh s.toNat)/\(el Sh s.toNat).length<=50000000 :=
 ⟨qS hM hn hL (bU hk) h (hS.pb s h.1 h.2).1,yV hM hn hL (bU hk) h (hS.pb s h.1 h.2).1 (hS.pb s h.1 h.2).2⟩
theorem QFo(hT:(oU p k).kd=K7)(hS:Nw p D R k Sh):Tw (YJ p.ul+1) (Bn (J4 (el (oU p k).fl 0).r) (el Sh (el (oU p k).fl 0).k.toNat))/\Tw (YJ p.ul+1) (um p k Sh)/\(um p k Sh).length<=50000000:=by
 have hI:(oU p k).kd≠WA:=by rw[hT];trivial
 have hf:=Q2 (Z0 (hM.v.ok hk)).1;have h2:Pb (YJ p.ul+1) (wK p (k+1)^(Xl D (oU p k).ou).toNat) (1*(1024*mK (KG p k)^(Xl D (oU p k).ou).toNat)) (Xl D (oU p k).ou) (vF p R) (Xl R (oU p k).ou) (Bn (J4 (el (oU p k).fl 0).r) (el Sh (el (oU p k).fl 0).k.toNat)):=by grind[QFw]
 exact⟨(Av.tw hM hn hL hk hI wk h2).1,(Av.tw hM hn hL hk hI wk h2.norm).1,(Av.tw hM hn hL hk hI wk h2.norm).2 (Zn _)⟩
theorem pG(hT:(oU p k).kd=K7){j c:Nat}{L:List Tm}(hj:j<(oU p k).cl.length)(hc:c<=j+1)(h:Pb (YJ p.ul+1) (gC (oU p k)*vJ p D k^j) (c*(1024*vK p D k^j)) ((j:Int)*Xl D (el (oU p k).fl 0).k) (vF p R) (Xl R (oU p k).ou) L):Tw (YJ p.ul+1) L/\(Canon L->L.length<=50000000):=by
 have ho:=(hM.v.ok hk).ou;have h1:=QAg hM hL hk hT hj hc h;exact⟨qS hM hn hL (show k+1<=p.ul.length from hk) ⟨O,ho.2⟩ h1,λhc=>yV hM hn hL (show k+1<=p.ul.length from hk) ⟨O,ho.2⟩ h1 hc⟩
end
theorem Tw.cm{L:List Tm}(h:Tw N L)(hl:L.length<=50000000):Ct L:=⟨λt ht=>⟨(h.pw t ht).2,h.w.2 t ht⟩,hl⟩
section
variable{p:YB}{n:Nat}{D R:List Int}{Sh Rs:List (List Tm)}(hM:Uh p n)(hn:n<=8)(hL:P5 p D R)
include hM hn
theorem Nw.cm(hL:P5 p D R)(hS:Nw p D R p.ul.length Sh):∀L∈Sh,Ct L:=λL hm=>by
 obtain⟨i,hi,rfl⟩:=aX hm;have hi2:(i:Int)<p.sh:=wi hS.len;have h1:=hS.pb (i:Int) O hi2;rw[show((i:Int)).toNat=i by omega,ZH hi]at h1;exact(qS hM hn hL (ak _) ⟨O,hi2⟩ h1.1).cm (yV hM hn hL (ak _) ⟨O,hi2⟩ h1.1 h1.2)
theorem qt.cm(hL:P5 p D R)(hR:qt p R p.ul.length Rs):∀L∈Rs,Ct L:=λL hm=>by
 obtain⟨i,hi,rfl⟩:=aX hm;have h1:=hR.pb i (by rw[<-hR.len];exact hi);rw[ZH hi]at h1;have hb:=QEQ hM hn (ak _);have hv:=(QAZ hM.v hL (i+1)).2;exact(h1.1.tw hv (AI hM hn) hb.1 hb.2.1 wk).cm (h1.1.LD hv (AI hM hn) h1.2)
end
def tL1(k:List Int):Xj [((1:Rat),k)]=[([49],k)]:=by
 have h:Q8 1=[49]:=wm;simp[Xj,h]
theorem QGM{x:Int}(h:0<=x/\x<=1000000):(Q8 ((x:Int):Rat)).length<=1000:=by
 grind[Ho,jE,jF]
theorem qh(q:Rat)(k:Nat):(Ws q k).length<=50000000:=by grind[Ws]
theorem QFp(h:G3 sh u)(hT:u.kd=K7):1<=u.cl.length:=by
 have hs:=h.shp;unfold PC at hs;simp_all
theorem QKd(h:G3 sh u)(h1:u.kd≠SR)(h2:u.kd≠K7):H8 u=true:=by
 rcases h.kd with e | e | e
 all_goals grind[H8,absurd]
section
variable{p:YB}{n:Nat}{D R:List Int}{k:Nat}{Sh Rs:List (List Tm)}(hM:Uh p n)(hn:n<=8)(hL:P5 p D R)
include hM hn hL
theorem QIX(hS:Nw p D R p.ul.length Sh){s:Int}(h:0<=s/\s<p.sh):Tw (YJ p.ul+1) (el Sh s.toNat)/\(el Sh s.toNat).length<=50000000 :=
 ⟨qS hM hn hL (ak _) h (hS.pb s h.1 h.2).1,yV hM hn hL (ak _) h (hS.pb s h.1 h.2).1 (hS.pb s h.1 h.2).2⟩
variable(hk:k<p.ul.length)(hI:(oU p k).kd=WA)
include hk hI
theorem QIY(hS:Nw p D R p.ul.length Sh)(hR:qt p R k Rs):Tw (YJ p.ul+1) (MQ Rs (el Sh (el (oU p k).fl 1).k.toNat) Rs.length)/\(MQ Rs (el Sh (el (oU p k).fl 1).k.toNat) Rs.length).length<=50000000:=by
 have h:=QHa hM hn hL hk hI hS hR;have h1:=h.MQ _ (ak _);exact⟨h1.1.tw h.dr h.n9 h.sx (h.szc (h.k8 (ak _))) h.xy,h1.1.LD h.dr h.n9 h1.2⟩
theorem QKR:Zv (rtY p k)<=100000:=by
 obtain⟨hl,_,_⟩:=yp hM hL hk hI;have h1:=W3 (J4 (el (oU p k).fl 0).r) (J4 (el (oU p k).fl 1).r);have h2:=YS ((hM.v.ok hk).fd _ (Q2 (show 0<(oU p k).fl.length by omega))).2.1;have h3:=YS ((hM.v.ok hk).fd _ (Q2 (show 1<(oU p k).fl.length by omega))).2.1
 grind[rtY]
end
theorem QDX{p:YB}{n:Nat}(hF:Fits F w)(hP:GR F p)(hM:Uh p n)(hn:n<=8)(hL:P5 p D R)(hb:p.un.n<=1000000):QS prog 107 [p.v] w F (λ(c:ARd)=>.tuple #[.agg #[c.nv,c.rt.v,c.sv],c.sh.v]) (λc F=>zE F c):=by
 have Ax:=hP.Mf;have hV:=hM.v;have hs1:=hV.sh;have hon:=hV.ord;have hN9:=AI hM hn;have hl8:=aa hM.un hn;have hub:UnB p.ul:=λu hu=>by have h1:=Z0 (hV.us u hu);have h2:=(hP.us u hu).E9;omega
 have hou:∀u∈p.ul,0<=u.ou/\u.ou<p.sh:=λu hu=>wi<|(hV.us u hu).ou
 refine QS.go (G:=λF=>GR F p) func107 hF hP ?_;refine QLF<|Q9 I (vs:=[_,_,_]) I λb1=>Qk pB λb2=>wR I<|QG<|JN (b:=b1) .u1<|QB<|QA (Jj w9 rfl ZL I)<|QL I (λ_ _ f k=>Rp f k.1 O) λ_=>QMW 5 I<|QA (QH I K9 QY)<|QA (QW 0 (λF h9=>h9.1.2) rfl QY I)<|K5 (n:=p.sh.toNat) (bytes:=24) wN wN Vu YR zN I Cc O O λb28=>?_
 rw[zM];refine QMW 7 I<|QL I (λ_ _ f h=>Rl (v:=0) (k:=(YJ p.ul)) f O O) λc31=>QA (Qm (i:=0) rfl wN Vu YR O)<|QV (vs:=[_]) I I I YR I .here (Wl (f:=(λe:VW=>e.1.v)) (l:=af p.sh.toNat Io) (i:=0) wy c31) wT<|QJl<|QLF<|QA (Jj (λF h9=>h9.1.1.2) rfl ZL I)<|QL I (λ_ _ f k=>qE f k.1.1.1 hb O hou) λc34=>XA _ (λ_ _ f k=>k.2.2.1) λhn34=>QMW 6 I<|K5 (n:=(YJ p.ul)) (bytes:=24) wN wN Vu YR zN I Cc O O λb36=>?_
 rw[zM];refine QA (ZT I QA9 pB (.cons (vs:=[_]) I I I (.skip .h1) .nil))<|Qk pB λb7=>QV (vs:=[_,_,_]) I I I Lm I .here .h3 wV<|QMW 14 I<|XC (ι:=Rd1 p D R) [(1,_),(2,_),(4,_),(5,_),(6,_),(7,_)] (λi=>[(8,i.mv),(9,.int .i64 ((i.i:Nat):Int))]) (λi=>(b7,.cells [i.nv,.slice (some ⟨b36,0,none⟩) (YJ p.ul) (YJ p.ul),i.sv].toArray 155 (0,0))::(b36,.cells ((af (YJ p.ul) Io).map (λe:VW=>e.1.v)++[]).toArray 243 (0,0))::(b28,.cells ((i.ps).map (λe:VW=>e.1.v)++[]).toArray 243 (0,0))::(b2,.cells [.slice none 0 0,.slice none 0 0,.slice none 0 0].toArray 155 (0,0))::(i.nob++(i.sob++i.mob))) (λi F=>Ug F i.ps i.Sh) (λi=>p.ul.length-i.i) (⟨0,(af p.sh.toNat Io).set 0 c31,(af p.sh.toNat []).set 0 [(1,(af ((YJ p.ul)+1) (0:Int)).set 0 1)],.slice none 0 0,[],[],.slice none 0 0,[],[],.slice none 0 0,[],ar _,Nw.start hL hs1.1,wv,.nil,.nil,.nil,rfl,rfl⟩) wY wU QKK (λF h=>Ug.set (Ug.zero F _) wv (by rw[tL1];exact h.1.2)) λi=>wA 4 I<|QA (QH I XP Jf)<|QA (QW 1 (λF h9=>h9.1.1.1.1.2) rfl Jf I)<|QA (Qc I Xk)<|QMW 3 I ?_
 refine QO I (λhc2=>?_) λhc2=>?_
 ·have hlt:i.i<p.ul.length:=wi<|QLr hc2
  have ho1:=hV.ou hlt;have hlk:=i.lk;have hll:=i.le;refine QMX 7 I<|QA (QH I TC EX)<|QA (Qp I EX .here .h1) ?_
  obtain⟨q48,c48,hv48⟩:=i.hn.JW;refine QA (Qc (q:=q48) (n:=i.nl.length) (c:=c48) (by show some i.nv=_;rw[hv48]) FH)<|JG I (J2 Qd) QY HZ I I λb49=>KZ QId ?_
  refine EP (n:=i.i) (k:=1) (sz:=1) (news:=[.int .i64 ((i.nl.length:Nat):Int)]) I I Qd QY HZ I WR i.hm (Src.row (off:=0) w9 (λj q hq=>by rw[bz];rw[bh];exact hq) rfl) O O (by intro v hv;rw[List.mem_singleton.1 hv];rfl) (λv50 ob50 hr50=>?_);refine KZ QId.symm ?_;rw[show(Ii p i.i).map Qs++[.int .i64 ((i.nl.length:Nat):Int)]=(Ii p (i.i+1)).map Qs by rw[cI,aY,i.nn];rfl]at hr50;refine QMW 5 I<|QA (QH I XP Jf)<|QA (QW 1 (λF h9=>h9.1.1.1.1.1.2) rfl Jf I)<|QJm I<|QA (Qo (n:=p.un.n) i.i (λF h9=>h9.1.1.1.1.1.1.un) rfl rfl Xk XJ O)<|QA (XE (n:=p.un.n) (vs:=[tx (el p.ul i.i).kd,.slice (el p.ul i.i).fd.q (el p.ul i.i).fd.n (el p.ul i.i).fd.cap,Qs ((el p.ul i.i).ou),tx (el p.ul i.i).st,.slice (el p.ul i.i).cv.q (el p.ul i.i).cv.n (el p.ul i.i).cv.cap]) ((i.i)*5) (λF h9=>h9.1.1.1.1.1.1.un) O rfl XJ I λj v hv=>JR (f:=MR) (l:=p.ul) ZI O hv)<|Qk TM λb10=>QV (vs:=[_,_,_,_,_]) I I I XJ I .here .h5 wX<|QJl<|QG<|JN (b:=b10) .here<|QB<|QA (QH I KM Y5)<|QA (QW 0 w9 rfl Y5 I)<|QA (Xc I I)<|QF<|QD ?_
  refine QO I (λhc2=>?_) λhc2=>?_
  ·have hI1:H8 (el p.ul i.i)=true:=by simpa[H8,WA]using hc2
   have hlI:=QIm hlt hI1;have hnn:=i.nn;have hrl:=QGM (x:=((i.nl.length:Nat):Int)+1) O;refine QG<|Je 11 (.cons₂ _ (.cons₂ _ (.cons₂ _ (.cons₂ _ (aV _ _))))) mixed wj wj ?_
   simp only[ao,aA,aq,aD];refine QJ (QH I TC EX)<|QJ (Qp I EX .here .h1)<|QJ (QH I TC EX)<|QJ (Qp I EX .here .h1) ?_
   obtain⟨q63,c63,hv63⟩:=i.hn.JW;refine QJ (Qc (q:=q63) (n:=i.nl.length) (c:=c63) (by show some i.nv=_;rw[hv63]) FH)<|QJ (Qn I I O)<|QZ I (λ_ _ f k=>Ti f O) λ_=>QJ (Xe (a:=[122]) I I (by simp only[aT,ee];omega)) ?_
   refine XU I (J2 FH) Y5 z_9 I I (λb67=>?_) (λw h=>h.imp (.cons_cons _ (.cons_cons _ (.cons_cons _ (.cons_cons _ (aV _ _))))) w8);refine Ap QIc ?_;refine BW (n:=i.nl.length) (k:=1) (sz:=1) (news:=[tx ([122]++Q8 ((((i.nl.length:Nat):Int)+1:Int):Rat))]) I I FH Y5 z_9 I QJf i.hn (Src.row (off:=0) w9 (λj q hq=>by rw[bz];rw[bh];exact hq) rfl) O O (by intro v hv;rw[List.mem_singleton.1 hv];rfl) QKK (λ_ h=>h.1.1) (λv68 ob68 hr68=>?_);refine Ap QIc.symm ?_;obtain⟨q68,c68,rfl⟩:=hr68.JW;refine QJ (QH I TC EX)<|X7<|QV (vs:=[_]) I I I EX I .here .h1 wT<|QJl<|QG<|Je 8 (.cons₂ _ (.cons₂ _ (.cons₂ _ (.cons₂ _ (bT (aV _ _) _))))) mixed wj wj ?_
   simp only[ao,aA,aq,aD];refine QJ (QH I xI zR)<|QJ (Qp I zR .here (.skip (.skip .h1)))<|QJ (QH I BN Ja)<|QJ (QW 3 (λF h9=>h9.1.1.2) rfl Ja I)<|QZ I (λ_ _ f k=>qI f) λ_=>?_
   refine XU I (J2 QAm) Ll kg I I (λb75=>?_) (λw h=>h.imp (.cons_cons _ (.cons_cons _ (.cons_cons _ (.cons_cons _ (bT (aV _ _) _))))) w8);refine Ap QIb ?_;refine BW (n:=i.sl.length) (k:=1) (sz:=2) (news:=spC ((el p.ul i.i).st,(el p.ul i.i).st)) I I QAm Ll kg I QFW i.hs (Src.row (off:=0) w9 (λj q hq=>by rw[bz];rw[bh];exact hq) rfl) O O (QAk _) QKK (λ_ h=>h.1.1) (λv76 ob76 hr76=>?_);refine Ap QIb.symm ?_;obtain⟨q76,c76,rfl⟩:=hr76.JW;refine QJ (QH I xI zR)<|X7<|QV (vs:=[_]) I I I zR I .here (.skip (.skip .h1)) wT<|QJl<|Je 9 QKK mixed wj wj ?_
   simp only[ao,aA,aq,aD];refine QJ (QC I)<|QJ (QH I Yf QY)<|QJ (QW 2 (λF h9=>h9.1.1.1.1.2) rfl QY I)<|QJ (QH I TC EX)<|QJ (Qp I EX .here .h1)<|QJ (Qc I FH)<|QJ (QC I)<|QZ I (λ_ _ f h=>Rl (v:=i.nl.length+1) (k:=(YJ p.ul)) f O O) λc85=>QJ (Qm (i:=(el p.ul i.i).ou.toNat) rfl wN Vu YR O)<|X7<|QV (vs:=[_]) I I I YR I .u2 (Wl (f:=(λe:VW=>e.1.v)) (l:=i.ps) (i:=(el p.ul i.i).ou.toNat) (by rw[i.pl];omega) c85) wT<|QF<|Qg<|QMY 3 I<|QA (Qn I I O)<|wB 2 I ?_
   exact Qj (⟨i.i+1,i.ps.set (el p.ul i.i).ou.toNat c85,i.Sh.set (el p.ul i.i).ou.toNat [(1,(af ((YJ p.ul)+1) (0:Int)).set (YJ (p.ul.take i.i)+1) 1)],.slice q68 (i.nl.length+1) c68,ob68,i.nl++[[122]++Q8 ((((i.nl.length:Nat):Int)+1:Int):Rat)],.slice q76 (i.sl.length+1) c76,ob76,i.sl++[((el p.ul i.i).st,(el p.ul i.i).st)],v50,ob50,hlt,i.sh.var hV hL hlt hI1,by rw[ah];exact i.pl,by rw[aC,aY];exact hr68,by rw[aC,List.flatMap_append];simpa using hr76,hr50,by rw[aC,QFI hlt hI1,i.nn];rfl,by rw[aC,QFI hlt hI1,i.sn];rfl⟩) (by show p.ul.length-(i.i+1)<p.ul.length-i.i;omega) wa QKK λF ⟨⟨⟨⟨⟨⟨⟨⟨⟨⟨⟨⟨hP,hz1⟩,_⟩,h31⟩,h34⟩,hPl1⟩,hs49⟩,hz10⟩,_⟩,hs67⟩,_⟩,hs75⟩,h85⟩=>⟨⟨⟨⟨⟨hP,hz1⟩,trivial⟩,h31⟩,h34⟩,Ug.set hPl1 (by rw[i.sh.len,i.pl]) (by rw[tL1];rw[hnn]at h85;exact h85)⟩
  have hI1:¬H8 (el p.ul i.i)=true:=by simpa[H8,WA]using hc2
  refine QN<|Qg<|QMY 3 I<|QA (Qn I I O)<|wB 2 I ?_
  exact Qj (⟨i.i+1,i.ps,i.Sh,i.nv,i.nob,i.nl,i.sv,i.sob,i.sl,v50,ob50,hlt,i.sh,i.pl,i.hn,i.hs,hr50,by rw[QFJ hlt hI1];exact i.nn,by rw[QFJ hlt hI1];exact i.sn⟩) (by show p.ul.length-(i.i+1)<p.ul.length-i.i;omega) wa QKK λF h9=>⟨⟨⟨⟨⟨h9.1.1.1.1.1.1.1,h9.1.1.1.1.1.1.2⟩,trivial⟩,h9.1.1.1.1.2⟩,h9.1.1.1.2⟩,h9.1.1.2⟩
 have hge:i.i=p.ul.length:=by have:=QLs hc2;have:=i.le;omega
 refine JK ?_;refine QG<|QCo QKT ?_
 obtain⟨rm,hvm,hnm,hcm,hfixm⟩:=Q6.fix (w0:=w) (F0:=F) (bs1:=_::_::_::_::(i.nob++i.sob)) (G:=_) i.hm;refine Da hfixm ?_;rw[hvm];refine QB<|QA (Jj (λF h9=>h9.1.1.1.1.1.2) rfl ZL I)<|QL I (λ_ _ f k=>L7 f k.1.1.1.1.1.1 hb hub) λc88=>XA _ (λ_ _ f k=>k.2.2.1) λhn88=>QMW 5 I<|JN (b:=b7) .here<|QMX 5 I<|XC (ι:=Rd2 p D R) [(1,_),(2,_),(4,_),(5,_),(6,_),(7,_),(8,_),(11,_)] (λi2=>[(12,.int .i64 ((i2.k:Nat):Int))]) (λi2=>(b36,.cells ((af (YJ p.ul) Io).map (λe:VW=>e.1.v)++[]).toArray 243 (0,0))::(b28,.cells ((i2.ps).map (λe:VW=>e.1.v)++[]).toArray 243 (0,0))::(b2,.cells [.slice none 0 0,.slice none 0 0,.slice none 0 0].toArray 155 (0,0))::[]) (λi2 F=>Ug F i2.ps i2.Sh) (λi2=>p.ul.length-i2.k) (⟨0,ar _,i.ps,i.Sh,i.sh,i.pl⟩) wa wT (.cons₂ _ (.cons₂ _ (.cons₂ _ tB))) (λF h=>h.1.1.1.2) λi2=>wA 5 I<|QA (Qc I Qd)<|QMW 3 I ?_
 refine QO I (λhc2=>?_) λhc2=>?_
 ·have hlt2:i2.k<p.ul.length:=wi<|QLr hc2
  obtain⟨j9,hj9,hje,_,_⟩:=hV.unit hlt2;have hiu:(el (ZY p.ul) i2.k).toNat<p.ul.length:=by rw[hje];omega
  have hok:G3 p.sh (oU p i2.k):=hV.ok hlt2;have hum:(oU p i2.k)∈p.ul:=Q2 hiu;have ho:=hok.ou;have hfu:=(hP.us _ hum).E9;have hcu:=(hP.us _ hum).Np;have hf8:=Z0 hok;have hc13:=G6 hok;refine QMX 5 I<|Je 9 QKK mixed wj wj ?_
  simp only[ao,aA,aq,aD];refine QJ (QH I XP Jf)<|QJ (QW 1 (λF h9=>h9.1.1.1.1.1.1.1.1.2) rfl Jf I)<|QJ (QC I)<|QJ (QC I)<|QJ (Qo (n:=c88.n) (i2.k) (λF h9=>h9.1.1.2.1) rfl rfl Qd QY O)<|QJ (Ql (n:=c88.n) ((i2.k)*1) (λF h9=>h9.1.1.2.1) O rfl QY (Jo (f:=Qs) (l:=(ZY p.ul)) O))<|QJ (Qo (n:=p.un.n) ((el (ZY p.ul) i2.k).toNat) (λF h9=>h9.1.1.1.1.1.1.1.1.1.un) rfl wN Xk XJ O)<|QJ (XE (n:=p.un.n) (vs:=[tx (oU p i2.k).kd,.slice (oU p i2.k).fd.q (oU p i2.k).fd.n (oU p i2.k).fd.cap,Qs ((oU p i2.k).ou),tx (oU p i2.k).st,.slice (oU p i2.k).cv.q (oU p i2.k).cv.n (oU p i2.k).cv.cap]) (((el (ZY p.ul) i2.k).toNat)*5) (λF h9=>h9.1.1.1.1.1.1.1.1.1.un) O rfl XJ I λj v hv=>JR (f:=MR) (l:=p.ul) ZI O hv)<|Gh TM λb13=>X7<|QV (vs:=[_,_,_,_,_]) I I I XJ I .here .h5 wX<|QJl<|QG<|JN (b:=b13) .here<|QB<|QA (QH I KM Y5)<|QA (QW 0 w9 rfl Y5 I)<|QMW 5 I<|QA (Xc I I)<|QMW 3 I ?_
  refine QO I (λhc2=>?_) λhc2=>?_
  ·have hkA:(oU p i2.k).kd=SR:=by simpa[SR]using hc2
   have hkN:(oU p i2.k).kd≠WA:=by show(oU p i2.k).kd≠WA;rw[hkA];exact λe=>SQ.1 e.symm
   refine QLF<|QA (QH rfl BN Ja)<|QA (QW 3 w9 rfl Ja rfl)<|wR rfl<|QLF<|wR rfl<|QG<|QLF<|wR rfl<|QQ<|XC (ι:=AdJ p D R i2.k (oU p i2.k).fl.length) [(1,_),(2,_),(4,_),(5,_),(6,_),(7,_),(8,_),(11,_),(12,_),(13,_)] (λi3=>[(14,tx (Q8 i3.q)),(15,.slice i3.c.1.q i3.c.1.n i3.c.1.cap),(16,.int .i64 ((i3.i:Nat):Int))]) (λi3=>(b36,.cells ((af (YJ p.ul) Io).map (λe:VW=>e.1.v)++[]).toArray 243 (0,0))::(b28,.cells ((i2.ps).map (λe:VW=>e.1.v)++[]).toArray 243 (0,0))::(b2,.cells [.slice none 0 0,.slice none 0 0,.slice none 0 0].toArray 155 (0,0))::[]) (λi3 F=>Vl F i3.c.1 i3.c.2 (Xj i3.SL)) (λi3=>(oU p i2.k).fl.length-i3.i) (⟨0,Io,[],J4 (oU p i2.k).st,ar _,Av.start hM hL hlt2 hkN⟩) wc ⟨(congrArg (λl=>some (tx l)) (ZR hok.st).1),rfl,rfl,trivial⟩ QKK (λF _=>⟨JC.nil F none 2,λ_ h=>(by cases h),rfl,ak _,rfl⟩) λi3=>QG<|wS rfl<|QA (QH rfl Zz Xd)<|QA (QW 1 (λF h9=>h9.1.2) rfl Xd rfl)<|QA (Qc rfl YV)<|QA (QP rfl rfl rfl)<|QF<|QD ?_
   refine QO I (λhc2=>?_) λhc2=>?_
   ·have hlt3:i3.i<(oU p i2.k).fl.length:=wi<|QLr hc2
    have hf3:(el (oU p i2.k).fl i3.i)∈(oU p i2.k).fl:=Q2 hlt3;have hfr:=hok.fd _ hf3;have htw:=Av.two hM hn hL hlt2 hkN i2.sh i3.ok O hf3;have hsh:=QE7 hM hn hL hlt2 i2.sh hfr.1;have hqs:=Av.qsz hM hn hlt2 i3.ok O;have hst3:el (RF p.sh p.ul) (el (oU p i2.k).fl i3.i).k.toNat∈RF p.sh p.ul:=Q2 (by rw[PA];omega);have hss:JO (el (RF p.sh p.ul) (el (oU p i2.k).fl i3.i).k.toNat)=0:=vM (λu hu=>(hV.us u hu).st) _ hst3;have hsl:=PA p.sh p.ul;refine QMX 6 I<|QA (QH I Zz Xd)<|QA (QW 1 (λF h9=>h9.1.2) rfl Xd I)<|QJm I<|QA (Qo (n:=(oU p i2.k).fd.n) (i3.i) (λF h9=>((h9.1.1.1.1.1.1.1.1.1.1.1.us _ (Q2 (show(el (ZY p.ul) i2.k).toNat<p.ul.length from O)))).fd) rfl rfl YV Kf O)<|QA (XE (n:=(oU p i2.k).fd.n) (vs:=[.int .i64 ((el (oU p i2.k).fl (i3.i)).k),tx (el (oU p i2.k).fl (i3.i)).r]) ((i3.i)*2) (λF h9=>((h9.1.1.1.1.1.1.1.1.1.1.1.us _ (Q2 (show(el (ZY p.ul) i2.k).toNat<p.ul.length from O)))).fd) O rfl Kf I λj v hv=>JR (f:=Uj) (l:=(oU p i2.k).fl) YT O hv)<|Qk QDL λb17=>QV (vs:=[_,_]) I I I Kf I .here .h2 wU<|QJl<|QG<|JN (b:=b17) .here<|JE QKK mixed wj<|QJ (QC I)<|QJ (QH I BM Ja)<|QJ (QW 1 w9 rfl Ja I)<|QJ (QC I)<|QJ (QH I GQ QY)<|QJ (QW 0 w9 rfl QY I)<|QJ (Qm (i:=(el (oU p i2.k).fl i3.i).k.toNat) rfl wN Vu YR O)<|QJ (Xh (c:=(i2.ps).map (λe:VW=>e.1.v)++[]) (T':=243) rfl YR .u1 (TH (f:=(λe:VW=>e.1.v)) (by rw[i2.pl];omega)))<|QZ I (λw _ f k=>qG (N:=(YJ p.ul)+1) hfr.2.1 f (k.1.1.1.2 _ (by rw[i2.pl];omega)) htw.1 hsh.1.w.2 hsh.2) λc129=>QZ I (λ_ _ f k=>OJ (a:=i3.c) (b:=c129) (N:=(YJ p.ul)+1) f k.1.1.2 k.2 htw.2.1 htw.2.2.1 htw.2.2.2) λc130=>QJ (QE I)<|Qy<|QD<|JE QKK mixed wj<|QJ (QC I)<|QJ (QH I BM Ja)<|QJ (QW 1 (λF h9=>h9.1.1.2) rfl Ja I)<|QJ (QC I)<|QJ (QH I GQ QY)<|QJ (QW 0 (λF h9=>h9.1.1.2) rfl QY I)<|QJ (Qo (n:=c34.n) ((el (oU p i2.k).fl i3.i).k.toNat) (λF h9=>h9.1.1.1.1.1.1.1.1.1.1.2.1) rfl wN Z2 Ja O)<|QJ (Ql (n:=c34.n) (((el (oU p i2.k).fl i3.i).k.toNat)*1) (λF h9=>h9.1.1.1.1.1.1.1.1.1.1.2.1) O rfl Ja (Jo (f:=tx) (l:=(RF p.sh p.ul)) O))<|QZ I (λ_ _ f k=>I3 f hfr.2.1 hss) λ_=>?_
    refine QZ I (λ_ _ f h=>jM f O (by have:=W3 (J4 (el (oU p i2.k).fl i3.i).r) (J4 (el (RF p.sh p.ul) (el (oU p i2.k).fl i3.i).k.toNat));have:=YS hfr.2.1;have:=YS hss;omega)) (λ_=>QJ (QE I)<|Qy<|Qg<|QMY 3 I<|QA (Qn I I O)<|wB 2 I ?_);exact Qj (⟨i3.i+1,c130,_,_,hlt3,i3.ok.next hM hL hlt2 hkN i2.sh hf3 hst3⟩) (by show(oU p i2.k).fl.length-(i3.i+1)<(oU p i2.k).fl.length-i3.i;omega) ⟨rfl,rfl,rfl,rfl,rfl,rfl,rfl,rfl,rfl,rfl,rfl,rfl,rfl,trivial⟩ QKK λF ⟨⟨⟨⟨⟨⟨⟨⟨⟨⟨⟨⟨⟨⟨⟨⟨hP,hz1⟩,_⟩,h31⟩,h34⟩,hPl1⟩,hnum⟩,h88⟩,hz7⟩,hPl2⟩,hz13⟩,hC3⟩,hz17⟩,h129⟩,h130⟩,_⟩,_⟩=>⟨⟨⟨⟨⟨⟨⟨⟨⟨⟨⟨hP,hz1⟩,trivial⟩,h31⟩,h34⟩,hPl1⟩,hnum⟩,h88⟩,hz7⟩,hPl2⟩,hz13⟩,h130⟩
   have hge3:(oU p i2.k).fl.length<=i3.i:=wi<|QLs hc2
   have hle3:=i3.le;have hsum:=Av.sum hM hL hlt2 hkN i3.ok O;have hfin:Tw ((YJ p.ul)+1) (i3.SL++Ws i3.q ((YJ p.ul)+1))/\i3.SL.length<=50000000/\(Ws i3.q ((YJ p.ul)+1)).length<=50000000:=⟨qS hM hn hL (show i2.k+1<=p.ul.length from hlt2) ⟨O,ho.2⟩ hsum,(Av.tw hM hn hL hlt2 hkN O i3.ok.pb).2 i3.ok.cn,qh _ _⟩;refine JK ?_;refine Je 9 QKK mixed wj wj ?_;simp only[ao,aA,aq,aD];refine QJ (QC I)<|QJ (QH I Yf QY)<|QJ (QW 2 (λF h9=>h9.1.2) rfl QY I)<|QJ (QC I)<|QJ (QC I)<|QJ (QC I)<|QZ I (λ_ _ f h=>yJ (y:=i3.q) (k:=(YJ p.ul)) f O) λc147=>QZ I (λ_ _ f k=>OJ (a:=i3.c) (b:=c147) (N:=(YJ p.ul)+1) f k.1.2 k.2 hfin.1 hfin.2.1 hfin.2.2) λc148=>QJ (Qm (i:=(oU p i2.k).ou.toNat) rfl wN Vu YR O)<|X7<|QV (vs:=[_]) I I I YR I .u1 (Wl (f:=(λe:VW=>e.1.v)) (l:=i2.ps) (i:=(oU p i2.k).ou.toNat) (by rw[i2.pl];omega) c148) wT<|QF<|Qg<|Qg<|QMY 3 I<|QA (Qn I I O)<|wB 2 I ?_
   exact Qj (⟨i2.k+1,hlt2,i2.ps.set (oU p i2.k).ou.toNat c148,_,i2.sh.next hV hlt2 (SS hkN) hsum.norm (Zn _),by rw[ah];exact i2.pl⟩) (by show p.ul.length-(i2.k+1)<p.ul.length-i2.k;omega) wb QKK λF ⟨⟨⟨⟨⟨⟨⟨⟨⟨⟨⟨⟨⟨hP,hz1⟩,_⟩,h31⟩,h34⟩,hPl1⟩,hnum⟩,h88⟩,hz7⟩,hPl2⟩,hz13⟩,hC3⟩,h147⟩,h148⟩=>⟨⟨⟨⟨⟨⟨⟨⟨⟨hP,hz1⟩,trivial⟩,h31⟩,h34⟩,hPl1⟩,hnum⟩,h88⟩,hz7⟩,Ug.set hPl2 (by rw[i2.sh.len,i2.pl]) h148⟩
  have hkA:(oU p i2.k).kd≠SR:=by simpa[SR]using hc2
  refine QLF<|QA (Xc I I)<|QMW 3 I ?_
  refine QO I (λhc2=>?_) λhc2=>?_
  ·have hkT:(oU p i2.k).kd=K7:=by show(oU p i2.k).kd=K7;simpa[K7]using hc2
   have hkN:(oU p i2.k).kd≠WA:=by rw[hkT];exact λe=>SQ.2.1 e.symm
   have hf3:el (oU p i2.k).fl 0∈(oU p i2.k).fl:=(Q2 (show 0<(oU p i2.k).fl.length by omega):el (oU p i2.k).fl 0∈(oU p i2.k).fl);have hfr:=hok.fd _ hf3;have htx:=QFo hM hn hL hlt2 hkT i2.sh;have hsh:=QE7 hM hn hL hlt2 i2.sh hfr.1;have hcl1:1<=(oU p i2.k).cl.length:=QFp hok hkT;refine QG<|JE QKK mixed wj<|QJ (QH I Zz Xd)<|QJ (QW 1 w9 rfl Xd I)<|QJ (Qo (n:=(oU p i2.k).fd.n) (0) (λF h9=>((h9.1.1.1.1.1.1.1.1.1.1.us _ (Q2 (show(el (ZY p.ul) i2.k).toNat<p.ul.length from O)))).fd) rfl wN YV Kf O)<|QJ (QH I BM Ja)<|QJ (Ql (n:=(oU p i2.k).fd.n) ((0)*2+1) (λF h9=>((h9.1.1.1.1.1.1.1.1.1.1.us _ (Q2 (show(el (ZY p.ul) i2.k).toNat<p.ul.length from O)))).fd) O rfl Ja (JR (f:=Uj) (l:=(oU p i2.k).fl) YT O rfl))<|QJ (QC I)<|QJ (QH I Zz Xd)<|QJ (QW 1 w9 rfl Xd I)<|QJ (Qo (n:=(oU p i2.k).fd.n) (0) (λF h9=>((h9.1.1.1.1.1.1.1.1.1.1.us _ (Q2 (show(el (ZY p.ul) i2.k).toNat<p.ul.length from O)))).fd) rfl wN YV Kf O)<|QJ (QH I GQ QY)<|QJ (Ql (n:=(oU p i2.k).fd.n) ((0)*2+0) (λF h9=>((h9.1.1.1.1.1.1.1.1.1.1.us _ (Q2 (show(el (ZY p.ul) i2.k).toNat<p.ul.length from O)))).fd) O rfl QY (JR (f:=Uj) (l:=(oU p i2.k).fl) YT O rfl))<|QJ (Qm (i:=(el (oU p i2.k).fl 0).k.toNat) rfl wN Vu YR O)<|QJ (Xh (c:=(i2.ps).map (λe:VW=>e.1.v)++[]) (T':=243) rfl YR .u1 (TH (f:=(λe:VW=>e.1.v)) (by rw[i2.pl];omega)))<|QZ I (λw _ f k=>qG (N:=(YJ p.ul)+1) hfr.2.1 f (k.1.2 _ (by rw[i2.pl];omega)) htx.1 hsh.1.w.2 hsh.2) λc165=>QJ (QE I)<|Qy<|QMY 9 I<|QA (QH I Wp Xg)<|QA (QW 4 (λF h9=>h9.1.2) rfl Xg I)<|QA (Qc I Z2)<|QA (Jg I I O)<|wR I<|QQ<|XC (ι:=TbJ p D R i2.k (oU p i2.k).cl.length) [(1,_),(2,_),(4,_),(5,_),(6,_),(7,_),(8,_),(11,_),(12,_),(13,_),(18,_)] (λi4=>[(19,.slice i4.c.1.q i4.c.1.n i4.c.1.cap),(20,.int .i64 (((((oU p i2.k).cv.n:Nat):Int)-1-((i4.j:Nat):Int))))]) (λi4=>(b36,.cells ((af (YJ p.ul) Io).map (λe:VW=>e.1.v)++[]).toArray 243 (0,0))::(b28,.cells ((i2.ps).map (λe:VW=>e.1.v)++[]).toArray 243 (0,0))::(b2,.cells [.slice none 0 0,.slice none 0 0,.slice none 0 0].toArray 155 (0,0))::[]) (λi4 F=>Vl F i4.c.1 i4.c.2 (Xj i4.SL)) (λi4=>(oU p i2.k).cl.length-i4.j) (⟨0,Io,[],ar _,TbS.start⟩) we ⟨rfl,(congrArg (λz:Int=>some (ai .i64 z)) (by dsimp only;omega)),trivial⟩ QKK (λF _=>⟨JC.nil F none 2,λ_ h=>(by cases h),rfl,ak _,rfl⟩) λi4=>QG<|wS rfl<|QA (QP rfl rfl rfl) ?_
   refine QF<|QD ?_
   refine QO I (λhc2=>?_) λhc2=>?_
   ·have hlt4:i4.j<(oU p i2.k).cl.length:=wi<|QLr hc2
    have hma:el (oU p i2.k).cl ((oU p i2.k).cl.length-1-i4.j)∈(oU p i2.k).cl:=(Q2 (show(oU p i2.k).cl.length-1-i4.j<(oU p i2.k).cl.length by omega):_∈(oU p i2.k).cl);have hca:=hok.cv _ hma;have ht1:=pG hM hn hL hlt2 hkT (j:=i4.j-1) (c:=i4.j) (show i4.j-1<(oU p i2.k).cl.length by omega) O i4.ok.pb;have ht2:=pG hM hn hL hlt2 hkT (j:=i4.j) (c:=i4.j) hlt4 O (i4.ok.prod hM hL hlt2 hkT i2.sh);have ht2n:=pG hM hn hL hlt2 hkT (j:=i4.j) (c:=i4.j) hlt4 O (i4.ok.prod hM hL hlt2 hkT i2.sh).norm;have ht3:=pG hM hn hL hlt2 hkT (j:=i4.j) (c:=i4.j+1) hlt4 O (i4.ok.sum hM hL hlt2 hkT i2.sh hma);refine QMX 4 I<|JE QKK mixed wj<|QJ (QC I)<|QJ (QC I)<|QZ I (λ_ _ f k=>yD (a:=i4.c) (b:=c165) (N:=(YJ p.ul)+1) f k.2 k.1.2 ht1.1 htx.2.1 ht2.1 (ht1.2 i4.ok.cn) htx.2.2) λc176=>QJ (QH I Wp Xg)<|QJ (QW 4 (λF h9=>h9.1.1.2) rfl Xg I)<|QJ (QC I)<|QJ (Qo (n:=(oU p i2.k).cv.n) (((oU p i2.k).cl.length-1-i4.j)) (λF h9=>((h9.1.1.1.1.1.1.1.1.1.1.1.1.us _ (Q2 (show(el (ZY p.ul) i2.k).toNat<p.ul.length from O)))).cv) rfl wN Z2 Ja O)<|QJ (Ql (n:=(oU p i2.k).cv.n) ((((oU p i2.k).cl.length-1-i4.j))*1) (λF h9=>((h9.1.1.1.1.1.1.1.1.1.1.1.1.us _ (Q2 (show(el (ZY p.ul) i2.k).toNat<p.ul.length from O)))).cv) O rfl Ja (Jo (f:=tx) (l:=(oU p i2.k).cl) O))<|QJ (QC I)<|QZ I (λ_ _ f h=>cA (k:=(YJ p.ul)) hca f O) λc183=>QZ I (λ_ _ f k=>OJ (a:=c176) (b:=c183) (N:=(YJ p.ul)+1) f k.1.2 k.2 ht3.1 (ht2n.2 (Zn _)) (qh _ _)) λc184=>QJ (QE I)<|Qy<|Qg<|QMY 3 I<|QA (Jg I I O)<|wB 2 I ?_
    exact Qj (⟨i4.j+1,c184,_,hlt4,i4.ok.next hM hL hlt2 hkT i2.sh hma⟩) (by show(oU p i2.k).cl.length-(i4.j+1)<(oU p i2.k).cl.length-i4.j;omega) ⟨rfl,rfl,rfl,rfl,rfl,rfl,rfl,rfl,rfl,rfl,rfl,rfl,(congrArg (λz:Int=>some (ai .i64 z)) (by dsimp only;omega)),trivial⟩ QKK λF ⟨⟨⟨⟨⟨⟨⟨⟨⟨⟨⟨⟨⟨⟨⟨hP,hz1⟩,_⟩,h31⟩,h34⟩,hPl1⟩,hnum⟩,h88⟩,hz7⟩,hPl2⟩,hz13⟩,h165⟩,hC4⟩,h176⟩,h183⟩,h184⟩=>⟨⟨⟨⟨⟨⟨⟨⟨⟨⟨⟨⟨hP,hz1⟩,trivial⟩,h31⟩,h34⟩,hPl1⟩,hnum⟩,h88⟩,hz7⟩,hPl2⟩,hz13⟩,h165⟩,h184⟩
   have hge4:(oU p i2.k).cl.length=i4.j:=by have:=QLs hc2;have:=i4.le;omega
   refine JK ?_;refine wA 2 I<|QA (QH I Yf QY)<|QA (QW 2 (λF h9=>h9.1.1.2) rfl QY I)<|QJm I<|QA (Qm (i:=(oU p i2.k).ou.toNat) rfl wN Vu YR O)<|QV (vs:=[_]) I I I YR I .u1 (Wl (f:=(λe:VW=>e.1.v)) (l:=i2.ps) (i:=(oU p i2.k).ou.toNat) (by rw[i2.pl];omega) i4.c) wT<|QF<|Qg<|Qg<|QMY 3 I<|QA (Qn I I O)<|wB 2 I ?_
   exact Qj (⟨i2.k+1,hlt2,i2.ps.set (oU p i2.k).ou.toNat i4.c,_,i2.sh.next hV hlt2 (SS hkN) (QAg hM hL hlt2 hkT (j:=i4.j-1) (c:=i4.j) (show i4.j-1<(oU p i2.k).cl.length by omega) O i4.ok.pb) i4.ok.cn,by rw[ah];exact i2.pl⟩) (by show p.ul.length-(i2.k+1)<p.ul.length-i2.k;omega) wb QKK λF ⟨⟨⟨⟨⟨⟨⟨⟨⟨⟨⟨⟨hP,hz1⟩,_⟩,h31⟩,h34⟩,hPl1⟩,hnum⟩,h88⟩,hz7⟩,hPl2⟩,hz13⟩,h165⟩,hC4⟩=>⟨⟨⟨⟨⟨⟨⟨⟨⟨hP,hz1⟩,trivial⟩,h31⟩,h34⟩,hPl1⟩,hnum⟩,h88⟩,hz7⟩,Ug.set hPl2 (by rw[i2.sh.len,i2.pl]) hC4⟩
  have hkT:(oU p i2.k).kd≠K7:=by simpa[K7]using hc2
  refine QN<|Qg<|Qg<|QMY 3 I<|QA (Qn I I O)<|wB 2 I ?_
  exact Qj (⟨i2.k+1,hlt2,i2.ps,i2.Sh,i2.sh.skip hV hlt2 (QKd hok hkA hkT),i2.pl⟩) (by show p.ul.length-(i2.k+1)<p.ul.length-i2.k;omega) wb QKK λF ⟨⟨⟨⟨⟨⟨⟨⟨⟨⟨hP,hz1⟩,_⟩,h31⟩,h34⟩,hPl1⟩,hnum⟩,h88⟩,hz7⟩,hPl2⟩,hz13⟩=>⟨⟨⟨⟨⟨⟨⟨⟨⟨hP,hz1⟩,trivial⟩,h31⟩,h34⟩,hPl1⟩,hnum⟩,h88⟩,hz7⟩,hPl2⟩
 have hge2:p.ul.length<=i2.k:=wi<|QLs hc2
 refine JK ?_;refine QG<|QG<|JN (b:=b28) .u1<|QMX 5 I<|XC (ι:=Rd3 p R) [(1,_),(2,_),(5,_),(7,_),(8,_),(11,_)] (λi5=>[(21,.int .i64 ((i5.k:Nat):Int))]) (λi5=>(b36,.cells ((i5.rl).map (λe:VW=>e.1.v)++[]).toArray 243 (0,0))::(b2,.cells [.slice none 0 0,.slice none 0 0,.slice none 0 0].toArray 155 (0,0))::[]) (λi5 F=>Ug F i5.rl i5.Rs) (λi5=>p.ul.length-i5.k) (⟨0,ar _,af (YJ p.ul) Io,af (YJ p.ul) [],qt.start,wv⟩) wY wT QKK (λF _=>Ug.zero F _) λi5=>?_
 have hSh:Nw p D R p.ul.length i2.Sh:=by have e:i2.k=p.ul.length:=eY i2.le hge2;rw[<-e];exact i2.sh
 refine wA 5 I<|QA (Qc I Qd)<|QMW 3 I ?_
 refine QO I (λhc2=>?_) λhc2=>?_
 ·have hlt5:i5.k<p.ul.length:=wi<|QLr hc2
  obtain⟨j9,hj9,hje,_,_⟩:=hV.unit hlt5;have hiu:(el (ZY p.ul) i5.k).toNat<p.ul.length:=by rw[hje];omega
  have hok:G3 p.sh (oU p i5.k):=hV.ok hlt5;have hum:(oU p i5.k)∈p.ul:=Q2 hiu;have ho:=hok.ou;have hfu:=(hP.us _ hum).E9;have hcu:=(hP.us _ hum).Np;have hf8:=Z0 hok;have hc13:=G6 hok;refine QMX 5 I<|Je 9 QKK mixed wj wj ?_
  simp only[ao,aA,aq,aD];refine QJ (QH I XP Jf)<|QJ (QW 1 (λF h9=>h9.1.1.1.1.1.1.1.1.1.1.2) rfl Jf I)<|QJ (QC I)<|QJ (QC I)<|QJ (Qo (n:=c88.n) (i5.k) (λF h9=>h9.1.1.1.1.2.1) rfl rfl Qd QY O)<|QJ (Ql (n:=c88.n) ((i5.k)*1) (λF h9=>h9.1.1.1.1.2.1) O rfl QY (Jo (f:=Qs) (l:=(ZY p.ul)) O))<|QJ (Qo (n:=p.un.n) ((el (ZY p.ul) i5.k).toNat) (λF h9=>h9.1.1.1.1.1.1.1.1.1.1.1.un) rfl wN Xk XJ O)<|QJ (XE (n:=p.un.n) (vs:=[tx (oU p i5.k).kd,.slice (oU p i5.k).fd.q (oU p i5.k).fd.n (oU p i5.k).fd.cap,Qs ((oU p i5.k).ou),tx (oU p i5.k).st,.slice (oU p i5.k).cv.q (oU p i5.k).cv.n (oU p i5.k).cv.cap]) (((el (ZY p.ul) i5.k).toNat)*5) (λF h9=>h9.1.1.1.1.1.1.1.1.1.1.1.un) O rfl XJ I λj v hv=>JR (f:=MR) (l:=p.ul) ZI O hv)<|Gh TM λb22=>X7<|QV (vs:=[_,_,_,_,_]) I I I XJ I .here .h5 wX<|QJl<|QG<|JN (b:=b22) .here<|QB<|QA (QH I KM Y5)<|QA (QW 0 w9 rfl Y5 I)<|QA (Xc I I)<|QF<|QD ?_
  refine QO I (λhc2=>?_) λhc2=>?_
  ·have hkI5:(oU p i5.k).kd=WA:=by show(oU p i5.k).kd=WA;simpa[WA]using hc2
   have hfd:(oU p i5.k).fl.length=2:=(yp hM hL hlt5 hkI5).1;have hm0:el (oU p i5.k).fl 0∈(oU p i5.k).fl:=Q2 O;have hm1:el (oU p i5.k).fl 1∈(oU p i5.k).fl:=Q2 O;have hk0:=(hok.fd _ hm0).1;have hk1:=(hok.fd _ hm1).1;have hr0:=(hok.fd _ hm0).2.1;have hr1:=(hok.fd _ hm1).2.1;have hnum5:=p4 (R:=R) hM hn hL hlt5 hkI5;have hne5:el (Ii p i.i) (el (ZY p.ul) i5.k).toNat=((je p i5.k:Nat):Int):=QDx O;have hg0:=QIX hM hn hL hSh hk0;have hga:=QIY hM hn hL hlt5 hkI5 hSh i5.ok;have hgt:=QIU hM hn hL hlt5 hkI5 hSh i5.ok;have hyz:=QKR hM hn hL hlt5 hkI5;refine ZO _ (λ_ _ f h=>(h.1.1.1.2 (el (oU p i5.k).fl 1).k.toNat (by rw[i2.pl];omega)).AN) (λhal=>QG<|JE QKK mixed wj<|QJ (QH I Zz Xd)<|QJ (QW 1 w9 rfl Xd I)<|QJ (Qo (n:=(oU p i5.k).fd.n) (0) (λF h9=>((h9.1.1.1.1.1.1.1.1.1.1.1.1.us _ (Q2 (show(el (ZY p.ul) i5.k).toNat<p.ul.length from O)))).fd) rfl wN YV Kf O)<|QJ (QH I BM Ja)<|QJ (Ql (n:=(oU p i5.k).fd.n) ((0)*2+1) (λF h9=>((h9.1.1.1.1.1.1.1.1.1.1.1.1.us _ (Q2 (show(el (ZY p.ul) i5.k).toNat<p.ul.length from O)))).fd) O rfl Ja (JR (f:=Uj) (l:=(oU p i5.k).fl) YT O rfl))<|QJ (QH I Zz Xd)<|QJ (QW 1 w9 rfl Xd I)<|QJ (Qo (n:=(oU p i5.k).fd.n) (1) (λF h9=>((h9.1.1.1.1.1.1.1.1.1.1.1.1.us _ (Q2 (show(el (ZY p.ul) i5.k).toNat<p.ul.length from O)))).fd) rfl wN YV Kf O)<|QJ (QH I BM Ja)<|QJ (Ql (n:=(oU p i5.k).fd.n) ((1)*2+1) (λF h9=>((h9.1.1.1.1.1.1.1.1.1.1.1.1.us _ (Q2 (show(el (ZY p.ul) i5.k).toNat<p.ul.length from O)))).fd) O rfl Ja (JR (f:=Uj) (l:=(oU p i5.k).fl) YT O rfl))<|QZ I (λ_ _ f k=>I3 f hr0 hr1) λ_=>QJ (QE I)<|Qy<|QD<|Je 32 QKK mixed wj wj ?_);simp only[ao,aA,aq,aD];refine QJ (QH I LB TZ)<|QJ (QW 1 (λF h9=>h9.1.1.1.1.1.2) rfl TZ I)<|QJ (QC I)<|QJ (QC I)<|QJ (QC I)<|QJ (Qo (n:=c88.n) (i5.k) (λF h9=>h9.1.1.1.1.1.1.2.1) rfl rfl Qd QY O)<|QJ (Ql (n:=c88.n) ((i5.k)*1) (λF h9=>h9.1.1.1.1.1.1.2.1) O rfl QY (Jo (f:=Qs) (l:=(ZY p.ul)) O))<|QJ (Qo (n:=rm.n) ((el (ZY p.ul) i5.k).toNat) (λF h9=>(by rw[hnm];exact h9.1.1.1.1.1.1.1.2)) I wN Qd QY O)<|QJ (Ql (n:=rm.n) (((el (ZY p.ul) i5.k).toNat)*1) (λF h9=>(by rw[hnm];exact h9.1.1.1.1.1.1.1.2)) O rfl QY (Jo (f:=Qs) (l:=Ii p i.i) (by rw[ye];omega)))<|QJ (QC I)<|QJ (QC I)<|QJ (QH I Zz Xd)<|QJ (QW 1 (λF h9=>h9.1.2) rfl Xd I)<|QJ (Qo (n:=(oU p i5.k).fd.n) (0) (λF h9=>((h9.1.1.1.1.1.1.1.1.1.1.1.1.1.us _ (Q2 (show(el (ZY p.ul) i5.k).toNat<p.ul.length from O)))).fd) rfl wN YV Kf O)<|QJ (QH I GQ QY)<|QJ (Ql (n:=(oU p i5.k).fd.n) ((0)*2+0) (λF h9=>((h9.1.1.1.1.1.1.1.1.1.1.1.1.1.us _ (Q2 (show(el (ZY p.ul) i5.k).toNat<p.ul.length from O)))).fd) O rfl QY (JR (f:=Uj) (l:=(oU p i5.k).fl) YT O rfl))<|QJ (Qo (n:=p.sh.toNat) ((el (oU p i5.k).fl 0).k.toNat) (λF h9=>(JC.of (n:=p.sh.toNat) (sz:=1) (cs:=i2.ps.map λe:VW=>e.1.v) (by have:=h9.1.1.1.2;rw[aQ]at this;exact this) (by rw[ax,i2.pl];omega))) I wN Vu YR O)<|QJ (Ql (n:=p.sh.toNat) (((el (oU p i5.k).fl 0).k.toNat)*1) (λF h9=>(JC.of (n:=p.sh.toNat) (sz:=1) (cs:=i2.ps.map λe:VW=>e.1.v) (by have:=h9.1.1.1.2;rw[aQ]at this;exact this) (by rw[ax,i2.pl];omega))) O rfl YR (Jo (f:=(λe:VW=>e.1.v)) (l:=i2.ps) (by rw[i2.pl];omega)))<|QJ (QH I LB TZ)<|QJ (QW 1 (λF h9=>h9.1.1.1.1.1.2) rfl TZ I)<|QJ (QC I)<|QJ (QH I Zz Xd)<|QJ (QW 1 (λF h9=>h9.1.2) rfl Xd I)<|QJ (Qo (n:=(oU p i5.k).fd.n) (1) (λF h9=>((h9.1.1.1.1.1.1.1.1.1.1.1.1.1.us _ (Q2 (show(el (ZY p.ul) i5.k).toNat<p.ul.length from O)))).fd) rfl wN YV Kf O)<|QJ (QH I GQ QY)<|QJ (Ql (n:=(oU p i5.k).fd.n) ((1)*2+0) (λF h9=>((h9.1.1.1.1.1.1.1.1.1.1.1.1.1.us _ (Q2 (show(el (ZY p.ul) i5.k).toNat<p.ul.length from O)))).fd) O rfl QY (JR (f:=Uj) (l:=(oU p i5.k).fl) YT O rfl))<|QJ (Qo (n:=p.sh.toNat) ((el (oU p i5.k).fl 1).k.toNat) (λF h9=>(JC.of (n:=p.sh.toNat) (sz:=1) (cs:=i2.ps.map λe:VW=>e.1.v) (by have:=h9.1.1.1.2;rw[aQ]at this;exact this) (by rw[ax,i2.pl];omega))) I wN Vu YR O)<|QJ (Ql (n:=p.sh.toNat) (((el (oU p i5.k).fl 1).k.toNat)*1) (λF h9=>(JC.of (n:=p.sh.toNat) (sz:=1) (cs:=i2.ps.map λe:VW=>e.1.v) (by have:=h9.1.1.1.2;rw[aQ]at this;exact this) (by rw[ax,i2.pl];omega))) O rfl YR (Jo (f:=(λe:VW=>e.1.v)) (l:=i2.ps) (by rw[i2.pl];omega)))<|Ny (bs1:=_) (by rw[i5.pl];rfl) (List.Perm.refl _) (cC (N:=(YJ p.ul)+1) (rl:=i5.rl) (rest:=[]) (rs:=i5.Rs) (L:=el i2.Sh (el (oU p i5.k).fl 1).k.toNat) (a:=el i2.ps (el (oU p i5.k).fl 1).k.toNat) (cap:=(YJ p.ul)) (λF ⟨⟨⟨⟨⟨⟨⟨⟨⟨⟨⟨⟨⟨hP,hz1⟩,_⟩,h31⟩,h34⟩,hPl1⟩,hnum⟩,h88⟩,hz7⟩,hPl2⟩,hz28⟩,hPl5⟩,hz22⟩,_⟩ k hk=>hPl5 k hk) (by rw[i5.ok.len,i5.pl]) (λF h9=>h9.1.1.1.1.2 _ (by rw[i2.pl];omega)) hal (QHa hM hn hL hlt5 hkI5 hSh i5.ok).wok (by rw[i5.pl];exact ak _)) (λ_ _ h=>h.imp QKK w8) λc246=>QZ I (λ_ _ f h=>yD (a:=el i2.ps (el (oU p i5.k).fl 0).k.toNat) (b:=c246) (N:=(YJ p.ul)+1) f (h.1.1.1.1.1.2 _ (by rw[i2.pl];omega)) h.2 hg0.1 hga.1 hgt.1 hg0.2 hga.2) λc247=>QZ I (λw _ f h=>qF (N:=(YJ p.ul)+1) (y:=rtY p i5.k) (ps:=c247.2) f h.2.1 h.2.2.1 h.2.2.2.2.2 h.2.2.2.1 hyz (λt ht=>aa (hgt.2.2.2 t ht) wk) hgt.2.1.pw hgt.2.1.w (by rw[h.2.AN];exact aa hgt.2.2.1 wk)) λc248=>QJ (Qm (i:=(je p i5.k)) I wN Vu YR O)<|X7<|QV (vs:=[_]) I I I YR I .here (Wl (f:=(λe:VW=>e.1.v)) (l:=i5.rl) (i:=(je p i5.k)) (by rw[i5.pl];exact hnum5.1) c248) wT<|QF<|Qg<|QMY 3 I<|QA (Qn I I O)<|QJn I ?_
   refine QF ?_;exact Qj (⟨i5.k+1,hlt5,i5.rl.set (je p i5.k) c248,_,qt.next hM hn hL hlt5 hkI5 hSh i5.ok,by rw[ah];exact i5.pl⟩) (by show p.ul.length-(i5.k+1)<p.ul.length-i5.k;omega) wZ QKK λF ⟨⟨⟨⟨⟨⟨⟨⟨⟨⟨⟨⟨⟨⟨⟨⟨hP,hz1⟩,_⟩,h31⟩,h34⟩,hPl1⟩,hnum⟩,h88⟩,hz7⟩,hPl2⟩,hz28⟩,hPl5⟩,hz22⟩,_⟩,h246⟩,h247⟩,h248⟩=>⟨⟨⟨⟨⟨⟨⟨⟨⟨⟨⟨hP,hz1⟩,trivial⟩,h31⟩,h34⟩,hPl1⟩,hnum⟩,h88⟩,hz7⟩,hPl2⟩,hz28⟩,Ug.set hPl5 (by rw[i5.ok.len,i5.pl]) h248⟩
  refine QN<|Qg<|QMY 3 I<|QA (Qn I I O)<|wB 2 I ?_
  exact Qj (⟨i5.k+1,hlt5,i5.rl,i5.Rs,i5.ok.up,i5.pl⟩) (by show p.ul.length-(i5.k+1)<p.ul.length-i5.k;omega) wZ QKK λF ⟨⟨⟨⟨⟨⟨⟨⟨⟨⟨⟨⟨hP,hz1⟩,_⟩,h31⟩,h34⟩,hPl1⟩,hnum⟩,h88⟩,hz7⟩,hPl2⟩,hz28⟩,hPl5⟩,hz22⟩=>⟨⟨⟨⟨⟨⟨⟨⟨⟨⟨⟨hP,hz1⟩,trivial⟩,h31⟩,h34⟩,hPl1⟩,hnum⟩,h88⟩,hz7⟩,hPl2⟩,hz28⟩,hPl5⟩
 have hge5:p.ul.length<=i5.k:=wi<|QLs hc2
 refine JK ?_;refine QG<|JN (b:=b36) .here ?_
 obtain⟨qn,cn,hvn⟩:=i.hn.JW;obtain⟨qs,cs,hvs⟩:=i.hs.JW;refine QB<|QA (Jj (λF h9=>h9.1.1.1.1.2) rfl Lm I)<|QJm I<|QV (vs:=[_,_,_]) I I I Lm I .here .h3 ⟨by rw[hvn];rfl,rfl,by rw[hvs];rfl,trivial⟩<|wR I<|QU ?_
 exact X4 (⟨i.nv,i.sv,⟨some ⟨b36,0,none⟩,YJ p.ul,YJ p.ul⟩,i5.rl,i5.Rs,⟨some ⟨b28,0,none⟩,p.sh.toNat,p.sh.toNat⟩,i2.ps,i2.Sh⟩) I (.J5 (c:=[_,_,_]) I Lm .here (wO I)) (rfl) λF h9=>⟨⟨JC.of (n:=YJ p.ul) (sz:=1) (cs:=i5.rl.map λe:VW=>e.1.v) (by have:=h9.2;rw[aQ]at this;exact this) (by rw[ax,i5.pl];omega),i5.pl,by rw[i5.ok.len,i5.pl],h9.1.2⟩,⟨JC.of (n:=p.sh.toNat) (sz:=1) (cs:=i2.ps.map λe:VW=>e.1.v) (by have:=h9.1.1.2;rw[aQ]at this;exact this) (by rw[ax,i2.pl];omega),i2.pl,by rw[i2.sh.len,i2.pl],h9.1.1.1.2⟩,qt.cm hM hn hL (by have e:i5.k=p.ul.length:=eY i5.le hge5;rw[<-e];exact i5.ok),Nw.cm hM hn hL hSh,by show p.sh.toNat<=1000;omega,by show YJ p.ul<=1000;omega⟩
theorem uy{q:Option Addr}{n cap:Nat}{ps:List GS}(hF:Fits F w)(hR:JC F q n 2 (ps.flatMap We))(hP:WK F ps)(hln:ps.length=n)(hf:∀t∈ps,t.f.length<=1000000000/\PW t.k)(hl:ps.length<=1000000000):Qi prog 178 [.slice q n cap] w F (.int .i64 (vR (Ns ps))):=by
 have hal:(Ns ps).length=n:=by rw[xe];exact hln
 refine QS.go (G:=λF=>JC F q n 2 (ps.flatMap We)/\WK F ps) func178 hF ⟨hR,hP⟩ ?_;refine wA 12 I<|Jt (ι:=WT ps λt=>decide (t.k.sum>12)) [(0,_)] (λi=>[(3,.int .i64 ((i.i:Nat):Int))]) (λi=>ps.length-i.i) (WT.start _ _) wT wT λi=>?_
 have hi:=i.le;refine wA 5 I<|QA (Qc I ZF)<|QMW 3 I ?_
 refine QO I (λhc=>?_) λhc=>?_
 ·have hlt:i.i<ps.length:=wi<|QLr hc
  have htm:=Q2 hlt;refine QMX 8 I<|QA (Qo (n:=n) i.i w8 rfl rfl ZF ZN O)<|QA (QH I Gi Qu)<|QA (Ql (n:=n) ((i.i)*2+1) w8 O rfl Qu (JR (f:=We) (l:=ps) K3 O rfl))<|QL I (λ_ _ f k=>WM f (r:=(el ps i.i).r) (k.2 _ htm) ((hf _ htm).2)) λ_=>QMW 3 I ?_
  refine QO I (λhc=>?_) λhc=>?_
  ·have h17:=hc;refine wA 5 I<|ZS ?_
   exact QMn I I (congrArg (ai .i64) (by unfold vR;rw[P0,if_pos (i.hit hlt h17)])) wz
  have h17:=hc;refine QN<|Qg<|QMY 3 I<|QA (Qn I I O)<|wB 2 I ?_
  exact Qj (i.next hlt h17) (by show ps.length-(i.i+1)<ps.length-i.i;omega) wU QKK w8
 have hge:ps.length<=i.i:=wi<|QLs hc
 have hn1:=i.stop hge;refine JK ?_;refine wA 4 I<|QA (Qc I ZF)<|QMW 3 I ?_
 refine QO I (λhc=>?_) λhc=>?_
 ·have h20:=hc;refine wA 6 I ?_;exact QMn I I (congrArg (ai .i64) (by unfold vR;rw[P0,if_neg hn1,hal,if_pos h20])) wz
 have h20:=hc;refine QMX 9 I<|Jt (ι:=WT ps λt=>DM t.f != 0) [(0,_)] (λi2=>[(4,.int .i64 ((i2.i:Nat):Int))]) (λi2=>ps.length-i2.i) (WT.start _ _) wT wT λi2=>?_
 have hi2:=i2.le;refine wA 5 I<|QA (Qc I ZF)<|QMW 3 I ?_
 refine QO I (λhc=>?_) λhc=>?_
 ·have hlt:i2.i<ps.length:=wi<|QLr hc
  have htm:=Q2 hlt;refine QMX 8 I<|QA (Qo (n:=n) (i2.i) w8 rfl rfl ZF ZN O)<|QA (QH I Dp Ja)<|QA (Ql (n:=n) ((i2.i)*2+0) w8 O rfl Ja (JR (f:=We) (l:=ps) K3 O rfl))<|QL I (λ_ _ f k=>yE f ((hf _ htm).1)) λ_=>QMW 3 I ?_
  refine QO I (λhc=>?_) λhc=>?_
  ·have h33:=hc;refine wA 5 I<|ZS ?_
   exact QMn I I (congrArg (ai .i64) (by unfold vR;rw[P0,if_neg hn1,hal,if_neg (by rw[h20];decide),P0,if_pos (i2.hit hlt h33)])) wz
  have h33:=hc;refine QN<|Qg<|QMY 3 I<|QA (Qn I I O)<|wB 2 I ?_
  exact Qj (i2.next hlt h33) (by show ps.length-(i2.i+1)<ps.length-i2.i;omega) wU QKK w8
 have hge2:ps.length<=i2.i:=wi<|QLs hc
 have hn2:=i2.stop hge2;refine JK ?_;refine wA 6 I ?_;exact QMn I I (congrArg (ai .i64) (by unfold vR;rw[P0,if_neg hn1,hal,if_neg (by rw[h20];decide),P0,if_neg hn2])) wz
theorem QEK{e:VW}{L:List Tm}(h:Vl F e.1 e.2 (Xj L))(g:Ct L):(∀t∈e.2,t.f.length<=1000000000/\PW t.k)/\e.2.length<=1000000000:=by
 have hl:=h.AN;have hn:=h.2.2.2.2;have hg:=g.2;refine⟨λt ht=>?_,O⟩;obtain⟨i,hi,rfl⟩:=aX ht;obtain⟨e1,e2⟩:=RQ h.2.2.1 hi;rw[ZH hi]at e1 e2;have hm:el L i∈L:=Q2 O;obtain⟨p1,p2⟩:=g.1 _ hm;rw[e1,e2];have:=Ho (el L i).1;exact⟨O,p1⟩
def RA(c:ARd):List VW:=c.ps++c.rl
theorem Rt{c:ARd}(h:zE F c){e:VW}(he:e∈RA c):(JC F e.1.q e.1.n 2 (e.2.flatMap We)/\WK F e.2/\e.2.length=e.1.n)/\(∀t∈e.2,t.f.length<=1000000000/\PW t.k)/\e.2.length<=1000000000:=by
 obtain⟨h1,h2,h3,h4,_⟩:=h;have key:∀ {r:Sr} {rl:List VW} {rs:List (List Tm)},RwP F r rl rs->(∀L∈rs,Ct L)->e∈rl->(JC F e.1.q e.1.n 2 (e.2.flatMap We)/\WK F e.2/\e.2.length=e.1.n)/\(∀t∈e.2,t.f.length<=1000000000/\PW t.k)/\e.2.length<=1000000000:=λ{r rl rs} g1 g2 g3=>by
  obtain⟨i,hi,rfl⟩:=aX g3;have hp:=g1.pl i hi;rw[ZH hi]at hp;have hm:el rs i∈rs:=Q2 (by rw[g1.ln2];exact hi);exact⟨⟨hp.1,hp.2.1,hp.2.2.2.2⟩,QEK hp (g2 _ hm)⟩
 rcases List.mem_append.1 he with g | g
 ·exact key h2 h4 g
 exact key h1 h3 g
def zE.le{c:ARd}(h:zE F c)(k:Gs.le F F'):zE F' c:=⟨h.1.le k,h.2.1.le k,h.2.2⟩
instance{c:ARd}: Up (λF=>zE F c):=⟨λk h=>zE.le h k⟩
def pK(l:List VW):∀v∈l.map (λe:VW=>e.1.v),v.oneCell'=true:=λv hv=>by
 obtain⟨e,_,rfl⟩:=List.mem_map.1 hv;rfl
theorem uz{c:ARd}(hF:Fits F w)(hC:zE F c)(hl:c.sh.n<=1000/\c.rt.n<=1000):QS prog 106 [.agg #[c.nv,c.rt.v,c.sv],c.sh.v] w F (λ(x:Int)=>.int .i64 x) (λ_ _=>True):=by
 have hA0:=hC.2.1.row.AF;have hB0:=hC.1.row.AF;have hAl:=hC.2.1.len;have hBl:=hC.1.len;refine QS.go (G:=λF=>zE F c) func106 hF hC ?_;refine QLF<|Q9 I (vs:=[_,_,_]) I λb2=>wR I<|QG<|JN (b:=b2) .here<|JE QKK mixed wj<|Cs (J2 Vu) YR λb8=>QJ (QC I)<|BW (ob:=[(b8,.cells ([]++[]:List Value).toArray 243 (0,0))]) (n:=0) (k:=c.sh.n) (sz:=1) (news:=c.ps.map λe:VW=>e.1.v) I I Vu YR zN I Cc (.some rfl rfl (ak _) wk) (Src.Cz hA0 (λF h9=>h9.1.2.1.row) (by rw[ax,hC.2.1.len];omega)) O O (pK _) QKK w7 λv10 ob10 hr10=>?_
 rw[bz,List.nil_append]at hr10;refine QJ (QH I LB TZ)<|QJ (QW 1 w9 rfl TZ I)<|BW (ob:=ob10) (n:=c.sh.n) (k:=c.rt.n) (sz:=1) (news:=c.rl.map λe:VW=>e.1.v) I I Vu YR zN I Cc hr10 (Src.Cz hB0 (λF h9=>h9.1.1.row) (by rw[ax,hC.1.len];omega)) O O (pK _) QKK w7 λv13 ob13 hr13=>QJ (QE I)<|Qy<|QMY 3 I ?_
 rw[aQ];obtain⟨rr,hvr,hnr,hcr,hfix⟩:=Q6.fix (w0:=w) (F0:=F) (bs1:=[]) (G:=_) hr13;refine Da hfix ?_;rw[hvr];have hal:(RA c).length=c.sh.n+c.rt.n:=by rw[RA,aC,hAl,hBl]
 refine QMX 5 I<|Jt (ι:=IxJ (RA c).length) [(5,_)] (λi=>[(6,.int .i64 ((i.i:Nat):Int))]) (λi=>(RA c).length-i.i) (⟨0,ar _⟩) wT wT λi=>wA 5 I<|QA (Qc I Vu)<|QMW 3 I ?_
 refine QO I (λhc2=>?_) λhc2=>?_
 ·have hlt:i.i<(RA c).length:=wi<|QLr hc2
  have hem:=Q2 hlt;refine QMX 8 I<|QA (Qo (n:=rr.n) i.i (λF h9=>(by rw[hnr];show JC F _ _ 1 ((c.ps++c.rl).map λe:VW=>e.1.v);rw[aY];exact h9.2)) I I Vu YR O)<|QA (Ql (n:=rr.n) ((i.i)*1) (λF h9=>(by rw[hnr];show JC F _ _ 1 ((c.ps++c.rl).map λe:VW=>e.1.v);rw[aY];exact h9.2)) O rfl YR (Jo (f:=(λe:VW=>e.1.v)) (l:=RA c) O))<|QL I (λw F hF ⟨⟨hC,hz2⟩,hrow⟩=>uy (cap:=(el (RA c) i.i).1.cap) hF (Rt hC hem).1.1 (Rt hC hem).1.2.1 (Rt hC hem).1.2.2 (Rt hC hem).2.1 (Rt hC hem).2.2) λ_=>QMW 9 I ?_
  refine QO I (λhc2=>?_) λhc2=>?_
  ·refine wA 6 I<|ZS ?_
   exact QM ((vR (Ns (el (RA c) i.i).2))) I (wO I) (rfl) wz
  refine QN<|Qg<|QMY 3 I<|QA (Qn I I O)<|wB 2 I ?_
  exact Qj (⟨i.i+1,hlt⟩) (by show(RA c).length-(i.i+1)<(RA c).length-i.i;omega) wU QKK w8
 have hge:(RA c).length<=i.i:=wi<|QLs hc2
 refine JK ?_;refine wA 6 I ?_;exact QM (0) rfl (wO I) (rfl) wz
theorem QAw{p:YB}{n:Nat}(hF:Fits F w)(hP:GR F p)(hL:QC8 p)(hn:n<=8):QS prog 46 [p.v,.int .i64 (n:Nat)] w F (λ(b:Bool)=>.bool b) (λ_ _=>True):=by
 refine QS.go (G:=λF=>GR F p) func46 hF hP ?_;refine QLF<|Q9 I (vs:=[_,_,_]) I λb2=>wR I<|QG<|JN (b:=b2) .here<|QB<|QA (Jj w9 rfl ZL I)<|QJm I<|QL I (λ_ _ f k=>ux f k.1 hL O) λc7=>XA _ (λ_ _ f k=>k.2) λhm7=>QJm I ?_
 refine Qa (t:=8) rfl (λhb8=>?_) λhb8=>?_
 ·refine QK I I<|QA (Jj (λF h9=>h9.1.2) rfl ZL I)<|QK I I ?_
  have hMF:=hm7 hb8;obtain⟨D,R,hlw⟩:=hMF.lw;refine QL I (λ_ _ f k=>QDX f k.1.1 hMF hn hlw hL.un) (λc10=>XA _ (λ_ _ f k=>(k.2.2.2.2.2:c10.sh.n<=1000/\c10.rt.n<=1000)) λhl10=>wB 5 I<|QL I (λ_ _ f k=>uz f k.2 hl10) λc13=>QMW 7 I ?_);exact QM (_) rfl (wO I) (rfl) wz
 refine QMW 11 I ?_;exact QM (_) rfl (wO I) (rfl) wz
theorem yA(hF:Fits F w)(hM:BB F m):QS prog 16 [m.v] w F (λ(b:Bool)=>.bool b) (λb F=>b=true->ShM m):=by
 have Ax:=hM.p.Mf;refine QS.go (G:=λF=>BB F m) func16 hF hM ?_;refine QLF<|Q9 I (vs:=[_,_,_,_,_,_,_,_]) I λb1=>wR I<|JN (b:=b1) .here ?_
 refine K4 (ι:=PLift (m.p.un.n<=20/\m.p.ot.n<=30/\m.sc.n<=30/\m.fa.n<=30/\m.lg.n<=30)) [(1,_)] (λkl=>[]) (λkl=>[]) (λkl F=>True) (by exact wT) ?_ ?_
 ·refine QLF<|QA (QH I Ks ZL)<|QA (QH I XP Jf)<|QA (QW 1 w9 rfl Jf I)<|QA (Qc I Xk)<|wB 2 I ?_
  refine Qa (t:=12) rfl (λhb12=>?_) λhb12=>?_
  ·refine QMW 26 I<|Jv I<|wA 6 I ?_
   exact QM (false) rfl (wO rfl) (rfl) λF ⟨hM,hz1⟩ h=>by cases h
  refine QK I I<|QA (QH I Ks ZL)<|QK I I<|QA (QH I US Qu)<|QK I I<|QA (QW 2 w9 rfl Qu I)<|QK I I<|QA (Qc I Qd)<|wB 4 I ?_
  refine Qa (t:=19) rfl (λhb19=>?_) λhb19=>?_
  ·refine QMW 19 I<|Jv I<|wA 6 I ?_
   exact QM (false) rfl (wO rfl) (rfl) λF ⟨hM,hz1⟩ h=>by cases h
  refine QK I I<|QA (QH I CH Qu)<|QK I I<|QA (QW 3 w9 rfl Qu I)<|QK I I<|QA (Qc I Qd)<|wB 4 I ?_
  refine Qa (t:=25) rfl (λhb25=>?_) λhb25=>?_
  ·refine QMW 13 I<|Jv I<|wA 6 I ?_
   exact QM (false) rfl (wO rfl) (rfl) λF ⟨hM,hz1⟩ h=>by cases h
  refine QK I I<|QA (QH I UR MS)<|QK I I<|QA (QW 6 w9 rfl MS I)<|QK I I<|QA (Qc I IN)<|wB 4 I ?_
  refine Qa (t:=31) rfl (λhb31=>?_) λhb31=>?_
  ·refine QMW 7 I<|Jv I<|wA 6 I ?_
   exact QM (false) rfl (wO rfl) (rfl) λF ⟨hM,hz1⟩ h=>by cases h
  refine QK I I<|QA (QH I DO Qu)<|QK I I<|QA (QW 7 w9 rfl Qu I)<|QK I I<|QA (Qc I Qd)<|QMW 5 I ?_
  refine QO I (λhc2=>?_) λhc2=>?_
  ·refine wA 6 I ?_;exact QM (false) rfl (wO rfl) (rfl) λF ⟨hM,hz1⟩ h=>by cases h
  refine QN ?_;exact Kb (⟨by simp at hb12 hb19 hb25 hb31 hc2;omega⟩) wT QKK λF h9=>⟨⟨h9.1,h9.2⟩,trivial⟩
 intro kl;obtain⟨hl1,hl2,hl3,hl4,hl5⟩:=kl.down;refine QG<|QLF<|wR rfl<|QQ<|Jt (ι:=zD m.p.ul QEo) [(1,_)] (λi=>[(3,.int .i64 ((i.i:Nat):Int))]) (λi=>m.p.ul.length-i.i) (⟨0,ar _,λx h=>by cases h⟩) wT wT λi=>?_
 have hi:=i.le;refine wA 4 I<|QA (QH I Ks ZL)<|QA (QH I XP Jf)<|QA (QW 1 (λF h9=>h9.1.2) rfl Jf I)<|QA (Qc I Xk)<|QMW 3 I ?_
 refine QO I (λhc2=>?_) λhc2=>?_
 ·have hlt:i.i<m.p.ul.length:=wi<|QLr hc2
  have hfu:=(hM.p.us _ (Q2 hlt)).E9;have hcu:=(hM.p.us _ (Q2 hlt)).Np;refine QMX 6 I<|QA (QH I Ks ZL)<|QA (QH I XP Jf)<|QA (QW 1 (λF h9=>h9.1.2) rfl Jf I)<|QJm I<|QA (Qo (n:=m.p.un.n) i.i (λF h9=>h9.1.1.p.un) rfl rfl Xk XJ O)<|QA (XE (n:=m.p.un.n) (vs:=[tx (el m.p.ul i.i).kd,.slice (el m.p.ul i.i).fd.q (el m.p.ul i.i).fd.n (el m.p.ul i.i).fd.cap,Qs ((el m.p.ul i.i).ou),tx (el m.p.ul i.i).st,.slice (el m.p.ul i.i).cv.q (el m.p.ul i.i).cv.n (el m.p.ul i.i).cv.cap]) ((i.i)*5) (λF h9=>h9.1.1.p.un) O rfl XJ I λj v hv=>JR (f:=MR) (l:=m.p.ul) ZI O hv)<|Qk TM λb4=>QV (vs:=[_,_,_,_,_]) I I I XJ I .here .h5 wX<|QJl<|JN (b:=b4) .here ?_
  refine K4 (ι:=PLift ((el m.p.ul i.i).fd.n<=12/\(el m.p.ul i.i).cv.n<=20/\(el m.p.ul i.i).st.length<=30)) [(1,_),(3,_),(4,_)] (λku=>[]) (λku=>[]) (λku F=>True) (by exact wV) ?_ ?_
  ·refine QLF<|QA (QH I Zz Xd)<|QA (QW 1 w9 rfl Xd I)<|QA (Qc I YV)<|wB 2 I ?_
   refine Qa (t:=55) rfl (λhb55=>?_) λhb55=>?_
   ·refine QMW 13 I<|Jv I<|wA 5 I<|ZS ?_
    exact QM (false) rfl (wO rfl) (rfl) λF ⟨⟨⟨hM,hz1⟩,_⟩,hz4⟩ h=>by cases h
   refine QK I I<|QA (QH I Wp Xg)<|QK I I<|QA (QW 4 w9 rfl Xg I)<|QK I I<|QA (Qc I Z2)<|wB 4 I ?_
   refine Qa (t:=61) rfl (λhb61=>?_) λhb61=>?_
   ·refine QMW 7 I<|Jv I<|wA 5 I<|ZS ?_
    exact QM (false) rfl (wO rfl) (rfl) λF ⟨⟨⟨hM,hz1⟩,_⟩,hz4⟩ h=>by cases h
   refine QK I I<|QA (QH I BN Ja)<|QK I I<|QA (QW 3 w9 rfl Ja I)<|QK I I<|QA (Ji I Kg)<|QMW 5 I ?_
   refine QO I (λhc2=>?_) λhc2=>?_
   ·refine wA 5 I<|ZS ?_
    exact QM (false) rfl (wO rfl) (rfl) λF ⟨⟨⟨hM,hz1⟩,_⟩,hz4⟩ h=>by cases h
   refine QN ?_;exact Kb (⟨by simp at hb55 hb61 hc2;omega⟩) wV QKK λF h9=>⟨⟨⟨⟨h9.1.1.1,h9.1.1.2⟩,trivial⟩,h9.2⟩,trivial⟩
  intro ku;obtain⟨hu1,hu2,hu3⟩:=ku.down;refine QG<|QLF<|wR rfl<|QQ<|Jt (ι:=zD (el m.p.ul i.i).fl λf=>f.r.length<=30) [(1,_),(3,_),(4,_)] (λi2=>[(5,.int .i64 ((i2.i:Nat):Int))]) (λi2=>(el m.p.ul i.i).fl.length-i2.i) (⟨0,ar _,λx h=>by cases h⟩) wV wT λi2=>?_
  have hi2:=i2.le;refine wA 4 I<|QA (QH I Zz Xd)<|QA (QW 1 (λF h9=>h9.1.2) rfl Xd I)<|QA (Qc I YV)<|QMW 3 I ?_
  refine QO I (λhc2=>?_) λhc2=>?_
  ·have hlt2:i2.i<(el m.p.ul i.i).fl.length:=wi<|QLr hc2
   refine QMX 6 I<|QA (QH I Zz Xd)<|QA (QW 1 (λF h9=>h9.1.2) rfl Xd I)<|QJm I<|QA (Qo (n:=(el m.p.ul i.i).fd.n) (i2.i) (λF h9=>((h9.1.1.1.1.p.us _ (Q2 (show i.i<m.p.ul.length from O)))).fd) rfl rfl YV Kf O)<|QA (QH I BM Ja)<|QA (Ql (n:=(el m.p.ul i.i).fd.n) ((i2.i)*2+1) (λF h9=>((h9.1.1.1.1.p.us _ (Q2 (show i.i<m.p.ul.length from O)))).fd) O rfl Ja (JR (f:=Uj) (l:=(el m.p.ul i.i).fl) YT O rfl))<|QA (Ji I Kg)<|QMW 3 I ?_
   refine QO I (λhc2=>?_) λhc2=>?_
   ·refine wA 5 I<|ZS ?_
    exact QM (false) rfl (wO rfl) (rfl) λF ⟨⟨⟨⟨hM,hz1⟩,_⟩,hz4⟩,_⟩ h=>by cases h
   refine QN<|Qg<|QMY 3 I<|QA (Qn I I O)<|wB 2 I ?_
   exact Qj (⟨i2.i+1,hlt2,B4 hlt2 i2.ok (by simp at hc2;omega)⟩) (by show(el m.p.ul i.i).fl.length-(i2.i+1)<(el m.p.ul i.i).fl.length-i2.i;omega) wW QKK w7
  have hge2:(el m.p.ul i.i).fl.length<=i2.i:=wi<|QLs hc2
  refine JK ?_;refine QLF<|wR rfl<|QQ<|Jt (ι:=zD (el m.p.ul i.i).cl λa=>a.length<=30) [(1,_),(3,_),(4,_)] (λi3=>[(6,.int .i64 ((i3.i:Nat):Int))]) (λi3=>(el m.p.ul i.i).cl.length-i3.i) (⟨0,ar _,λx h=>by cases h⟩) wV wT λi3=>?_
  have hi3:=i3.le;refine wA 4 I<|QA (QH I Wp Xg)<|QA (QW 4 (λF h9=>h9.1.2) rfl Xg I)<|QA (Qc I Z2)<|QMW 3 I ?_
  refine QO I (λhc2=>?_) λhc2=>?_
  ·have hlt3:i3.i<(el m.p.ul i.i).cl.length:=wi<|QLr hc2
   refine QMX 6 I<|QA (QH I Wp Xg)<|QA (QW 4 (λF h9=>h9.1.2) rfl Xg I)<|QJm I<|QA (Qo (n:=(el m.p.ul i.i).cv.n) (i3.i) (λF h9=>((h9.1.1.1.1.p.us _ (Q2 (show i.i<m.p.ul.length from O)))).cv) rfl rfl Z2 Ja O)<|QA (Ql (n:=(el m.p.ul i.i).cv.n) ((i3.i)*1) (λF h9=>((h9.1.1.1.1.p.us _ (Q2 (show i.i<m.p.ul.length from O)))).cv) O rfl Ja (Jo (f:=tx) (l:=(el m.p.ul i.i).cl) O))<|QA (Ji I Kg)<|QMW 3 I ?_
   refine QO I (λhc2=>?_) λhc2=>?_
   ·refine wA 5 I<|ZS ?_
    exact QM (false) rfl (wO rfl) (rfl) λF ⟨⟨⟨⟨hM,hz1⟩,_⟩,hz4⟩,_⟩ h=>by cases h
   refine QN<|Qg<|QMY 3 I<|QA (Qn I I O)<|wB 2 I ?_
   exact Qj (⟨i3.i+1,hlt3,B4 hlt3 i3.ok (by simp at hc2;omega)⟩) (by show(el m.p.ul i.i).cl.length-(i3.i+1)<(el m.p.ul i.i).cl.length-i3.i;omega) wW QKK w7
  have hge3:(el m.p.ul i.i).cl.length<=i3.i:=wi<|QLs hc2
  refine JK ?_;refine wA 2 I<|QA (Qn I I O)<|wB 2 I ?_
  exact Qj (⟨i.i+1,hlt,B4 hlt i.ok ⟨hu1,hu2,hu3,i2.stop hge2,i3.stop hge3⟩⟩) (by show m.p.ul.length-(i.i+1)<m.p.ul.length-i.i;omega) wU QKK λF h=>h.1.1
 have hge:m.p.ul.length<=i.i:=wi<|QLs hc2
 refine JK ?_;refine wA 6 I ?_;exact QM (true) rfl (wO I) (rfl) λF ⟨⟨hM,hz1⟩,_⟩ h=>⟨hl1,hl2,hl3,hl4,hl5,i.stop hge⟩
theorem QDZ{n:Nat}(hF:Fits F w)(hM:BB F m)(hn:n<=8):QS prog 17 [m.v,.int .i64 (n:Nat)] w F (λ(b:Bool)=>.bool b) (λb F=>b=true->ShM m/\WV m=0):=by
 refine QS.go (G:=λF=>BB F m) func17 hF hM ?_;refine QLF<|Q9 I (vs:=[_,_,_,_,_,_,_,_]) I λb2=>wR I<|QG<|JN (b:=b2) .here<|QB<|QA (Jj w9 rfl Mz I)<|QL I (λ_ _ f k=>yA f k.1) λc6=>XA _ (λ_ _ f k=>k.2) λhs6=>QJm I ?_
 refine Qa (t:=7) rfl (λhb7=>?_) λhb7=>?_
 ·refine QK I I<|QA (Jj (λF h9=>h9.1.2) rfl Mz I)<|QK I I ?_
  have hsm:=hs6 hb7;refine QL I (λ_ _ f k=>DK f k.1.1 hsm.l) (λ_=>wB 4 I ?_);refine Qa (t:=12) rfl (λhb12=>?_) λhb12=>?_
  ·refine QK rfl rfl<|QA (QH rfl Ks ZL)<|QK rfl rfl<|QA (XE (n:=1) (vs:=[Qs m.p.sh,.slice m.p.un.q m.p.un.n m.p.un.cap,.slice m.p.ot.q m.p.ot.n m.p.ot.cap]) ((0)*8) (λF h9=>(JC.of (n:=1) (sz:=8) h9.1.1.2 rfl)) O rfl ZL rfl λj v hv=>by match j,hv with | 0,h=>exact h | 1,h=>exact h | 2,h=>exact h | _+3,h=>cases h)<|QK rfl rfl<|QJm rfl<|QK rfl rfl<|QL rfl (λ_ _ f k=>QAw f k.1.1.1.p hsm.l.p hn) λc16=>QA (QR rfl rfl rfl)<|wR rfl<|QU ?_
   exact QM (_) rfl (wO I) (rfl) λF ⟨⟨⟨⟨hM,hz2⟩,_⟩,_⟩,_⟩ h=>⟨hsm,by simpa using hb12⟩
  refine QMW 9 I ?_;exact QM (_) rfl (wO rfl) (rfl) λF ⟨⟨⟨hM,hz2⟩,_⟩,_⟩ h=>by cases h
 refine QMW 14 I ?_;exact QM (_) rfl (wO rfl) (rfl) λF ⟨⟨hM,hz2⟩,_⟩ h=>by cases h
theorem QEJ{n:Nat}(hF:Fits F w)(hM:BB F m)(hn:n<=8):QS prog 5 [m.v,.int .i64 (n:Nat)] w F (λ(b:Bool)=>.bool b) (λb F=>b=false->ShM m):=by
 refine QS.go (G:=λF=>BB F m) func5 hF hM ?_;refine QLF<|Q9 I (vs:=[_,_,_,_,_,_,_,_]) I λb2=>wR I<|QG<|JN (b:=b2) .here<|QB<|QA (Jj w9 rfl Mz I)<|QL I (λ_ _ f k=>yA f k.1) λc6=>XA _ (λ_ _ f k=>k.2) λhs6=>QA (Xv I)<|QJm I ?_
 refine Qa (t:=8) rfl (λhb8=>?_) λhb8=>?_
 ·refine wB 4 I<|Qz I I<|Qz I I<|Qz I I<|Qz I I<|QMW 6 I ?_
  exact QM (_) rfl (wO rfl) (rfl) λF ⟨⟨hM,hz2⟩,_⟩ h=>by cases h
 refine QK I I<|QA (Jj (λF h9=>h9.1.2) rfl Mz I)<|QK I I ?_
 have hsm:=hs6 (by simpa using hb8);refine QL I (λ_ _ f k=>DK f k.1.1 hsm.l) (λ_=>wB 4 I ?_);refine Qa (t:=12) rfl (λhb12=>?_) λhb12=>?_
 ·refine QK I I<|QA (Jj (λF h9=>h9.1.1.2) rfl Mz I)<|wB 3 I<|QL I (λ_ _ f k=>QDZ f k.1.1.1 hn) λc15=>QK I I<|QA (Xv I)<|QMW 7 I ?_
  exact QM (_) rfl (wO I) (rfl) λF ⟨⟨⟨⟨hM,hz2⟩,_⟩,_⟩,_⟩ h=>hsm
 refine QMW 11 I ?_;exact QM (_) rfl (wO I) (rfl) λF ⟨⟨⟨hM,hz2⟩,_⟩,_⟩ h=>hsm
section
open Go.RowKit Go.ChangeShapes Go.WideShapes Ig
def QHX{cs:Array α}(h:cs.size=8):∃c0 c1 c2 c3 c4 c5 c6 c7,cs=#[c0,c1,c2,c3,c4,c5,c6,c7]:=by
 obtain⟨l⟩:=cs
 match l,h with
 |[c0,c1,c2,c3,c4,c5,c6,c7],_=>exact⟨c0,c1,c2,c3,c4,c5,c6,c7,rfl⟩
def xB(f:α->Value):∀(l:List α),l.flatMap (λx=>[f x])=l.map f
 |[]=>rfl
 |x::l=>by rw[List.flatMap_cons,xB f l];rfl
section
variable{H:Type}{enc:TypeId×Value->H}{w:World}
theorem ga(n:Nat)(cs:List Value)(x:DataW H×List MemPlace)(h:aH enc prog w 0 (λ_=>true) true n 3 cs=some x):∃y:Int,cs=[.int .i64 y]/\True:=by
 obtain⟨z,rfl,_,_⟩:=DataW.trod_int underlying3 h;exact⟨z,rfl,trivial⟩
theorem trod_struct2{t:TypeId}{f0 f1:Field}{fuel:Nat}{x:DataW H×List MemPlace}(ht:prog.underlying t=some (.struct #[f0,f1]))(h:aH enc prog w 0 (λ_=>true) true fuel t cs=some x):
  ∃z0 z1 n,cs.length=prog.cellsOf t/\aH enc prog w 0 (λ_=>true) true n f0.type ((cs.drop f0.offset).take (prog.cellsOf f0.type))=some z0/\aH enc prog w 0 (λ_=>true) true n f1.type ((cs.drop f1.offset).take (prog.cellsOf f1.type))=some z1:=by
 obtain⟨xs,n,_,rfl,hl,hlen,hf⟩:=eR ht h
 match xs,hlen with
 |[z0,z1],_=>exact⟨z0,z1,n,hl,by simpa using hf 0 f0 rfl,by simpa using hf 1 f1 rfl⟩
theorem jD{t:TypeId}{f0 f1 f2 f3 f4:Field}{fuel:Nat}{x:DataW H×List MemPlace}(ht:prog.underlying t=some (.struct #[f0,f1,f2,f3,f4]))(h:aH enc prog w 0 (λ_=>true) true fuel t cs=some x):
  ∃z0 z1 z2 z3 z4 n,cs.length=prog.cellsOf t/\aH enc prog w 0 (λ_=>true) true n f0.type ((cs.drop f0.offset).take (prog.cellsOf f0.type))=some z0/\aH enc prog w 0 (λ_=>true) true n f1.type ((cs.drop f1.offset).take (prog.cellsOf f1.type))=some z1/\aH enc prog w 0 (λ_=>true) true n f2.type ((cs.drop f2.offset).take (prog.cellsOf f2.type))=some z2/\aH enc prog w 0 (λ_=>true) true n f3.type ((cs.drop f3.offset).take (prog.cellsOf f3.type))=some z3/\aH enc prog w 0 (λ_=>true) true n f4.type ((cs.drop f4.offset).take (prog.cellsOf f4.type))=some z4:=by
 obtain⟨xs,n,_,rfl,hl,hlen,hf⟩:=eR ht h
 match xs,hlen with
 |[z0,z1,z2,z3,z4],_=>exact⟨z0,z1,z2,z3,z4,n,hl,by simpa using hf 0 f0 rfl,by simpa using hf 1 f1 rfl,by simpa using hf 2 f2 rfl,by simpa using hf 3 f3 rfl,by simpa using hf 4 f4 rfl⟩
theorem UH:prog.cellsOf 3=1:=wj
theorem gX:prog.cellsOf 48=1:=wj
theorem QG3:prog.cellsOf 9=1:=wj
theorem I9:prog.cellsOf 23=1:=wj
set_option maxRecDepth 100000 in
theorem E3{m:Nat}{x:DataW H×List MemPlace}(h:aH enc prog w 0 (λ_=>true) true m 23 cs=some x):∃(r:Sr) (l:List Int),cs=[.slice r.q r.n r.cap]/\JC (K8 w) r.q r.n 1 (l.map Qs)/\l.length=r.n:=by
 obtain⟨q,n,cap,l,h1,h2,h3,h4,_,_⟩:=EM (f:=λy:Int=>[.int .i64 y]) (Q:=λ_=>True) underlying23 UH wk (λ_=>rfl) (λn cs x h=>by obtain⟨y,hy,_⟩:=ga n cs x h;exact⟨y,hy,trivial⟩) h;rw[xB]at h2;exact⟨⟨q,n,cap⟩,l,h1,h2,h3⟩
set_option maxRecDepth 100000 in
theorem yK{m:Nat}{x:DataW H×List MemPlace}(h:aH enc prog w 0 (λ_=>true) true m 29 cs=some x):∃(r:Sr) (l:List (List UInt8)),cs=[.slice r.q r.n r.cap]/\JC (K8 w) r.q r.n 1 (l.map tx)/\l.length=r.n:=by
 obtain⟨q,n,cap,l,h1,h2,h3,h4,_,_⟩:=EM (f:=λy:List UInt8=>[tx y]) (Q:=λ_=>True) underlying29 gX wk (λ_=>rfl) (λn cs x h=>by
  obtain⟨s,rfl,_,_⟩:=DataW.trod_string underlying48 h;exact⟨s.data.toList,by simp[tx],trivial⟩) h
 rw[xB]at h2;exact⟨⟨q,n,cap⟩,l,h1,h2,h3⟩
set_option maxRecDepth 100000 in
theorem gr(m:Nat)(cs:List Value)(x:DataW H×List MemPlace)(h:aH enc prog w 0 (λ_=>true) true m 89 cs=some x):∃y:Lf,cs=Uj y/\True:=by
 obtain⟨z0,z1,n,hl,h0,h1⟩:=trod_struct2 underlying89 h;rw[show prog.cellsOf 89=2 by kernel_rfl]at hl
 match cs,hl with
 |[a,b],_ =>
  dsimp only at h0 h1;rw[UH]at h0;rw[gX]at h1;obtain⟨k,rfl⟩:=Hp (v:=a) h0;obtain⟨r,rfl⟩:=jI QAa (v:=b) h1;exact⟨⟨k,r⟩,rfl,trivial⟩
set_option maxRecDepth 100000 in
theorem kz(m:Nat)(cs:List Value)(x:DataW H×List MemPlace)(h:aH enc prog w 0 (λ_=>true) true m 80 cs=some x):∃y:Xi,cs=MR y/\RJ (K8 w) y:=by
 obtain⟨z0,z1,z2,z3,z4,n,hl,h0,h1,h2,h3,h4⟩:=jD underlying80 h;rw[show prog.cellsOf 80=5 by kernel_rfl]at hl
 match cs,hl with
 |[a,b,c,d,e],_ =>
  dsimp only at h0 h1 h2 h3 h4;rw[QG3]at h0;rw[show prog.cellsOf 78=1 by kernel_rfl]at h1;rw[UH]at h2;rw[gX]at h3;rw[show prog.cellsOf 29=1 by kernel_rfl]at h4;obtain⟨kd,rfl⟩:=jI underlying9 (v:=a) h0;obtain⟨q,fn,cap,fl,e1,f2,f3,f4,_,f6⟩:=EM (cs:=[b]) (f:=Uj) (Q:=λ_=>True) underlying78 (show prog.cellsOf 89=2 by kernel_rfl) wk YT gr h1;obtain⟨o,rfl⟩:=Hp (v:=c) h2;obtain⟨st,rfl⟩:=jI QAa (v:=d) h3;obtain⟨r4,cl,e4,g2,g3⟩:=yK (cs:=[e]) h4;obtain rfl:=(aK e1).1;obtain rfl:=(aK e4).1;exact⟨⟨kd,⟨q,fn,cap⟩,fl,o,st,r4,cl⟩,rfl,⟨f2,g2,f3,g3,f6⟩⟩
set_option maxRecDepth 100000 in
theorem vj(m:Nat)(cs:List Value)(x:DataW H×List MemPlace)(h:aH enc prog w 0 (λ_=>true) true m 76 cs=some x):∃y:APy,cs=pyC y/\True:=by
 obtain⟨z0,z1,z2,n,hl,h0,h1,h2⟩:=trod_struct3 underlying76 h;rw[show prog.cellsOf 76=3 by kernel_rfl]at hl
 match cs,hl with
 |[a,b,c],_ =>
  dsimp only at h0 h1 h2;rw[UH]at h0 h1 h2;obtain⟨k0,rfl⟩:=Hp (v:=a) h0;obtain⟨k1,rfl⟩:=Hp (v:=b) h1;obtain⟨k2,rfl⟩:=Hp (v:=c) h2;exact⟨⟨k0,k1,k2⟩,rfl,trivial⟩
set_option maxRecDepth 100000 in
theorem vm(m:Nat)(cs:List Value)(x:DataW H×List MemPlace)(h:aH enc prog w 0 (λ_=>true) true m 25 cs=some x):∃y:YB,cs=[Qs y.sh,.slice y.un.q y.un.n y.un.cap,.slice y.ot.q y.ot.n y.ot.cap]/\GR (K8 w) y:=by
 obtain⟨z0,z1,z2,n,hl,h0,h1,h2⟩:=trod_struct3 underlying25 h;rw[show prog.cellsOf 25=3 by kernel_rfl]at hl
 match cs,hl with
 |[a,b,c],_ =>
  dsimp only at h0 h1 h2;rw[UH]at h0;rw[show prog.cellsOf 22=1 by kernel_rfl]at h1;rw[I9]at h2;obtain⟨k0,rfl⟩:=Hp (v:=a) h0;obtain⟨q,un,cap,ul,e1,f2,f3,f4,f5,f6⟩:=EM (cs:=[b]) (f:=MR) (Q:=λy=>RJ (K8 w) y) underlying22 (show prog.cellsOf 80=5 by kernel_rfl) wk ZI kz h1;obtain⟨r2,ol,e2,g2,g3⟩:=E3 (cs:=[c]) h2;obtain rfl:=(aK e1).1;obtain rfl:=(aK e2).1;exact⟨⟨k0,⟨q,un,cap⟩,ul,r2,ol⟩,rfl,⟨f2,f5,g2,f3,g3⟩⟩
set_option maxRecDepth 100000 in
theorem jZ{b:Nat}{v:Value}{d:DataW H}{p:List MemPlace}(hv:Value.okWide prog w .any b 28 v)(h:DataW.Trod enc prog w 0 (λ_=>true) true 28 v d p):∃m:Mt,v=m.v/\BB (K8 w) m:=by
 obtain⟨cs,rfl,hsz⟩:=okWide_struct underlying28 hv;obtain⟨c0,c1,c2,c3,c4,c5,c6,c7,rfl⟩:=QHX (hsz.trans wj);obtain⟨fuel,hf⟩:=h;obtain⟨z0,z1,z2,z3,z4,z5,n,h0,h1,h2,h3,h4,h5⟩:=Un underlying28 hf;dsimp only[Value.cells]at h0 h1 h2 h3 h4 h5;rw[show prog.cellsOf 25=3 by kernel_rfl]at h0;rw[I9]at h1 h5;rw[UH]at h2 h3;rw[show prog.cellsOf 26=1 by kernel_rfl]at h4;obtain⟨pl,e0,hp⟩:=vm _ [c0,c1,c2] _ h0;obtain⟨r1,l1,e1,a1,b1⟩:=E3 (cs:=[c3]) h1;obtain⟨QDf,rfl⟩:=Hp (v:=c4) h2;obtain⟨QEV,rfl⟩:=Hp (v:=c5) h3;obtain⟨q,fn,cap,fl,e4,f2,f3,_,_,_⟩:=EM (cs:=[c6]) (f:=pyC) (Q:=λ_=>True) underlying26 (show prog.cellsOf 76=3 by kernel_rfl) wk AA vj h4;obtain⟨r5,l5,e5,a5,b5⟩:=E3 (cs:=[c7]) h5;obtain⟨g0,g1⟩:=aK e0;obtain⟨g2,g3⟩:=aK g1;have g4:=(aK g3).1;subst g0 g2 g4;obtain rfl:=(aK e1).1;obtain rfl:=(aK e4).1;obtain rfl:=(aK e5).1;exact⟨⟨pl,r1,l1,QDf,QEV,⟨q,fn,cap⟩,fl,r5,l5⟩,rfl,⟨hp,a1,f2,a5,b1,f3,b5⟩⟩
end
end
def Iy(sh:Int)(us:List Xi):List Bool:=us.foldl (λl u=>l.set u.ou.toNat (el l u.ou.toNat||H8 u)) (af sh.toNat false)
theorem MU(sh:Int)(us:List Xi):(Iy sh us).length=sh.toNat:=by
 have h:∀(us:List Xi) (l:List Bool),(us.foldl (λl u=>l.set u.ou.toNat (el l u.ou.toNat||H8 u)) l).length=l.length:=λus=>by
  induction us with
  |nil=>intro l;rfl
  |cons u us ih=>intro l;rw[List.foldl_cons,ih,ah]
 unfold Iy;rw[h];simp
def Ln(h:i<us.length):Iy sh (us.take (i+1))=(Iy sh (us.take i)).set (el us i).ou.toNat (el (Iy sh (us.take i)) (el us i).ou.toNat||H8 (el us i)):=by
 unfold Iy;rw[ZB h,List.foldl_append];rfl
def QE1(h:i<us.length)(e:el (Iy sh (us.take i)) (el us i).ou.toNat=true):(Iy sh (us.take i)).set (el us i).ou.toNat true=Iy sh (us.take (i+1)):=by rw[Ln h,e];rfl
def QE2(h:i<us.length)(e:el (Iy sh (us.take i)) (el us i).ou.toNat=false):(Iy sh (us.take i)).set (el us i).ou.toNat (H8 (el us i))=Iy sh (us.take (i+1)):=by rw[Ln h,e];rfl
theorem QE0{p:YB}(hv:RE p):∀i,i<=p.ul.length->∀s:Int,0<=s->s<p.sh->el (Iy p.sh (p.ul.take i)) s.toNat=(decide (0<=Va p.ul s)&&decide (Va p.ul s<(i:Int))&&H8 (el p.ul (Va p.ul s).toNat))
 |0,_,s,h0,h1=>by
  rw[aA,Iy,List.foldl_nil,ZH wy,ba];by_cases h:0<=Va p.ul s
  ·rw[show decide (Va p.ul s<((0:Nat):Int))=false from decide_eq_false O];simp
  rw[decide_eq_false h];simp
 |i+1,hi,s,h0,h1=>by
  have ih:=QE0 hv i O s h0 h1;have ho:=hv.ou (show i<p.ul.length by omega);have hd:=hv.Va (show i<p.ul.length by omega);rw[Ln O,Aa (by rw[MU];omega)];by_cases e:s=(el p.ul i).ou
  ·subst e;rw[if_pos rfl,ih,hd];rw[show decide (0<=((i:Nat):Int))=true from decide_eq_true O,show decide (((i:Nat):Int)<(i:Int))=false from decide_eq_false O,show decide (((i:Nat):Int)<((i+1:Nat):Int))=true from decide_eq_true O];rfl
  rw[if_neg O,ih];have hne:Va p.ul s≠(i:Int):=λhh=>by
   obtain⟨j,j1,j2,j3⟩:=xL (us:=p.ul) (k:=s) O;rw[hh]at j2;rw[<-j3,show j=i by omega]at e;exact e rfl
  rw[show decide (Va p.ul s<((i+1:Nat):Int))=decide (Va p.ul s<(i:Int)) by
   by_cases hh:Va p.ul s<(i:Int)
   ·rw[decide_eq_true hh,decide_eq_true O]
   rw[decide_eq_false hh,decide_eq_false O]]
def QFl{p:YB}(hv:RE p){i:Nat}(h:(i:Int)<p.sh):el (Iy p.sh p.ul) i=dA p.ul ((i:Nat):Int):=by
 have h1:=QE0 hv p.ul.length (ak _) (i:Int) O h;rw[bV,show((i:Nat):Int).toNat=i by omega]at h1;rw[h1];unfold dA;have h2:=xK p.ul (i:Int);rw[show decide (Va p.ul ((i:Nat):Int)<(p.ul.length:Int))=true from decide_eq_true h2,Bool.and_true];by_cases hh:Va p.ul ((i:Nat):Int)<0
 ·rw[decide_eq_true hh,decide_eq_false O];rfl
 rw[decide_eq_false hh,decide_eq_true O];rfl
def QAW(n:Nat):JL [ae false] n=(af n false).map ae++[]:=by rw[ZM];simp
theorem uB(hF:Fits F w):Qi prog 76 [.agg (MR u).toArray] w F (.bool (H8 u)):=by
 refine QS.go (G:=λF=>True) func76 hF trivial ?_;refine QLF<|Q9 I (vs:=[_,_,_,_,_]) I λb1=>QMW 5 I<|QA (QH I KM Y5)<|QA (Qp I Y5 .here .h1)<|QA (Xc I I)<|wR I<|QU ?_
 exact QMn I I (rfl) wz
theorem uu{p:YB}(hF:Fits F w)(hP:GR F p)(hb:p.un.n<=1000000)(hs:1<=p.sh/\p.sh<=1000000)(hou:∀u∈p.ul,0<=u.ou/\u.ou<p.sh):QS prog 43 [p.v] w F (λ(c:Sr)=>c.v) (λc F=>JC F c.q c.n 1 ((Iy p.sh p.ul).map ae)/\c.n=p.sh.toNat/\c.n<=c.cap):=by
 have Ax:=hP.Mf;refine QS.go (G:=λF=>GR F p) func43 hF hP ?_;refine QLF<|Q9 I (vs:=[_,_,_]) I λb1=>wR I<|QG<|JN (b:=b1) .here<|QB<|QA (QH I K9 QY)<|QA (QW 0 w9 rfl QY I)<|K5 (n:=p.sh.toNat) (bytes:=1) wN wN Uw Zi z_4 I QHR O O λb8=>?_
 rw[QAW];refine QMW 6 I<|QA (QH I XP Jf)<|QA (QW 1 w9 rfl Jf I)<|QA (Qc I Xk)<|QMW 4 I<|XC (ι:=IxJ p.ul.length) [(3,_),(10,_),(11,_)] (λi=>[(12,.int .i64 ((i.i:Nat):Int))]) (λi=>[(b8,.cells ((Iy p.sh (p.ul.take i.i)).map ae++[]).toArray 4 (0,0))]) (λi F=>True) (λi=>p.ul.length-i.i) (⟨0,ar _⟩) wV wT QKK wz λi=>?_
 have hi:=i.le;refine wA 6 I ?_;refine QO I (λhc2=>?_) λhc2=>?_
 ·have hlt:i.i<p.ul.length:=wi<|QLr hc2
  have ho:=hou _ (Q2 hlt);refine QMX 6 I<|QA (Qo (n:=p.un.n) i.i (λF h9=>h9.1.1.un) rfl rfl Xk XJ O)<|QA (XE (n:=p.un.n) (vs:=[tx (el p.ul i.i).kd,.slice (el p.ul i.i).fd.q (el p.ul i.i).fd.n (el p.ul i.i).fd.cap,Qs ((el p.ul i.i).ou),tx (el p.ul i.i).st,.slice (el p.ul i.i).cv.q (el p.ul i.i).cv.n (el p.ul i.i).cv.cap]) ((i.i)*5) (λF h9=>h9.1.1.un) O rfl XJ I λj v hv=>JR (f:=MR) (l:=p.ul) ZI O hv)<|Qk TM λb5=>QV (vs:=[_,_,_,_,_]) I I I XJ I .here .h5 wX<|QJl<|JN (b:=b5) .here<|Je 13 QKK mixed wj wj ?_
  simp only[ao,aA,aq,aD];refine QJ (QC I)<|QJ (QH I Yf QY)<|QJ (QW 2 w9 rfl QY I)<|QJ (QC I)<|QJ (QH I Yf QY)<|QJ (QW 2 w9 rfl QY I)<|QJ (Qm (i:=(el p.ul i.i).ou.toNat) rfl wN Uw Zi O)<|QJ (Xh (c:=(Iy p.sh (p.ul.take i.i)).map ae++[]) (T':=4) rfl Zi .here (TH (f:=ae) (by rw[MU];omega)))<|QJ (QC I) ?_
  refine KH (t:=24) rfl (λhb24=>?_) λhb24=>?_
  ·refine Q7 I I I<|Q7 I I I<|QJ (QR I I I)<|QJ (Qm (i:=(el p.ul i.i).ou.toNat) rfl wN Uw Zi O)<|X7 ?_
   first
   |(refine QV (vs:=[_]) I I I Zi I .here (Wl (f:=ae) (l:=(Iy p.sh (p.ul.take i.i))) (i:=(el p.ul i.i).ou.toNat) (by rw[MU];omega) true) wT ?_;rw[QE1 hlt hb24])
   |(refine QV (vs:=[_]) I I I Zi I .here (Wl (f:=ae) (l:=(Iy p.sh (p.ul.take i.i))) (i:=(el p.ul i.i).ou.toNat) (by rw[MU];omega) (H8 (el p.ul i.i))) wT ?_;rw[QE2 hlt hb24])
   refine QF<|Qg<|QD<|QB<|QA (Qn I I O)<|wB 2 I ?_
   exact Qj (⟨i.i+1,hlt⟩) (by show p.ul.length-(i.i+1)<p.ul.length-i.i;omega) wW QKK λF h=>⟨h.1.1,trivial⟩
  refine JA I I<|QJ (Jj w9 rfl XJ I)<|JA I I<|QZ I (λ_ _ f k=>uB f) λ_=>QJ (QT I I I)<|QJ (Qm (i:=(el p.ul i.i).ou.toNat) rfl wN Uw Zi O)<|X7 ?_
  first
  |(refine QV (vs:=[_]) I I I Zi I .here (Wl (f:=ae) (l:=(Iy p.sh (p.ul.take i.i))) (i:=(el p.ul i.i).ou.toNat) (by rw[MU];omega) true) wT ?_;rw[QE1 hlt hb24])
  |(refine QV (vs:=[_]) I I I Zi I .here (Wl (f:=ae) (l:=(Iy p.sh (p.ul.take i.i))) (i:=(el p.ul i.i).ou.toNat) (by rw[MU];omega) (H8 (el p.ul i.i))) wT ?_;rw[QE2 hlt hb24])
  refine QF<|Qg<|QD<|QB<|QA (Qn I I O)<|wB 2 I ?_
  exact Qj (⟨i.i+1,hlt⟩) (by show p.ul.length-(i.i+1)<p.ul.length-i.i;omega) wW QKK λF h=>⟨h.1.1.1,trivial⟩
 have hge:p.ul.length<=i.i:=wi<|QLs hc2
 have htl:=MU p.sh (p.ul.take i.i);refine JK ?_;refine QG<|QB ?_
 obtain⟨rr,hv,hrn,hrc,hfix⟩:=Q6.fix (w0:=w) (F0:=F) (bs1:=[]) (G:=_) (Q6.some (T:=4) (sz:=1) (b:=b8) (n:=p.sh.toNat) (cap:=p.sh.toNat) (l:=(Iy p.sh (p.ul.take i.i)).map ae) (rest:=[]) (by rw[ax];omega) (by rw[ax,ee];omega) (ak _) (aa (show p.sh.toNat<=1000000 by omega) wk));refine H5 hfix ?_;rw[hv];refine QMW 5 I ?_;exact QM (rr) rfl (wO I) (rfl) λF ⟨⟨⟨hP,hz1⟩,_⟩,hrow⟩=>by rw[aB hge]at hrow;exact⟨by rw[hrn];exact hrow,hrn,by rw[hrn];exact hrc⟩
theorem Vv(hF:Fits F w):Qi prog 39 [.int .i64 x,.int .i64 a,.int .i64 b] w F (.bool (N4 x a b)):=qD hF
def Tx(m:Mt)(i:Nat):Dh m i=(N4 (el m.sl i) 1 1000000&&N4 (el m.fl i).lost 0 999999999&&N4 (el m.fl i).Cx 0 999&&N4 (el m.fl i).load 0 999999999&&((el m.fl i).Cx==0||dA m.p.ul (i:Nat))):=rfl
def jb(m:Mt)(i:Nat):Oa m i=(N4 (el m.ll i) 0 8&&(el m.ll i==0||(el m.p.ul i).kd==K7)):=rfl
theorem CZ(hF:Fits F w)(hGl:Ka F)(hM:BB F m)(hL:QH0 m):Qi prog 13 [m.v] w F (.int .i64 (WV m)):=by
 have Ax:=hM.p.Mf;have hsl:=hM.QFu;have hfl:=hM.E9;have hll:=hM.QBj;have hun:=hL.p.un;refine QS.go (G:=λF=>BB F m/\Ka F) func13 hF ⟨hM,hGl⟩ ?_;refine QLF<|Q9 rfl (vs:=[_,_,_,_,_,_,_,_]) rfl λb1=>wR rfl<|QG<|QG<|JN (b:=b1) .here<|QB<|QA (QH rfl Ks ZL)<|QA (XE (n:=1) (vs:=[Qs m.p.sh,.slice m.p.un.q m.p.un.n m.p.un.cap,.slice m.p.ot.q m.p.ot.n m.p.ot.cap]) ((0)*8) (λF h9=>(JC.of (n:=1) (sz:=8) h9.2 rfl)) O rfl ZL rfl λj v hv=>by match j,hv with | 0,h=>exact h | 1,h=>exact h | 2,h=>exact h | _+3,h=>cases h)<|QL rfl (λ_ _ f k=>C3 f k.1.2 k.1.1.p hL.p) λ_=>wR rfl<|wS rfl<|QA (QP rfl rfl rfl)<|QF<|QD ?_
 refine QO I (λhc2=>?_) λhc2=>?_
 ·have h0:Vo m.p≠0:=by simpa using hc2
  refine wA 7 I ?_;exact QMn I I (congrArg (ai .i64) (by unfold WV;rw[if_pos h0])) wz
 have h0:Vo m.p=0:=by simpa using hc2
 have hsh:=OV h0;have hV:=RE.of h0;have hou:∀u∈m.p.ul,0<=u.ou/\u.ou<m.p.sh:=λu hu=>wi<|(hV.us u hu).ou
 refine QN<|QD ?_
 refine K4 (ι:=PLift ((m.sl.length:Int)=m.p.sh/\(m.fl.length:Int)=m.p.sh/\m.ll.length=m.p.ul.length)) [(1,_)] (λkl=>[]) (λkl=>[]) (λkl F=>True) (by exact wT) ?_ ?_
 ·refine QLF<|QA (QH I CH Qu)<|QA (QW 3 (λF h9=>h9.1.2) rfl Qu I)<|QA (Qc I Qd)<|QA (QH I Ks ZL)<|QA (QH I K9 QY)<|QA (QW 0 (λF h9=>h9.1.2) rfl QY I)<|wB 2 I ?_
  refine Qa (t:=23) rfl (λhb23=>?_) λhb23=>?_
  ·refine QMW 20 I<|Jv I<|wA 6 I ?_
   exact QMn I I (congrArg (ai .i64) (by unfold WV;rw[if_neg (by simpa using h0),if_pos (by simp at *;omega)])) wz
  refine QK I I<|QA (QH I UR MS)<|QK I I<|QA (QW 6 (λF h9=>h9.1.2) rfl MS I)<|QK I I<|QA (Qc I IN)<|QK I I<|QA (QH I Ks ZL)<|QK I I<|QA (QH I K9 QY)<|QK I I<|QA (QW 0 (λF h9=>h9.1.2) rfl QY I)<|wB 4 I ?_
  refine Qa (t:=32) rfl (λhb32=>?_) λhb32=>?_
  ·refine QMW 11 I<|Jv I<|wA 6 I ?_
   exact QMn I I (congrArg (ai .i64) (by unfold WV;rw[if_neg (by simpa using h0),if_pos (by simp at *;omega)])) wz
  refine QK I I<|QA (QH I DO Qu)<|QK I I<|QA (QW 7 (λF h9=>h9.1.2) rfl Qu I)<|QK I I<|QA (Qc I Qd)<|QK I I<|QA (QH I Ks ZL)<|QK I I<|QA (QH I XP Jf)<|QK I I<|QA (QW 1 (λF h9=>h9.1.2) rfl Jf I)<|QK I I<|QA (Qc I Xk)<|QMW 5 I ?_
  refine QO I (λhc2=>?_) λhc2=>?_
  ·refine wA 6 I ?_;exact QMn I I (congrArg (ai .i64) (by unfold WV;rw[if_neg (by simpa using h0),if_pos (by simp at *;omega)])) wz
  refine QN ?_;exact Kb (⟨by simp at hb23 hb32 hc2;omega⟩) wT QKK λF h9=>⟨⟨⟨⟨h9.1.1.1,h9.1.1.2⟩,h9.1.2⟩,trivial⟩,trivial⟩
 intro kl;have hlen:=kl.down;refine Xq [(1,_)] [(4,.bool (Ey m))] (by exact wT) ?_ ?_
 ·refine QB<|QA (QH I QB8 QY)<|QA (QW 4 (λF h9=>h9.1.1.2) rfl QY I)<|QL I (λ_ _ f k=>Vv f) λ_=>QJm I ?_
  refine Qa (t:=45) rfl (λhb45=>?_) λhb45=>?_
  ·refine QK I I<|QA (QH I QB7 QY)<|QK I I<|QA (QW 5 (λF h9=>h9.1.1.1.2) rfl QY I)<|QK I I<|QL I (λ_ _ f k=>Vv f) λ_=>wB 3 I ?_
   exact Jc ⟨rfl,(congrArg (λb:Bool=>some (ae b)) (by unfold Ey;rw[hb45];rfl)),trivial⟩ QKK λ_ h=>h.1.1
  refine wB 6 I ?_;exact Jc ⟨rfl,(congrArg (λb:Bool=>some (ae b)) (by unfold Ey;rw[hb45];rfl)),trivial⟩ QKK w8
 refine QLF<|QA (QH rfl Ks ZL)<|QA (XE (n:=1) (vs:=[Qs m.p.sh,.slice m.p.un.q m.p.un.n m.p.un.cap,.slice m.p.ot.q m.p.ot.n m.p.ot.cap]) ((0)*8) (λF h9=>(JC.of (n:=1) (sz:=8) h9.1.1.2 rfl)) O rfl ZL rfl λj v hv=>by match j,hv with | 0,h=>exact h | 1,h=>exact h | 2,h=>exact h | _+3,h=>cases h)<|QL rfl (λ_ _ f k=>uu f k.1.1.1.1.p hun ⟨O,O⟩ hou) λc52=>XA _ (λ_ _ f k=>k.2.2.1) λhn52=>wR rfl<|QG<|QLF<|QA (QH rfl UR MS)<|QA (QW 6 (λF h9=>h9.1.1.1.2) rfl MS rfl)<|QA (Qc rfl IN)<|QJm rfl<|QJl<|QQ<|Jt (ι:=IxJ m.fl.length) [(1,_),(5,_),(54,_),(55,_)] (λi=>[(4,.bool ((Ey m&&(au i.i).all (Dh m)))),(56,.int .i64 ((i.i:Nat):Int))]) (λi=>m.fl.length-i.i) (⟨0,ar _⟩) wW ⟨(congrArg (λb:Bool=>some (ae b)) (by dsimp only;rw[bH];simp)),rfl,trivial⟩ λi=>?_
 have hi:=i.le;refine wA 6 I ?_;refine QO I (λhc2=>?_) λhc2=>?_
 ·have hlt:i.i<m.fl.length:=wi<|QLr hc2
  refine QMX 7 I<|QA (Qo (n:=m.fa.n) i.i (λF h9=>h9.1.1.1.1.1.fa) rfl rfl IN IM O)<|QA (XE (n:=m.fa.n) (vs:=[Qs ((el m.fl i.i).lost),Qs ((el m.fl i.i).Cx),Qs ((el m.fl i.i).load)]) ((i.i)*3) (λF h9=>h9.1.1.1.1.1.fa) O rfl IM I λj v hv=>JR (f:=pyC) (l:=m.fl) AA O hv)<|Qk QIH λb7=>QJn I<|QV (vs:=[_,_,_]) I I I IM I .here .h3 wV<|QJl<|JN (b:=b7) .here<|wA 3 I ?_
  refine Qa (t:=62) rfl (λhb62=>?_) λhb62=>?_
  ·refine QK I I<|QA (QH I CH Qu)<|QK I I<|QA (QW 3 (λF h9=>h9.1.1.1.1.2) rfl Qu I)<|wB 3 I<|QA (Qo (n:=m.sc.n) i.i (λF h9=>h9.1.1.1.1.1.1.sc) rfl rfl Qd QY O)<|QK I I<|QA (Ql (n:=m.sc.n) ((i.i)*1) (λF h9=>h9.1.1.1.1.1.1.sc) O rfl QY (Jo (f:=Qs) (l:=m.sl) O))<|QK I I<|QL I (λ_ _ f k=>Vv f) λ_=>wB 2 I ?_
   refine Qa (t:=70) rfl (λhb70=>?_) λhb70=>?_
   ·refine QK I I<|QA (QH I xH QY)<|QK I I<|QA (QW 0 (λF h9=>h9.1.2) rfl QY I)<|QK I I<|QL I (λ_ _ f k=>Vv f) λ_=>wB 2 I ?_
    refine Qa (t:=75) rfl (λhb75=>?_) λhb75=>?_
    ·refine QK I I<|QA (QH I xG QY)<|QK I I<|QA (QW 1 (λF h9=>h9.1.1.2) rfl QY I)<|QK I I<|QL I (λ_ _ f k=>Vv f) λ_=>wB 2 I ?_
     refine Qa (t:=80) rfl (λhb80=>?_) λhb80=>?_
     ·refine QK I I<|QA (QH I QB5 QY)<|QK I I<|QA (QW 2 (λF h9=>h9.1.1.1.2) rfl QY I)<|QK I I<|QL I (λ_ _ f k=>Vv f) λ_=>wB 2 I ?_
      refine Qa (t:=85) rfl (λhb85=>?_) λhb85=>?_
      ·refine wB 5 I<|QA (Qo (n:=c52.n) i.i (λF h9=>h9.1.1.1.1.1.2.1) rfl rfl Uw Zi O)<|QK I I<|QA (Ql (n:=c52.n) (i.i*1) (λF h9=>h9.1.1.1.1.1.2.1) O rfl Zi (Jo (f:=ae) (l:=Iy m.p.sh m.p.ul) (by rw[MU];omega))) ?_
       rw[QFl hV O];refine wB 2 I ?_;refine Qa (t:=90) rfl (λhb90=>?_) λhb90=>?_
       ·refine wB 8 I<|Qg<|QD<|QB<|QA (Qn I I O)<|wB 2 I ?_
        exact Qj (⟨i.i+1,hlt⟩) (by show m.fl.length-(i.i+1)<m.fl.length-i.i;omega) ⟨rfl,rfl,rfl,rfl,(congrArg (λb:Bool=>some (ae b)) (by dsimp only;rw[YM,Tx m i.i];generalize (au i.i).all (Dh m)=A at hb62 ⊢;generalize Ey m=B at hb62 ⊢;clear hlen kl;cases A<;>cases B<;>simp_all)),rfl,trivial⟩ QKK λF h=>h.1.1.1.1.1
       refine QK I I<|QA (QH I xG QY)<|QK I I<|QA (QW 1 (λF h9=>h9.1.1.1.1.2) rfl QY I)<|wB 7 I<|Qg<|QD<|QB<|QA (Qn I I O)<|wB 2 I ?_
       exact Qj (⟨i.i+1,hlt⟩) (by show m.fl.length-(i.i+1)<m.fl.length-i.i;omega) ⟨rfl,rfl,rfl,rfl,(congrArg (λb:Bool=>some (ae b)) (by dsimp only;rw[YM,Tx m i.i];generalize (au i.i).all (Dh m)=A at hb62 ⊢;generalize Ey m=B at hb62 ⊢;clear hlen kl;cases A<;>cases B<;>simp_all)),rfl,trivial⟩ QKK λF h=>h.1.1.1.1.1
      refine wB 5 I<|Qz I I<|Qz I I<|Qz I I<|wB 4 I<|Qg<|QD<|QB<|QA (Qn I I O)<|wB 2 I ?_
      exact Qj (⟨i.i+1,hlt⟩) (by show m.fl.length-(i.i+1)<m.fl.length-i.i;omega) ⟨rfl,rfl,rfl,rfl,(congrArg (λb:Bool=>some (ae b)) (by dsimp only;rw[YM,Tx m i.i];generalize (au i.i).all (Dh m)=A at hb62 ⊢;generalize Ey m=B at hb62 ⊢;clear hlen kl;cases A<;>cases B<;>simp_all)),rfl,trivial⟩ QKK λF h=>h.1.1.1.1.1
     refine wB 10 I<|Qz I I<|Qz I I<|Qz I I<|wB 4 I<|Qg<|QD<|QB<|QA (Qn I I O)<|wB 2 I ?_
     exact Qj (⟨i.i+1,hlt⟩) (by show m.fl.length-(i.i+1)<m.fl.length-i.i;omega) ⟨rfl,rfl,rfl,rfl,(congrArg (λb:Bool=>some (ae b)) (by dsimp only;rw[YM,Tx m i.i];generalize (au i.i).all (Dh m)=A at hb62 ⊢;generalize Ey m=B at hb62 ⊢;clear hlen kl;cases A<;>cases B<;>simp_all)),rfl,trivial⟩ QKK λF h=>h.1.1.1.1
    refine wB 15 I<|Qz I I<|Qz I I<|Qz I I<|wB 4 I<|Qg<|QD<|QB<|QA (Qn I I O)<|wB 2 I ?_
    exact Qj (⟨i.i+1,hlt⟩) (by show m.fl.length-(i.i+1)<m.fl.length-i.i;omega) ⟨rfl,rfl,rfl,rfl,(congrArg (λb:Bool=>some (ae b)) (by dsimp only;rw[YM,Tx m i.i];generalize (au i.i).all (Dh m)=A at hb62 ⊢;generalize Ey m=B at hb62 ⊢;clear hlen kl;cases A<;>cases B<;>simp_all)),rfl,trivial⟩ QKK λF h=>h.1.1.1
   refine wB 20 I<|Qz I I<|Qz I I<|Qz I I<|wB 4 I<|Qg<|QD<|QB<|QA (Qn I I O)<|wB 2 I ?_
   exact Qj (⟨i.i+1,hlt⟩) (by show m.fl.length-(i.i+1)<m.fl.length-i.i;omega) ⟨rfl,rfl,rfl,rfl,(congrArg (λb:Bool=>some (ae b)) (by dsimp only;rw[YM,Tx m i.i];generalize (au i.i).all (Dh m)=A at hb62 ⊢;generalize Ey m=B at hb62 ⊢;clear hlen kl;cases A<;>cases B<;>simp_all)),rfl,trivial⟩ QKK λF h=>h.1.1
  refine wB 28 I<|Qz I I<|Qz I I<|Qz I I<|wB 4 I<|Qg<|QD<|QB<|QA (Qn I I O)<|wB 2 I ?_
  exact Qj (⟨i.i+1,hlt⟩) (by show m.fl.length-(i.i+1)<m.fl.length-i.i;omega) ⟨rfl,rfl,rfl,rfl,(congrArg (λb:Bool=>some (ae b)) (by dsimp only;rw[YM,Tx m i.i];generalize (au i.i).all (Dh m)=A at hb62 ⊢;generalize Ey m=B at hb62 ⊢;clear hlen kl;cases A<;>cases B<;>simp_all)),rfl,trivial⟩ QKK w8
 have hge:i.i=m.p.sh.toNat:=by have:=QLs hc2;have:=i.le;omega
 refine JK ?_;refine QG<|QLF<|QA (QH I DO Qu)<|QA (QW 7 (λF h9=>h9.1.1.1.2) rfl Qu I)<|QA (Qc I Qd)<|QMW 4 I<|Jt (ι:=IxJ m.ll.length) [(1,_),(98,_),(99,_)] (λi2=>[(4,.bool ((Ey m&&(au m.p.sh.toNat).all (Dh m)&&(au i2.i).all (Oa m)))),(100,.int .i64 ((i2.i:Nat):Int))]) (λi2=>m.ll.length-i2.i) (⟨0,ar _⟩) wV ⟨(congrArg (λb:Bool=>some (ae b)) (by dsimp only;rw[hge,bH];simp)),rfl,trivial⟩ λi2=>?_
 have hi2:=i2.le;refine wA 6 I ?_;refine QO I (λhc2=>?_) λhc2=>?_
 ·have hlt2:i2.i<m.ll.length:=wi<|QLr hc2
  refine QMX 7 I<|QA (Qo (n:=m.lg.n) (i2.i) (λF h9=>h9.1.1.1.1.1.lg) rfl rfl Qd QY O)<|QA (Ql (n:=m.lg.n) ((i2.i)*1) (λF h9=>h9.1.1.1.1.1.lg) O rfl QY (Jo (f:=Qs) (l:=m.ll) O))<|QMW 7 I ?_
  refine Qa (t:=106) rfl (λhb106=>?_) λhb106=>?_
  ·refine wB 3 I<|QL I (λ_ _ f k=>Vv f) λ_=>wB 2 I ?_
   refine Qa (t:=110) rfl (λhb110=>?_) λhb110=>?_
   ·refine QK I I<|QA (QH I Ks ZL)<|QK I I<|QA (QH I XP Jf)<|QK I I<|QA (QW 1 (λF h9=>h9.1.1.1.1.2) rfl Jf I)<|wB 3 I<|QA (Qo (n:=m.p.un.n) (i2.i) (λF h9=>h9.1.1.1.1.1.1.p.un) rfl rfl Xk XJ O)<|QK I I<|QA (QH I KM Y5)<|QK I I<|QA (Ql (n:=m.p.un.n) ((i2.i)*5+0) (λF h9=>h9.1.1.1.1.1.1.p.un) O rfl Y5 (JR (f:=MR) (l:=m.p.ul) ZI O rfl))<|QK I I<|QA (Xc I I)<|wB 2 I ?_
    refine Qa (t:=119) rfl (λhb119=>?_) λhb119=>?_
    ·refine wB 7 I<|Qg<|QD<|QB<|QA (Qn I I O)<|wB 2 I ?_
     exact Qj (⟨i2.i+1,hlt2⟩) (by show m.ll.length-(i2.i+1)<m.ll.length-i2.i;omega) ⟨rfl,rfl,rfl,(congrArg (λb:Bool=>some (ae b)) (by dsimp only;rw[YM,jb m i2.i];generalize (au m.p.sh.toNat).all (Dh m)=A at hb106 ⊢;generalize (au i2.i).all (Oa m)=A2 at hb106 ⊢;generalize Ey m=B at hb106 ⊢;cases A<;>cases A2<;>cases B<;>simp_all [K7])),rfl,trivial⟩ QKK w8
    refine wB 9 I<|Qg<|QD<|QB<|QA (Qn I I O)<|wB 2 I ?_
    exact Qj (⟨i2.i+1,hlt2⟩) (by show m.ll.length-(i2.i+1)<m.ll.length-i2.i;omega) ⟨rfl,rfl,rfl,(congrArg (λb:Bool=>some (ae b)) (by dsimp only;rw[YM,jb m i2.i];generalize (au m.p.sh.toNat).all (Dh m)=A at hb106 ⊢;generalize (au i2.i).all (Oa m)=A2 at hb106 ⊢;generalize Ey m=B at hb106 ⊢;cases A<;>cases A2<;>cases B<;>simp_all [K7])),rfl,trivial⟩ QKK w8
   refine wB 9 I<|Qz I I<|Qz I I<|wB 4 I<|Qg<|QD<|QB<|QA (Qn I I O)<|wB 2 I ?_
   exact Qj (⟨i2.i+1,hlt2⟩) (by show m.ll.length-(i2.i+1)<m.ll.length-i2.i;omega) ⟨rfl,rfl,rfl,(congrArg (λb:Bool=>some (ae b)) (by dsimp only;rw[YM,jb m i2.i];generalize (au m.p.sh.toNat).all (Dh m)=A at hb106 ⊢;generalize (au i2.i).all (Oa m)=A2 at hb106 ⊢;generalize Ey m=B at hb106 ⊢;cases A<;>cases A2<;>cases B<;>simp_all [K7])),rfl,trivial⟩ QKK w8
  refine wB 13 I<|Qz I I<|Qz I I<|wB 4 I<|Qg<|QD<|QB<|QA (Qn I I O)<|wB 2 I ?_
  exact Qj (⟨i2.i+1,hlt2⟩) (by show m.ll.length-(i2.i+1)<m.ll.length-i2.i;omega) ⟨rfl,rfl,rfl,(congrArg (λb:Bool=>some (ae b)) (by dsimp only;rw[YM,jb m i2.i];generalize (au m.p.sh.toNat).all (Dh m)=A at hb106 ⊢;generalize (au i2.i).all (Oa m)=A2 at hb106 ⊢;generalize Ey m=B at hb106 ⊢;cases A<;>cases A2<;>cases B<;>simp_all [K7])),rfl,trivial⟩ QKK w7
 have hge2:i2.i=m.ll.length:=by have:=QLs hc2;have:=i2.le;omega
 refine JK ?_;refine wS I<|QA (Xv I)<|QL I (λ_ _ f k=>Vx f) λ_=>wR I<|QU ?_
 exact QMn I I (congrArg (ai .i64) (by unfold WV;rw[if_neg (by simpa using h0),if_neg (by simpa using hlen)];unfold okM;rw[hge2];split<;>simp_all)) wz
structure BxG(m:Nat)(v:List SpQ):Prop where
 len:v.length=m
 ord:QIg v
 sz:∀a∈v,Szs a 1800
structure TbG(m:Nat)(es:List Rat)(T:List TbQ):Prop where
 len:T.length=es.length
 e:∀i,i<es.length->(el T i).1=el es i
 w:∀i,i<es.length->BxG m (el T i).2.1
 l:∀i,i<es.length->BxG m (el T i).2.2
def QIa(es:List Rat)(i:Nat):Rat:=if i=0 then((0:Int):Rat)else el es (i-1)
structure EsG(es:List Rat):Prop where
 asc:∀i,i<es.length->QIa es i<el es i
 sz:∀i,i<es.length->Zv (el es i)<=1800
 le:es.length<=1000
def ldF(s:Int)(l:List Lf):Nat:=l.countP λf=>f.k==s
def ldU(s:Int)(l:List Xi):Nat:=(l.map λu=>ldF s u.fl).sum
def Xa9{l:List Lf}(h:k<l.length):ldF s (l.take (k+1))=ldF s (l.take k)+if(el l k).k=s then 1 else 0:=by
 unfold ldF;rw[ZB h,List.countP_append];simp[List.countP_cons]
def Xau{l:List Xi}(h:k<l.length):ldU s (l.take (k+1))=ldU s (l.take k)+ldF s (el l k).fl:=by
 unfold ldU;rw[ZB h];simp
def Xb0(s:Int)(l:List Lf):ldF s l<=l.length:=bK
def Xbo{l:List Xi}{m:Nat}(h:∀u∈l,u.fl.length<=m):ldU s l<=l.length*m:=by
 unfold ldU
 induction l with
 |nil=>simp
 |cons u l ih =>
  have h1:=ih λu hu=>h u (.tail _ hu);have h2:=aa (Xb0 s u.fl) (h u (.head _));rw[List.map_cons,List.sum_cons,aT,bF];omega
theorem Xbh{p:YB}{s:Int}(hF:Fits F w)(hP:GR F p)(hb:p.un.n<=1000000)(hfl:∀u∈p.ul,u.fl.length<=1000):Qi prog 15 [p.v,.int .i64 s] w F (.int .i64 ((ldU s p.ul:Nat):Int)):=by
 have Ax:=hP.Mf;refine QS.go (G:=λF=>GR F p) func15 hF hP ?_;refine QLF<|Q9 I (vs:=[_,_,_]) I λb2=>wR I<|QG<|JN (b:=b2) .here<|QMX 11 I<|Jt (ι:=IxJ p.ul.length) [(1,_),(2,_)] (λi=>[(5,.int .i64 ((ldU s (p.ul.take i.i):Nat):Int)),(6,.int .i64 ((i.i:Nat):Int))]) (λi=>p.ul.length-i.i) (⟨0,ar _⟩) wU wU λi=>?_
 have hi:=i.le;refine wA 4 I<|QA (QH I XP Jf)<|QA (Ql (n:=1) ((0)*3+1) (λF h9=>(JC.of (n:=1) (sz:=3) h9.2 I)) O rfl Jf I)<|QA (Qc I Xk)<|QMW 3 I ?_
 refine QO I (λhc2=>?_) λhc2=>?_
 ·have hlt:i.i<p.ul.length:=wi<|QLr hc2
  have hu:=Q2 hlt;have hUr:=hP.us _ hu;have hfn:=hUr.E9;have hfm:=hfl _ hu;have hld:=Xbo (s:=s) (l:=p.ul.take i.i) (m:=1000) (λu h=>hfl u (eN h));rw[bj]at hld;refine QMX 10 I<|Jt (ι:=IxJ (el p.ul i.i).fl.length) [(1,_),(2,_),(6,_)] (λk=>[(5,.int .i64 (((ldU s (p.ul.take i.i)+ldF s ((el p.ul i.i).fl.take k.i)):Nat):Int)),(7,.int .i64 ((k.i:Nat):Int))]) (λk=>(el p.ul i.i).fl.length-k.i) (⟨0,ar _⟩) wV ⟨(congrArg (λz:Int=>some (ai .i64 z)) (by dsimp only;simp[ldF])),rfl,trivial⟩ λk=>?_
  have hki:=k.le;refine wA 4 I<|QA (QH I XP Jf)<|QA (Ql (n:=1) ((0)*3+1) (λF h9=>(JC.of (n:=1) (sz:=3) h9.2 I)) O rfl Jf I)<|QJm I<|QA (Qo (n:=p.un.n) i.i (λF h9=>h9.1.un) rfl rfl Xk XJ O)<|QA (QH I Zz Xd)<|QA (Ql (n:=p.un.n) ((i.i)*5+1) (λF h9=>h9.1.un) O rfl Xd (JR (f:=MR) (l:=p.ul) ZI O rfl))<|QA (Qc I YV)<|QMW 3 I ?_
  refine QO I (λhc2=>?_) λhc2=>?_
  ·have hlk:k.i<(el p.ul i.i).fl.length:=wi<|QLr hc2
   have hldf:=Xb0 s ((el p.ul i.i).fl.take k.i);rw[bj]at hldf;refine QMX 6 I<|QA (QH I XP Jf)<|QA (Ql (n:=1) ((0)*3+1) (λF h9=>(JC.of (n:=1) (sz:=3) h9.2 I)) O rfl Jf I)<|QJm I<|QA (Qo (n:=p.un.n) i.i (λF h9=>h9.1.un) rfl rfl Xk XJ O)<|QA (QH I Zz Xd)<|QA (Ql (n:=p.un.n) ((i.i)*5+1) (λF h9=>h9.1.un) O rfl Xd (JR (f:=MR) (l:=p.ul) ZI O rfl))<|QJm I<|QA (Qo (n:=(el p.ul i.i).fd.n) (k.i) (λF h9=>((h9.1.us _ (Q2 (show i.i<p.ul.length from O)))).fd) rfl rfl YV Kf O)<|QA (QH I GQ QY)<|QA (Ql (n:=(el p.ul i.i).fd.n) ((k.i)*2+0) (λF h9=>((h9.1.us _ (Q2 (show i.i<p.ul.length from O)))).fd) O rfl QY (JR (f:=Uj) (l:=(el p.ul i.i).fl) YT O rfl))<|QMW 4 I ?_
   refine QO I (λhc2=>?_) λhc2=>?_
   ·have hq:=eq_of_beq hc2;refine wA 2 I<|QA (Qn I I O)<|wB 2 I<|Qg<|QMY 3 I<|QA (Qn I I O)<|wB 2 I ?_
    exact Qj (⟨k.i+1,hlk⟩) (by show(el p.ul i.i).fl.length-(k.i+1)<(el p.ul i.i).fl.length-k.i;omega) ⟨rfl,rfl,rfl,(congrArg (λz:Int=>some (ai .i64 z)) (by dsimp only;rw[Xa9 hlk,if_pos hq];omega)),rfl,trivial⟩ QKK w7
   have hq:=ne_of_beq_false hc2;refine QN<|Qg<|QMY 3 I<|QA (Qn I I O)<|wB 2 I ?_
   exact Qj (⟨k.i+1,hlk⟩) (by show(el p.ul i.i).fl.length-(k.i+1)<(el p.ul i.i).fl.length-k.i;omega) ⟨rfl,rfl,rfl,(congrArg (λz:Int=>some (ai .i64 z)) (by dsimp only;rw[Xa9 hlk,if_neg hq];omega)),rfl,trivial⟩ QKK w7
  have hk:ldF s ((el p.ul i.i).fl.take k.i)=ldF s (el p.ul i.i).fl:=by rw[aB (wi<|QLs hc2)]
  refine JK ?_;refine wA 2 I<|QA (Qn I I O)<|wB 2 I ?_
  exact Qj (⟨i.i+1,hlt⟩) (by show p.ul.length-(i.i+1)<p.ul.length-i.i;omega) ⟨rfl,rfl,(congrArg (λz:Int=>some (ai .i64 z)) (by dsimp only;rw[Xau hlt,<-hk])),rfl,trivial⟩ QKK w7
 have hge:i.i=p.ul.length:=by have:=QLs hc2;have:=i.le;omega
 refine JK ?_;refine wA 7 I ?_;exact QMn I I (congrArg (ai .i64) (by rw[hge,bV])) wz
theorem Xbf{p:YB}{s:Int}(hF:Fits F w)(hP:GR F p)(hb:p.un.n<=1000000)(hfl:∀u∈p.ul,u.fl.length<=1000):Qi prog 40 [p.v,.int .i64 s] w F (.int .i64 ((ldU s p.ul:Nat):Int)):=by
 have Ax:=hP.Mf;refine QS.go (G:=λF=>GR F p) func40 hF hP ?_;refine QLF<|Q9 I (vs:=[_,_,_]) I λb2=>wR I<|QG<|JN (b:=b2) .here<|QMX 7 I<|QA (QH I XP Jf)<|QA (Ql (n:=1) ((0)*3+1) (λF h9=>(JC.of (n:=1) (sz:=3) h9.2 I)) O rfl Jf I)<|QA (Qc I Xk)<|QMW 4 I<|Jt (ι:=IxJ p.ul.length) [(1,_),(11,_),(12,_)] (λi=>[(5,.int .i64 ((ldU s (p.ul.take i.i):Nat):Int)),(13,.int .i64 ((i.i:Nat):Int))]) (λi=>p.ul.length-i.i) (⟨0,ar _⟩) wV wU λi=>?_
 have hi:=i.le;refine wA 6 I ?_;refine QO I (λhc2=>?_) λhc2=>?_
 ·have hlt:i.i<p.ul.length:=wi<|QLr hc2
  have hu:=Q2 hlt;have hUr:=hP.us _ hu;have hfn:=hUr.E9;have hfm:=hfl _ hu;have hld:=Xbo (s:=s) (l:=p.ul.take i.i) (m:=1000) (λu h=>hfl u (eN h));rw[bj]at hld;refine QMX 6 I<|QA (Qo (n:=p.un.n) i.i (λF h9=>h9.1.un) rfl rfl Xk XJ O)<|QA (XE (n:=p.un.n) (vs:=[tx (el p.ul i.i).kd,.slice (el p.ul i.i).fd.q (el p.ul i.i).fd.n (el p.ul i.i).fd.cap,Qs ((el p.ul i.i).ou),tx (el p.ul i.i).st,.slice (el p.ul i.i).cv.q (el p.ul i.i).cv.n (el p.ul i.i).cv.cap]) ((i.i)*5) (λF h9=>h9.1.un) O rfl XJ I λj v hv=>JR (f:=MR) (l:=p.ul) ZI O hv)<|Qk TM λb7=>QV (vs:=[_,_,_,_,_]) I I I XJ I .here .h5 wX<|QJl<|QG<|JN (b:=b7) .here<|QB<|QA (QH I Zz Xd)<|QA (Ql (n:=1) ((0)*5+1) (λF h9=>(JC.of (n:=1) (sz:=5) h9.2 I)) O rfl Xd I)<|QA (Qc I YV)<|QMW 4 I<|Jt (ι:=IxJ (el p.ul i.i).fl.length) [(1,_),(11,_),(12,_),(13,_),(18,_),(19,_)] (λk=>[(5,.int .i64 (((ldU s (p.ul.take i.i)+ldF s ((el p.ul i.i).fl.take k.i)):Nat):Int)),(20,.int .i64 ((k.i:Nat):Int))]) (λk=>(el p.ul i.i).fl.length-k.i) (⟨0,ar _⟩) wY ⟨(congrArg (λz:Int=>some (ai .i64 z)) (by dsimp only;simp[ldF])),rfl,trivial⟩ λk=>?_
  have hki:=k.le;refine wA 6 I ?_;refine QO I (λhc2=>?_) λhc2=>?_
  ·have hlk:k.i<(el p.ul i.i).fl.length:=wi<|QLr hc2
   have hldf:=Xb0 s ((el p.ul i.i).fl.take k.i);rw[bj]at hldf;refine QMX 6 I<|QA (Qo (n:=(el p.ul i.i).fd.n) (k.i) (λF h9=>((h9.1.1.us _ (Q2 (show i.i<p.ul.length from O)))).fd) rfl rfl YV Kf O)<|QA (XE (n:=(el p.ul i.i).fd.n) (vs:=[.int .i64 ((el (el p.ul i.i).fl (k.i)).k),tx (el (el p.ul i.i).fl (k.i)).r]) ((k.i)*2) (λF h9=>((h9.1.1.us _ (Q2 (show i.i<p.ul.length from O)))).fd) O rfl Kf I λj v hv=>JR (f:=Uj) (l:=(el p.ul i.i).fl) YT O hv)<|Qk QDL λb9=>QV (vs:=[_,_]) I I I Kf I .here .h2 wU<|QJl<|QG<|JN (b:=b9) .here<|QB<|QA (QH I GQ QY)<|QA (Ql (n:=1) ((0)*2+0) (λF h9=>(JC.of (n:=1) (sz:=2) h9.2 I)) O rfl QY I)<|QMW 4 I ?_
   refine QO I (λhc2=>?_) λhc2=>?_
   ·have hq:=eq_of_beq hc2;refine wA 2 I<|QA (Qn I I O)<|wB 2 I<|Qg<|QD<|QB<|QA (Qn I I O)<|wB 2 I ?_
    exact Qj (⟨k.i+1,hlk⟩) (by show(el p.ul i.i).fl.length-(k.i+1)<(el p.ul i.i).fl.length-k.i;omega) ⟨rfl,rfl,rfl,rfl,rfl,rfl,(congrArg (λz:Int=>some (ai .i64 z)) (by dsimp only;rw[Xa9 hlk,if_pos hq];omega)),rfl,trivial⟩ QKK w8
   have hq:=ne_of_beq_false hc2;refine QN<|Qg<|QD<|QB<|QA (Qn I I O)<|wB 2 I ?_
   exact Qj (⟨k.i+1,hlk⟩) (by show(el p.ul i.i).fl.length-(k.i+1)<(el p.ul i.i).fl.length-k.i;omega) ⟨rfl,rfl,rfl,rfl,rfl,rfl,(congrArg (λz:Int=>some (ai .i64 z)) (by dsimp only;rw[Xa9 hlk,if_neg hq];omega)),rfl,trivial⟩ QKK w8
  have hk:ldF s ((el p.ul i.i).fl.take k.i)=ldF s (el p.ul i.i).fl:=by rw[aB (wi<|QLs hc2)]
  refine JK ?_;refine QB<|QA (Qn I I O)<|wB 2 I ?_
  exact Qj (⟨i.i+1,hlt⟩) (by show p.ul.length-(i.i+1)<p.ul.length-i.i;omega) ⟨rfl,rfl,rfl,(congrArg (λz:Int=>some (ai .i64 z)) (by dsimp only;rw[Xau hlt,<-hk])),rfl,trivial⟩ QKK w8
 have hge:i.i=p.ul.length:=by have:=QLs hc2;have:=i.le;omega
 refine JK ?_;refine wA 7 I ?_;exact QMn I I (congrArg (ai .i64) (by rw[hge,bV])) wz
def Xa5(h:WV m=0):Vo m.p=0:=by
 unfold WV at h;split at h
 ·contradiction
 rename_i g;simpa using g
theorem Xbb{p:YB}(hF:Fits F w)(hGl:Ka F)(hP:GR F p)(hL:QC8 p)(h0:Vo p=0):QS prog 118 [p.v] w F (λ(c:Sr)=>.tuple #[c.v,.int .i64 0]) (λc F=>JC F c.q c.n 1 ((ZY p.ul).map Qs)/\c.n=(ZY p.ul).length/\c.n<=c.cap):=by
 have Ax:=hP.Mf;have hun:=hL.un;have hV:=RE.of h0;have hsh:1<=p.sh/\p.sh<=1000000:=wi hV.sh;have hdr:=hV.dr;have hob:C4 p.ul=true:=by unfold C4;exact decide_eq_true (wi hV.ord)
 refine QS.go (G:=λF=>Ka F/\GR F p) func118 hF ⟨hGl,hP⟩ ?_;refine QLF<|Q9 I (vs:=[_,_,_]) I λb1=>QMW 6 I<|JN (b:=b1) .here<|QB<|QA (XE (n:=1) (vs:=[Qs p.sh,.slice p.un.q p.un.n p.un.cap,.slice p.ot.q p.ot.n p.ot.cap]) ((0)*3) (λF h9=>(JC.of (n:=1) (sz:=3) h9.2 I)) O rfl ZL I λj v hv=>by simpa using hv)<|QL I (λ_ _ f k=>C3 f k.1.1 k.1.2 hL) λ_=>QMW 9 I ?_
 refine QO I (λhc2=>?_) λhc2=>?_
 ·exact absurd hc2 ((by rw[h0];decide))
 refine QMX 4 I<|QA (XE (n:=1) (vs:=[Qs p.sh,.slice p.un.q p.un.n p.un.cap,.slice p.ot.q p.ot.n p.ot.cap]) ((0)*3) (λF h9=>(JC.of (n:=1) (sz:=3) h9.1.2 I)) O rfl ZL I λj v hv=>by simpa using hv)<|QL I (λ_ _ f k=>cy f k.1.1.2 hun hsh λu hu=>(hV.us u hu).ou) λc16=>XA _ (λ_ _ f k=>(k.2 hdr).2.1) λn16=>QMW 9 I<|QA (XE (n:=1) (vs:=[Qs p.sh,.slice p.un.q p.un.n p.un.cap,.slice p.ot.q p.ot.n p.ot.cap]) ((0)*3) (λF h9=>(JC.of (n:=1) (sz:=3) h9.1.1.2 I)) O rfl ZL I λj v hv=>by simpa using hv)<|QJm I<|QL I (λ_ _ g k=>QDn (N:=c16.n) g k.1.1.1.2 (by rw[n16];have:=(k.2 hdr).1;rwa [n16]at this) hun (λu hu=>by have h1:=Z0 (hV.us u hu);have h2:=(k.1.1.1.2.us _ hu).E9;omega) (λu hu=>(hV.us u hu).kd) λu hu f hf=>wi<|((hV.us u hu).fd f (QDy hf)).1) λc22=>QMW 15 I ?_
 exact X4 (c22) rfl (wP I I) (rfl) λF h9=>h9.2 hob
def ldE(m:Mt)(s:Int):Int:=if WV m≠0 then WV m else if N4 s 0 (m.p.sh-1)=true then 0 else 10
def Xd3{z:Int}(h:1<=m.p.sh/\m.p.sh<=100->z=m.p.sh-1):JB [WV m,if(!N4 s 0 z)=true then 10 else 0]=ldE m s:=by
 unfold ldE;by_cases h0:WV m=0
 ·have hz:=h (RE.of (Xa5 h0)).sh;rw[hz];cases hb:N4 s 0 (m.p.sh-1)<;>simp[JB,h0]
 simp[JB,h0]
def Xbp(h:ldE m s=0):WV m=0:=by
 unfold ldE at h;split at h
 ·exact h
 rename_i g;exact Classical.not_not.1 g
theorem Xbg{s:Int}(hF:Fits F w)(hGl:Ka F)(hM:BB F m)(hL:QH0 m):Qi prog 11 [m.v,.int .i64 s] w F (.tuple #[.int .i64 (if ldE m s=0 then((ldU s m.p.ul:Nat):Int)else 0),.int .i64 (ldE m s)]):=by
 obtain⟨z,hz1,hz2⟩:∃z:Int,kD .sub (.int .i64 m.p.sh) (.int .i64 1)=some (.int .i64 z)/\(1<=m.p.sh/\m.p.sh<=100->z=m.p.sh-1):=⟨_,rfl,λh=>IntWalk.i64_in _ O⟩;refine QS.go (G:=λF=>BB F m/\Ka F) func11 hF ⟨hM,hGl⟩ ?_;refine QLF<|Q9 I (vs:=[_,_,_,_,_,_,_,_]) I λb2=>QMW 6 I<|JN (b:=b2) .here<|JE QKK mixed wj<|QJ (XE (n:=1) (vs:=[Qs m.p.sh,.slice m.p.un.q m.p.un.n m.p.un.cap,.slice m.p.ot.q m.p.ot.n m.p.ot.cap,.slice m.sc.q m.sc.n m.sc.cap,Qs m.QDf,Qs m.QEV,.slice m.fa.q m.fa.n m.fa.cap,.slice m.lg.q m.lg.n m.lg.cap]) ((0)*8) (λF h9=>(JC.of (n:=1) (sz:=8) h9.2 I)) O rfl Mz I λj v hv=>by simpa using hv)<|QZ I (λ_ _ f k=>CZ f k.1.2 k.1.1 hL) λ_=>QJ (QC I)<|QJ (QH I Ks ZL)<|QJ (QH I K9 QY)<|QJ (Ql (n:=1) ((0)*8+0) (λF h9=>(JC.of (n:=1) (sz:=8) h9.2 I)) O rfl QY I)<|QJ (QP I I hz1)<|QZ I (λ_ _ f k=>Vv f) λ_=>QJ (Xv I)<|QZ I (λ_ _ f k=>Vx f) λ_=>?_
 refine XU I (J2 GL) DY Ia I I (λb17=>?_) (λw h=>h.imp .slnil λF h=>h.1.1.1);refine QZ I (λ_ _ f k=>W6 (l:=[WV m,if(!N4 s 0 z)=true then 10 else 0]) f (JC.of k.2 I) wk) (λ_=>?_);rw[Xd3 hz2];refine QJ (QE I)<|Qy<|QMY 7 I ?_
 refine QO I (λhc2=>?_) λhc2=>?_
 ·have h20:ldE m s≠0:=by simpa using hc2
  refine wA 8 I ?_;exact X4 (()) I (wP I I) (by rw[if_neg h20]) wz
 have h20:ldE m s=0:=by simpa using hc2
 have hV:=RE.of (Xa5 (Xbp h20));have hfl:∀u∈m.p.ul,u.fl.length<=1000:=λu hu=>wi<|Z0 (hV.us u hu)
 refine QMX 4 I<|QA (QH rfl Ks ZL)<|QA (XE (n:=1) (vs:=[Qs m.p.sh,.slice m.p.un.q m.p.un.n m.p.un.cap,.slice m.p.ot.q m.p.ot.n m.p.ot.cap]) ((0)*8) (λF h9=>(JC.of (n:=1) (sz:=8) h9.1.1.1.1.1.2 rfl)) O rfl ZL rfl λj v hv=>by match j,hv with | 0,h=>exact h | 1,h=>exact h | 2,h=>exact h | _+3,h=>cases h)<|QJm rfl<|QL rfl (λ_ _ f k=>Xbf f k.1.1.1.1.1.1.1.p hL.p.un λu hu=>hfl u hu) λ_=>QJn rfl<|wR rfl<|QU ?_
 exact X4 (()) I (wP I I) (by rw[if_pos h20,h20]) wz
def Xa0(us:List Xi)(s:Int):List Lf:=if Va us s<0\/H8 (el us (Va us s).toNat)=true then[]else(el us (Va us s).toNat).fl
inductive Rch(us:List Xi):Int->Int->Prop
 |refl (s:Int):Rch us s s
 |step {s t:Int} {f:Lf} (hf:f∈Xa0 us s) (h:Rch us f.k t):Rch us s t
theorem Rch.snoc(h:Rch us s x){f:Lf}(hf:f∈Xa0 us x):Rch us s f.k:=by
 induction h with
 |refl s=>exact .step hf (.refl _)
 |step a _ ih=>exact .step a (ih hf)
theorem Rch.mem{l:List Int}(hc:∀x∈l,∀f∈Xa0 us x,f.k∈l){s t:Int}(h:Rch us s t):s∈l->t∈l:=by
 induction h with
 |refl s=>exact id
 |step a _ ih=>exact λhs=>ih (hc _ hs _ a)
structure HgP(us:List Xi)(sh s:Int)(l:List Int):Prop where
 nd:l.Nodup
 rg:∀x∈l,0<=x/\x<sh
 rc:∀x∈l,Rch us s x
 hs:s∈l
theorem HgP.len{l:List Int}(h:HgP us sh s l):l.length<=sh.toNat:=Oi _ l h.nd λx hx=>wi<|h.rg x hx
theorem HgP.snoc{y:Int}{l:List Int}(h:HgP us sh s l)(hn:y∉l)(hr:0<=y/\y<sh)(hc:Rch us s y):HgP us sh s (l++[y]) where
 nd:=by rw[List.nodup_append];exact⟨h.nd,wv,λa ha b hb e=>by rw[List.mem_singleton.1 hb]at e;exact hn (e ▸ ha)⟩
 rg x hx:=by
  rcases List.mem_append.1 hx with hx | hx
  ·exact h.rg x hx
  rw[List.mem_singleton.1 hx];exact hr
 rc x hx:=by
  rcases List.mem_append.1 hx with hx | hx
  ·exact h.rc x hx
  rw[List.mem_singleton.1 hx];exact hc
 hs:=bL _ h.hs
def HgL(us:List Xi)(s:Int)(l:List Int):Prop:=∀t,t∈l↔Rch us s t
structure HgJ(us:List Xi)(sh s:Int) where
 k:Nat
 l:List Int
 v:Value
 ob:List (Nat×Obj)
 ok:HgP us sh s l
 hr:Q6 3 1 v l.length (l.map Qs) ob
 le:k<=l.length
 cl:∀i,i<k->∀f∈Xa0 us (el l i),f.k∈l
structure HgK(us:List Xi)(sh s:Int)(k:Nat)(x:Int) where
 f:Nat
 l:List Int
 v:Value
 ob:List (Nat×Obj)
 ok:HgP us sh s l
 hr:Q6 3 1 v l.length (l.map Qs) ob
 lt:k<l.length
 ex:el l k=x
 cl:∀i,i<k->∀f∈Xa0 us (el l i),f.k∈l
 le:f<=(Xa0 us x).length
 fc:∀g∈(Xa0 us x).take f,g.k∈l
theorem HgJ.all{l:List Int}(ok:HgP us sh s l)(hk:l.length<=k)(cl:∀i,i<k->∀f∈Xa0 us (el l i),f.k∈l):HgL us s l:=λt =>
 ⟨ok.rc t,λh=>h.mem (λx hx f hf=>by
  obtain⟨j,hj,rfl⟩:=aX hx;refine cl j O f ?_;rw[ZH hj];exact hf) ok.hs⟩
def Xcu{l:List Int}{y:Int}(hk:k<=l.length)(cl:∀i,i<k->∀f∈Xa0 us (el l i),f.k∈l):∀i,i<k->∀f∈Xa0 us (el (l++[y]) i),f.k∈l++[y]:=λi hi f hf=>by
 rw[Xaq O]at hf;exact bL _ (cl i hi f hf)
def Xar{l:List Int}(cl:∀i,i<k->∀f∈Xa0 us (el l i),f.k∈l)(h:∀f∈Xa0 us (el l k),f.k∈l):∀i,i<k+1->∀f∈Xa0 us (el l i),f.k∈l:=λi hi f hf=>by
 rcases Nat.lt_succ_iff_lt_or_eq.1 hi with h1 | rfl
 ·exact cl i h1 f hf
 exact h f hf
def Xbn[Inhabited α]{l:List α}{k:Nat}{P:α->Prop}(hk:k<l.length)(h:∀g∈l.take k,P g)(hx:P (el l k)):∀g∈l.take (k+1),P g:=λg hg=>by
 rw[ZB hk]at hg;rcases List.mem_append.1 hg with hg | hg
 ·exact h g hg
 rw[List.mem_singleton.1 hg];exact hx
theorem Xb7{l:List Int}{q:Option Addr}{n:Nat}(hF:Fits F w)(hR:JC F q n 1 (l.map Qs))(hln:l.length=n)(hb:n<=1000000000):Qi prog 44 [.slice q n c,.int .i64 x] w F (.bool (decide (x∈l))):=by
 refine QS.go (G:=λF=>JC F q n 1 (l.map Qs)) func44 hF hR ?_;refine wA 12 I<|Jt (ι:=WT l λy=>y==x) [(0,_),(1,_)] (λi=>[(5,.int .i64 ((i.i:Nat):Int))]) (λi=>l.length-i.i) (WT.start _ _) wU wT λi=>?_
 have hi:=i.le;refine wA 5 I<|QA (Qc I Qd)<|QMW 3 I ?_
 refine QO I (λhc2=>?_) λhc2=>?_
 ·have hlt:i.i<l.length:=wi<|QLr hc2
  refine QMX 8 I<|QA (Qo (n:=n) i.i w7 rfl rfl Qd QY O)<|QA (Ql (n:=n) ((i.i)*1) w7 O rfl QY (Jo (f:=Qs) (l:=l) O))<|QMW 4 I ?_
  refine QO I (λhc2=>?_) λhc2=>?_
  ·have hq:(el l i.i==x)=true:=hc2;refine wA 5 I<|ZS ?_
   exact QMn I I (congrArg ae (decide_eq_true (by rw[<-eq_of_beq hq];exact Q2 hlt))) wz
  have hq:(el l i.i==x)=false:=hc2;refine QN<|Qg<|QMY 3 I<|QA (Qn I I O)<|wB 2 I ?_
  exact Qj (i.next hlt hq) (by show l.length-(i.i+1)<l.length-i.i;omega) wV QKK w7
 have hge:l.length<=i.i:=wi<|QLs hc2
 refine JK ?_;refine wA 6 I ?_;exact QMn I I (congrArg ae (decide_eq_false λhm=>i.stop hge (List.any_eq_true.2 ⟨x,hm,wv⟩))) wz
theorem Xat{p:YB}(hF:Fits F w)(hP:GR F p)(hb:p.un.n<=1000000)(hV:RE p)(hs:0<=s/\s<p.sh):QS prog 45 [p.v,.int .i64 s] w F (λ(c:Sr×List Int)=>c.1.v) (λc F=>JC F c.1.q c.1.n 1 (c.2.map Qs)/\c.1.n=c.2.length/\c.1.n<=c.1.cap/\HgL p.ul s c.2/\HgP p.ul p.sh s c.2):=by
 have Ax:=hP.Mf;have hsh:=hV.sh;refine QS.go (G:=λF=>GR F p) func45 hF hP ?_;refine QLF<|Q9 I (vs:=[_,_,_]) I λb2=>wR I<|QG<|JN (b:=b2) .here<|wA 2 I<|Xah I (J2 Qd) QY HZ I I λb10=>QMW 10 I<|XC (ι:=HgJ p.ul p.sh s) [(2,_)] (λi=>[(5,i.v),(6,.int .i64 ((i.k:Nat):Int))]) (λi=>i.ob) (λi F=>True) (λi=>p.sh.toNat-i.k) (⟨0,[s],_,_,⟨wv,λx hx=>by rw[List.mem_singleton.1 hx];exact hs,λx hx=>by rw[List.mem_singleton.1 hx];exact .refl _,List.mem_singleton.2 rfl⟩,Q6.some (T:=3) (sz:=1) (b:=b10) (n:=1) (cap:=1) (l:=[Qs s]) (rest:=[]) rfl rfl (ak _) wk,ar _,λi hi=>by cases hi⟩) wT wU QKK wz λi=>?_
 have hi:=i.le;refine wA 5 I<|QA (U9 I i.hr Qd)<|QMW 3 I ?_
 refine QO I (λhc2=>?_) λhc2=>?_
 ·obtain⟨k,l,v5,ob5,ok,hr,hle,cl⟩:=i;dsimp only at hc2 ⊢;have hlt:k<l.length:=wi<|QLr hc2
  obtain⟨b5,cap5,rest5,rfl,rfl,h51,h52,h53,h54⟩:=hr.pos O;have hkl:=ok.len;refine QMX 5 I<|JE QKK mixed wj<|QJ (XE (n:=1) (vs:=[Qs p.sh,.slice p.un.q p.un.n p.un.cap,.slice p.ot.q p.ot.n p.ot.cap]) ((0)*3) (λF h9=>(JC.of (n:=1) (sz:=3) h9.1.2 I)) O rfl ZL I λj v hv=>by simpa using hv)<|QJ (QC I)<|QJ (QC I)<|QJ (Qm (i:=k) rfl rfl Qd QY hlt)<|QJ (Xh (c:=l.map Qs++rest5) (T':=3) rfl QY .here (TH (f:=Qs) hlt))<|QZ I (λ_ _ f k=>qK f k.1.1 O) λ_=>QJ (QE I)<|Qy<|QMY 7 I ?_
  refine Qa (t:=25) rfl (λhb25=>?_) λhb25=>?_
  ·have hsu:Xa0 p.ul (el l k)=[]:=by unfold Xa0;exact if_pos (.inl (QLr hb25))
   refine QMW 9 I<|Jv I<|JK ?_
   refine wA 2 I<|QA (Qn I I O)<|wB 2 I ?_
   exact Qj (⟨k+1,l,_,_,ok,hr,hlt,Xar cl (by rw[hsu];exact λ_ h=>by cases h)⟩) (by show p.sh.toNat-(k+1)<p.sh.toNat-k;omega) wV QKK λF h=>⟨h.1.1,trivial⟩
  have hd0:¬(Va p.ul (el l k))<0:=QLs hb25;have hdl:=xK p.ul (el l k);have hum:=Q2 (show(Va p.ul (el l k)).toNat<p.ul.length by omega);have hfn:=(hP.us _ hum).E9;refine QK I I<|QA (QH I XP Jf)<|QK I I<|QA (Ql (n:=1) ((0)*3+1) (λF h9=>(JC.of (n:=1) (sz:=3) h9.1.1.2 I)) O rfl Jf I)<|wB 3 I<|QA (Qo (n:=p.un.n) ((Va p.ul (el l k)).toNat) (λF h9=>h9.1.1.1.un) rfl wN Xk XJ O)<|QK I I<|QA (XE (n:=p.un.n) (vs:=[tx (el p.ul ((Va p.ul (el l k)).toNat)).kd,.slice (el p.ul ((Va p.ul (el l k)).toNat)).fd.q (el p.ul ((Va p.ul (el l k)).toNat)).fd.n (el p.ul ((Va p.ul (el l k)).toNat)).fd.cap,Qs ((el p.ul ((Va p.ul (el l k)).toNat)).ou),tx (el p.ul ((Va p.ul (el l k)).toNat)).st,.slice (el p.ul ((Va p.ul (el l k)).toNat)).cv.q (el p.ul ((Va p.ul (el l k)).toNat)).cv.n (el p.ul ((Va p.ul (el l k)).toNat)).cv.cap]) (((Va p.ul (el l k)).toNat)*5) (λF h9=>h9.1.1.1.un) O rfl XJ I λj v hv=>JR (f:=MR) (l:=p.ul) ZI O hv)<|QK I I<|QL I (λ_ _ f k=>yF f) λ_=>QMW 3 I ?_
  refine QO I (λhc2=>?_) λhc2=>?_
  ·have hsu:Xa0 p.ul (el l k)=[]:=by
    first
    |exact hsu
    |(unfold Xa0;exact if_pos (.inr hc2))
   refine JK ?_;refine wA 2 I<|QA (Qn I I O)<|wB 2 I ?_
   exact Qj (⟨k+1,l,_,_,ok,hr,hlt,Xar cl (by rw[hsu];exact λ_ h=>by cases h)⟩) (by show p.sh.toNat-(k+1)<p.sh.toNat-k;omega) wV QKK λF h=>⟨h.1.1.1,trivial⟩
  have hsu:Xa0 p.ul (el l k)=(el p.ul (Va p.ul (el l k)).toNat).fl:=by unfold Xa0;exact if_neg (by rw[hc2];simpa using hd0)
  have hfk:=λ(f:Lf) hf=>((hV.us _ hum).fd f hf).1;have hfl8:=Z0 (hV.us _ hum);refine QMX 4 I<|wR rfl<|QQ<|XC (ι:=HgK p.ul p.sh s k (el l k)) [(2,_),(6,_),(7,_),(26,_),(27,_),(28,_),(29,_),(30,_),(31,_)] (λi2=>[(5,i2.v),(8,.int .i64 ((i2.f:Nat):Int))]) (λi2=>i2.ob) (λi2 F=>True) (λi2=>(el p.ul (Va p.ul (el l k)).toNat).fl.length-i2.f) (⟨0,l,_,_,ok,hr,hlt,rfl,cl,ar _,λg hg=>by cases hg⟩) wb wU QKK wz λi2=>?_
  have hi2:=i2.le;rw[hsu]at hi2;refine wA 4 I<|QA (QH I XP Jf)<|QA (Ql (n:=1) ((0)*3+1) (λF h9=>(JC.of (n:=1) (sz:=3) h9.1.1.1.1.2 I)) O rfl Jf I)<|QJm I<|QA (Qo (n:=p.un.n) ((Va p.ul (el l k)).toNat) (λF h9=>h9.1.1.1.1.1.un) rfl wN Xk XJ O)<|QA (QH I Zz Xd)<|QA (Ql (n:=p.un.n) (((Va p.ul (el l k)).toNat)*5+1) (λF h9=>h9.1.1.1.1.1.un) O rfl Xd (JR (f:=MR) (l:=p.ul) ZI O rfl))<|QA (Qc I YV)<|QMW 3 I ?_
  refine QO I (λhc2=>?_) λhc2=>?_
  ·have hl2:i2.f<(el p.ul (Va p.ul (el l k)).toNat).fl.length:=wi<|QLr hc2
   have hfm:=Q2 hl2;have hkl2:=i2.ok.len;refine QMX 7 I<|QA (QH I XP Jf)<|QA (Ql (n:=1) ((0)*3+1) (λF h9=>(JC.of (n:=1) (sz:=3) h9.1.1.1.1.2 I)) O rfl Jf I)<|QJm I<|QA (Qo (n:=p.un.n) ((Va p.ul (el l k)).toNat) (λF h9=>h9.1.1.1.1.1.un) rfl wN Xk XJ O)<|QA (QH I Zz Xd)<|QA (Ql (n:=p.un.n) (((Va p.ul (el l k)).toNat)*5+1) (λF h9=>h9.1.1.1.1.1.un) O rfl Xd (JR (f:=MR) (l:=p.ul) ZI O rfl))<|QJm I<|QA (Qo (n:=(el p.ul ((Va p.ul (el l k)).toNat)).fd.n) (i2.f) (λF h9=>((h9.1.1.1.1.1.us _ (Q2 (show(Va p.ul (el l k)).toNat<p.ul.length from O)))).fd) rfl rfl YV Kf O)<|QA (QH I GQ QY)<|QA (Ql (n:=(el p.ul ((Va p.ul (el l k)).toNat)).fd.n) ((i2.f)*2+0) (λF h9=>((h9.1.1.1.1.1.us _ (Q2 (show(Va p.ul (el l k)).toNat<p.ul.length from O)))).fd) O rfl QY (JR (f:=Uj) (l:=(el p.ul ((Va p.ul (el l k)).toNat)).fl) YT O rfl))<|uc (sz:=1) i2.hr w7 rfl (λw F q c e hcap hR hF ⟨⟨⟨⟨⟨hP,hz2⟩,_⟩,_⟩,_⟩,_⟩=>by rw[e];exact Xb7 hF hR rfl (wi i2.ok.len)) λ_ _=>QA (Xv I)<|QF<|QD ?_
   refine QO I (λhc2=>?_) λhc2=>?_
   ·have hni:(el (el p.ul (Va p.ul (el l k)).toNat).fl i2.f).k∉i2.l:=by simpa using hc2
    refine wA 2 I<|QA (QH I XP Jf)<|QA (Ql (n:=1) ((0)*3+1) (λF h9=>(JC.of (n:=1) (sz:=3) h9.1.1.1.1.2 I)) O rfl Jf I)<|QJm I<|QA (Qo (n:=p.un.n) ((Va p.ul (el l k)).toNat) (λF h9=>h9.1.1.1.1.1.un) rfl wN Xk XJ O)<|QA (QH I Zz Xd)<|QA (Ql (n:=p.un.n) (((Va p.ul (el l k)).toNat)*5+1) (λF h9=>h9.1.1.1.1.1.un) O rfl Xd (JR (f:=MR) (l:=p.ul) ZI O rfl))<|QJm I<|QA (Qo (n:=(el p.ul ((Va p.ul (el l k)).toNat)).fd.n) (i2.f) (λF h9=>((h9.1.1.1.1.1.us _ (Q2 (show(Va p.ul (el l k)).toNat<p.ul.length from O)))).fd) rfl rfl YV Kf O)<|QA (QH I GQ QY)<|QA (Ql (n:=(el p.ul ((Va p.ul (el l k)).toNat)).fd.n) ((i2.f)*2+0) (λF h9=>((h9.1.1.1.1.1.us _ (Q2 (show(Va p.ul (el l k)).toNat<p.ul.length from O)))).fd) O rfl QY (JR (f:=Uj) (l:=(el p.ul ((Va p.ul (el l k)).toNat)).fl) YT O rfl))<|JG I (J2 Qd) QY HZ I I λb68=>?_
    refine Yi (bs1:=[]) (ob:=i2.ob) (k:=1) (sz:=1) (news:=[.int .i64 ((el (el p.ul ((Va p.ul (el l k)).toNat)).fl (i2.f)).k)]) I I Qd QY HZ I WR i2.hr (Src.row (off:=0) w9 (λj v hv=>by rw[bz];show([.int .i64 ((el (el p.ul ((Va p.ul (el l k)).toNat)).fl (i2.f)).k)].toArray)[j]?=some v;rw[bh];exact hv) rfl) O O (ZC wT) (λv69 ob69 hr69=>?_);refine wB 2 I<|Qg<|QMY 3 I<|QA (Qn I I O)<|wB 2 I ?_
    exact Qj (⟨i2.f+1,i2.l++[(el (el p.ul (Va p.ul (el l k)).toNat).fl i2.f).k],v69,ob69,i2.ok.snoc hni (hfk _ hfm) ((i2.ok.rc _ (by have:=Q2 i2.lt;rwa [i2.ex]at this)).snoc (by rw[hsu];exact hfm)),by rw[aY,aC];exact hr69,by rw[aC];have:=i2.lt;omega,by rw[Xaq i2.lt];exact i2.ex,Xcu (bU i2.lt) i2.cl,by rw[hsu];omega,by rw[hsu];exact Xbn hl2 (λg hg=>bL _ (i2.fc g (by rw[hsu];exact hg))) wv⟩) (by show(el p.ul (Va p.ul (el l k)).toNat).fl.length-(i2.f+1)<(el p.ul (Va p.ul (el l k)).toNat).fl.length-i2.f;omega) we QKK λF h=>⟨h.1.1,trivial⟩
   have hin:(el (el p.ul (Va p.ul (el l k)).toNat).fl i2.f).k∈i2.l:=by simpa using hc2
   refine QN<|Qg<|QMY 3 I<|QA (Qn I I O)<|wB 2 I ?_
   exact Qj (⟨i2.f+1,i2.l,i2.v,i2.ob,i2.ok,i2.hr,i2.lt,i2.ex,i2.cl,by rw[hsu];omega,by rw[hsu];exact Xbn hl2 (λg hg=>i2.fc g (by rw[hsu];exact hg)) hin⟩) (by show(el p.ul (Va p.ul (el l k)).toNat).fl.length-(i2.f+1)<(el p.ul (Va p.ul (el l k)).toNat).fl.length-i2.f;omega) we QKK λF h=>⟨h.1,trivial⟩
  have hg2:(el p.ul (Va p.ul (el l k)).toNat).fl.length<=i2.f:=wi<|QLs hc2
  refine JK ?_;refine wA 2 I<|QA (Qn I I O)<|wB 2 I ?_
  exact Qj (⟨k+1,i2.l,i2.v,i2.ob,i2.ok,i2.hr,i2.lt,Xar i2.cl (by rw[i2.ex,hsu];exact λg hg=>i2.fc g (by rw[hsu,aB hg2];exact hg))⟩) (by show p.sh.toNat-(k+1)<p.sh.toNat-k;omega) wV QKK λF h=>⟨h.1.1.1.1,trivial⟩
 have hge:i.l.length<=i.k:=by have:=QLs hc2;have:=i.le;omega
 refine JK ?_;refine QG<|QB ?_
 obtain⟨rr,hv,hrn,hrc,hfix⟩:=Q6.fix (w0:=w) (F0:=F) (bs1:=[]) (G:=_) i.hr;refine H5 hfix ?_;rw[hv];refine QMW 5 I ?_;exact QM ((rr,i.l)) I (wO I) (rfl) λF h9=>⟨by rw[hrn];exact h9.2,hrn,by rw[hrn];exact hrc,HgJ.all i.ok hge i.cl,i.ok⟩
end Go.Proofs.YtphlgddkpboamaaGreatDoor
