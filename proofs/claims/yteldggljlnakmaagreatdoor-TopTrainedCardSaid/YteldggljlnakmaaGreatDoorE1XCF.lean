/- Steps of the proof of the theorem in the last file. -/
import Derived.Test.YteldggljlnakmaaGreatDoorE0XCF
import Derived.KernelRfl
set_option linter.all false
set_option maxHeartbeats 4000000
open Go.Proofs.Tryz
namespace Go.Proofs.YteldggljlnakmaaGreatDoor
variable{w w0:World}{F F' F0:Gs}{q:Option Addr}{G N c cap i j x z:Nat}{ps:List VP}{D R k:List Int}{y:Rat}{a b e sh:Int}{V:Nat->Int}{s:List UInt8}{l:List (Int×Int)}{u:Xe}{α:Type}{rest:List Value}{us:List Xe}
open Go.RowKit Ig
def FN(L:List Tm):Prop:=(∀l m,L=l++m->∀t∈J3 l,XH t.1<=90000)/\∀t∈L,XH t.1<=90000
theorem uP{n:Nat}{r:Sr}{P:List Tm}(hF:Fits F w)(hR:Qu F q n 2 (ps.flatMap Y2))(hA:Yk F ps)(hn:ps.length=n)(hcap:n<=cap)(hK:JJ F r k)(hP:Y7 ps=J2 P)(hz:∀t∈P,XH t.1<=100000)(hy:XH y<=100000)(hw:∀t∈P,t.2.length=k.length/\PW t.2)(hk:PW k)(hl:n<=1000000000):
  QQ prog 195 [.slice q n cap,.agg #[tx (Q6 y),.slice r.q r.n r.cap]] w F (λ(c:Y1)=>c.1.v) (λc F=>Z4 F c.1 c.2 (J2 (ZU P (y,k)))):=by
 have hPl:=RI hP;have hRJ0:=hR.F6;have hk0:=hK.1.F6;have hkl:=hK.2.1;have hk2:=hk.2;refine QQ.go (G:=λF=>Qu F q n 2 (ps.flatMap Y2)/\Yk F ps/\JJ F r k) func195 hF ⟨hR,hA,hK⟩ ?_;refine QKt<|Q8 I (vs:=[_,_]) I λb3=>wR I<|QG<|Jf (b:=b3) .here<|QLj 9 I ?_
 refine Ba (ι:=PlE ps P k) [(0,_),(3,_)] (λx=>[(5,x.v),(6,.int .i64 ((x.i:Nat):Int))]) (λx=>x.ob) (λx F=>True) wU ?_ ?_
 ·refine QO<|ZH (ι:=PlJ ps P k) [(0,_),(3,_)] (λi=>[(5,i.v),(6,.int .i64 ((i.i:Nat):Int))]) (λi=>i.ob) (λi F=>True) (λi=>ps.length-i.i) (⟨0,_,[],Nat.zero_le _,.nil,w9⟩) wU wU λi=>?_
  have hi:=i.le;refine QG<|QG<|JC QJ3 mixed wu<|QI (QD I)<|QI (QD I)<|QI (QW I Xk)<|QI (QR I I I)<|QI (QD I) ?_
  refine Vq (t:=12) rfl (λhb12=>?_) λhb12=>?_
  ·have hlt:i.i<ps.length:=wm<|QK8 hb12
   have htm:=Ql hlt;obtain⟨ef,ek⟩:=UT hP hlt;have hPm:=Ql (show i.i<P.length by omega);obtain⟨hwl,hwp⟩:=hw _ hPm;refine JB I I<|QI (QD I)<|JB I I<|QI (QD I)<|JB I I<|QI (Qo (n:=n) i.i (λF h9=>h9.1.1.1) rfl rfl Xk Xq O)<|JB I I<|QI (QH I Ka Q5)<|JB I I<|QI (Qg (n:=n) ((i.i)*2+1) (λF h9=>h9.1.1.1) O rfl Q5 (Q4 (f:=Y2) (l:=ps) Zh O rfl))<|JB I I<|QI (QH I Ka Q5)<|JB I I<|QI (Qg (n:=1) ((0)*2+1) (λF h9=>(Qu.of (n:=1) (sz:=2) h9.1.2 I)) O rfl Q5 I)<|JB I I<|QV I (λ_ _ f k=>kN f (k.1.1.2.1 _ htm) k.1.1.2.2 (by rw[ek];exact hwp) hk (by rw[ek];exact hwl)) λ_=>?_
   rw[ek];refine QI (Qh I I I)<|Qv<|QC ?_
   refine QL I (λhc=>?_) λhc=>?_
   ·refine QLj 8 I<|QA (Qo (n:=n) i.i (λF h9=>h9.1.1.1.1) rfl rfl Xk Xq O)<|QA (JG (n:=n) (vs:=[tx (el ps i.i).f,.slice (el ps i.i).r.q (el ps i.i).r.n (el ps i.i).r.cap]) ((i.i)*2) (λF h9=>h9.1.1.1.1) O rfl Xq I λj v hv=>Q4 (f:=Y2) (l:=ps) Zh O hv)<|Qw I (JR Xk) Xq Gp I I λb27=>?_
    refine Zj (bs1:=[]) (ob:=i.ob) (n:=i.i) (k:=1) (sz:=2) (news:=Y2 (el ps i.i)) I I Xk Xq Gp I FJ i.hr (Src.row (off:=0) tE (λj v hv=>by rw[Nat.zero_add];show((Y2 (el ps i.i)).toArray)[j]?=some v;rw[List.getElem?_toArray];exact hv) rfl) O O (RU _) (λv28 ob28 hr28=>?_);rw[show(ps.take i.i).flatMap Y2++Y2 (el ps i.i)=(ps.take (i.i+1)).flatMap Y2 from by rw[XF hlt,List.flatMap_append];simp]at hr28;refine QLi 5 I<|QA (Qk I I O)<|wB 2 I<|Qa ?_
    exact Qb (⟨i.i+1,v28,ob28,hlt,hr28,cY O i.hb hc⟩)
   refine Y5 ?_
   repeat first|refine XD ?_|refine J0 w8 ?_
   refine XE ?_;exact XG (⟨i,λ_=>hc⟩)
  have hge:i.i=ps.length:=wm<|QK9 hb12
  refine JK I I I<|JK I I I<|JK I I I<|JK I I I<|JK I I I<|JK I I I<|JK I I I<|JK I I I<|QI (Qi I I I)<|Qv<|QC<|ZP I<|Y5 ?_
  repeat first|refine XD ?_|refine J0 w8 ?_
  refine XE ?_;exact XG (⟨i,λh=>absurd h O⟩)
 intro x;have hi:=x.le;refine QKt<|QA (QH I GA JP)<|QA (Qg (n:=1) ((0)*2+0) (λF h9=>(Qu.of (n:=1) (sz:=2) h9.1.2 I)) O rfl JP I)<|QLi 3 I ?_
 refine Zu [(0,_),(3,_),(5,_)] [(6,.int .i64 (((Oh P x.i k):Nat):Int)),(7,tx (Q6 (pe P x.i (y,k))))] wV ?_ ?_
 ·refine QG<|JC QJ3 mixed wu<|QI (QD I)<|QI (QD I)<|QI (QW I Xk)<|QI (QR I I I)<|QI (QD I) ?_
  refine Vq (t:=37) rfl (λhb37=>?_) λhb37=>?_
  ·have hlt:x.i<ps.length:=wm<|QK8 hb37
   have htm:=Ql hlt;obtain⟨ef,ek⟩:=UT hP hlt;have hPm:=Ql (show x.i<P.length by omega);obtain⟨hwl,hwp⟩:=hw _ hPm;refine JB I I<|QI (QD I)<|JB I I<|QI (QD I)<|JB I I<|QI (Qo (n:=n) (x.i) (λF h9=>h9.1.1.1) rfl rfl Xk Xq O)<|JB I I<|QI (QH I Ka Q5)<|JB I I<|QI (Qg (n:=n) ((x.i)*2+1) (λF h9=>h9.1.1.1) O rfl Q5 (Q4 (f:=Y2) (l:=ps) Zh O rfl))<|JB I I<|QI (QH I Ka Q5)<|JB I I<|QI (Qg (n:=1) ((0)*2+1) (λF h9=>(Qu.of (n:=1) (sz:=2) h9.1.2 I)) O rfl Q5 I)<|JB I I<|QV I (λ_ _ f k=>RN f (k.1.1.2.1 _ htm) k.1.1.2.2 (by rw[ek];have:=hwp.2;omega)) λ_=>?_
   rw[ek];refine QI (Qh I I I)<|Qv<|QC ?_
   refine QL I (λhc=>?_) λhc=>?_
   ·refine QG<|JC QJ3 mixed wu<|QI (QD I)<|QI (QD I)<|QI (Qo (n:=n) (x.i) (λF h9=>h9.1.1.1.1) rfl rfl Xk Xq O)<|QI (QH I GA JP)<|QI (Qg (n:=n) ((x.i)*2+0) (λF h9=>h9.1.1.1.1) O rfl JP (Q4 (f:=Y2) (l:=ps) Zh O rfl))<|QI (QH I GA JP)<|QI (Qg (n:=1) ((0)*2+0) (λF h9=>(Qu.of (n:=1) (sz:=2) h9.1.1.2 I)) O rfl JP I) ?_
    rw[ef];refine QV I (λ_ _ f k=>j7 f (hz _ hPm) hy) (λ_=>QI (QE I)<|Qv<|QLk 3 I<|QA (Qk I I O)<|wB 2 I ?_);have hs:RM P x.i k=true:=by unfold RM;rw[hc,decide_eq_true (show x.i<P.length by omega)];rfl
    exact J9 ⟨rfl,rfl,rfl,(congrArg (λz:Int=>some (Value.int .i64 z)) (by unfold Oh;rw[if_pos hs];omega)),(congrArg (λr:Rat=>some (tx (Q6 r))) (by unfold pe;rw[if_pos hs])),trivial⟩ QJ3 λ_ h=>h.1.1
   refine QK ?_;have hs:¬RM P x.i k=true:=by unfold RM;rw[hc,Bool.and_false];decide
   exact J9 ⟨rfl,rfl,rfl,(congrArg (λz:Nat=>some (Value.int .i64 (z:Int))) (by unfold Oh;rw[if_neg hs])),(congrArg (λr:Rat=>some (tx (Q6 r))) (by unfold pe;rw[if_neg hs])),trivial⟩ QJ3 tD
  have hge:x.i=ps.length:=wm<|QK9 hb37
  refine JK I I I<|JK I I I<|JK I I I<|JK I I I<|JK I I I<|JK I I I<|JK I I I<|JK I I I<|QI (Qi I I I)<|Qv<|QC<|ZP I<|QK ?_
  have hs:¬RM P x.i k=true:=by unfold RM;rw[decide_eq_false (show ¬x.i<P.length by omega),Bool.false_and];decide
  exact J9 ⟨rfl,rfl,rfl,(congrArg (λz:Nat=>some (Value.int .i64 (z:Int))) (by unfold Oh;rw[if_neg hs])),(congrArg (λr:Rat=>some (tx (Q6 r))) (by unfold pe;rw[if_neg hs])),trivial⟩ QJ3 tC
 have hJ:x.i<=(Oh P x.i k)/\(Oh P x.i k)<=n:=by
  unfold Oh;split
  ·rename_i hs;unfold RM at hs;rw[Bool.and_eq_true,decide_eq_true_eq]at hs;omega
  omega
 have hpl:=uh (y,k) (P:=P) (i:=x.i) O x.hb x.stop;have hat:Y7 (ps.take x.i)=J2 (P.take x.i):=by rw[QEw,hP,QAQ]
 have hdr:Y7 (ps.drop (Oh P x.i k))=J2 (P.drop (Oh P x.i k)):=by rw[QEx,hP,QAR]
 have htl:(ps.take x.i).length=x.i:=by rw[List.length_take];omega
 refine wA 4 I<|QJ I (λ_ _ f k=>qe f) λ_=>QA (YD I)<|QF<|QC ?_
 refine QL I (λhc=>?_) λhc=>?_
 ·have hs0:(pe P x.i (y,k))≠0:=by rw[Ru]at hc;simpa using hc
  refine wA 3 I<|Zv (JR Qd) QZ λb62=>QA (QH I Ka Q5)<|QA (Qg (n:=1) ((0)*2+1) (λF h9=>(Qu.of (n:=1) (sz:=2) h9.1.1.2 I)) O rfl Q5 I)<|Xu (bs':=x.ob++[(b62,.cells ([]++[]:List Value).toArray 3 (0,0))]) (List.perm_append_comm (l₁:=[_]))<|Zj (ob:=[(b62,.cells ([]++[]:List Value).toArray 3 (0,0))]) (n:=0) (k:=r.n) (sz:=1) (news:=k.map Qs) rfl rfl Qd QZ Hj I Ws (.some rfl rfl (Nat.le_refl _) wv) (Src.O3 hk0 (λF h9=>h9.1.1.1.2.2.1) (by simp[hkl])) O O (Td k) λv65 ob65 hr65=>?_
  rw[Nat.zero_add,List.nil_append]at hr65;obtain⟨r65,hv65,hn65,hc65,hfix65⟩:=Qp.fix (w0:=w) (F0:=F) (bs1:=x.ob) (G:=_) hr65;refine Vp hfix65 ?_;rw[hv65];dsimp only[Sr.v];refine QA (Jr I Uz Gp (wQ I I I))<|Qw I (JR Xk) Xq Gp I I λb67=>?_
  refine Zj (bs1:=[]) (ob:=x.ob) (n:=x.i) (k:=1) (sz:=2) (news:=Y2 (⟨Q6 (pe P x.i (y,k)),r65,k⟩:VP)) I I Xk Xq Gp I FJ x.hr (Src.row (off:=0) tE (λj v hv=>by rw[Nat.zero_add];show((Y2 (⟨Q6 (pe P x.i (y,k)),r65,k⟩:VP)).toArray)[j]?=some v;rw[List.getElem?_toArray];exact hv) rfl) O O (RU _) (λv68 ob68 hr68=>?_);refine QLi 8 I<|QA (N9 (Oh P x.i k) rfl rfl rfl Xk Xq hJ.2 hcap)<|Zj (bs1:=[]) (ob:=ob68) (n:=(x.i+1)) (k:=n-(Oh P x.i k)) (sz:=2) (news:=(ps.drop (Oh P x.i k)).flatMap Y2) rfl rfl Xk Xq Gp I FJ hr68 (Src.O3 (λe=>wm<|hRJ0 (uL e)) (λF h9=>by have:=h9.1.1.1.1.1.1.drop hcap (Oh P x.i k);rwa [kb]at this) (by rw[OS,List.length_drop,hn])) O O qu λv73 ob73 hr73=>?_
  obtain⟨rr,hv73,hrn,hrc,hfix⟩:=Qp.fix (w0:=w) (F0:=F) (bs1:=[]) (G:=_) hr73;refine Vp hfix ?_;rw[hv73];refine wR I<|QT ?_
  exact QM ((rr,(ps.take x.i++[(⟨Q6 (pe P x.i (y,k)),r65,k⟩:VP)]++ps.drop (Oh P x.i k)))) I (wO I) (rfl) (λF ⟨⟨⟨⟨⟨⟨⟨hR,hA,hK⟩,hz3⟩,_⟩,_⟩,hrow65⟩,hs67⟩,hrow⟩=>⟨by rw[hrn];rw[show(ps.take x.i).flatMap Y2++Y2 (⟨Q6 (pe P x.i (y,k)),r65,k⟩:VP)++(ps.drop (Oh P x.i k)).flatMap Y2=(ps.take x.i++[(⟨Q6 (pe P x.i (y,k)),r65,k⟩:VP)]++ps.drop (Oh P x.i k)).flatMap Y2 from by rw[List.flatMap_append,List.flatMap_append];simp]at hrow;exact hrow,
 λt ht=>by
  rcases List.mem_append.1 ht with ht | ht
  ·rcases List.mem_append.1 ht with ht | ht
   ·exact hA t (List.mem_of_mem_take ht)
   rw[List.mem_singleton.1 ht];exact⟨by rw[hn65];exact hrow65,by rw[hn65];exact hkl,by rw[hn65];exact hc65⟩
  exact hA t (List.mem_of_mem_drop ht),
 by rw[hpl,if_neg hs0,Fq,Fq,NY,NY,hat,hdr];rfl,by rw[hrn];exact hrc,by rw[hrn,List.length_append,List.length_append,htl,List.length_drop,hn];rfl⟩)
 ·have hs0:(pe P x.i (y,k))=0:=by rw[Ru]at hc;simpa using hc
  refine QLj 7 I<|QA (N9 (Oh P x.i k) rfl rfl rfl Xk Xq hJ.2 hcap)<|Zj (bs1:=[]) (ob:=x.ob) (n:=x.i) (k:=n-(Oh P x.i k)) (sz:=2) (news:=(ps.drop (Oh P x.i k)).flatMap Y2) rfl rfl Xk Xq Gp I FJ x.hr (Src.O3 (λe=>wm<|hRJ0 (uL e)) (λF h9=>by have:=h9.1.1.1.1.drop hcap (Oh P x.i k);rwa [kb]at this) (by rw[OS,List.length_drop,hn])) O O qu λv73 ob73 hr73=>?_
  obtain⟨rr,hv73,hrn,hrc,hfix⟩:=Qp.fix (w0:=w) (F0:=F) (bs1:=[]) (G:=_) hr73;refine Vp hfix ?_;rw[hv73];refine wR I<|QT ?_
  exact QM ((rr,(ps.take x.i++ps.drop (Oh P x.i k)))) I (wO I) (rfl) (λF ⟨⟨⟨⟨⟨hR,hA,hK⟩,hz3⟩,_⟩,_⟩,hrow⟩=>⟨by rw[hrn];rw[<-List.flatMap_append]at hrow;exact hrow,
 λt ht=>by
  rcases List.mem_append.1 ht with ht | ht
  ·exact hA t (List.mem_of_mem_take ht)
  exact hA t (List.mem_of_mem_drop ht),
 by rw[hpl,if_pos hs0,Fq,List.append_nil,NY,hat,hdr],by rw[hrn];exact hrc,by rw[hrn,List.length_append,htl,List.length_drop,hn]⟩)
theorem ju{n:Nat}{ts:List VP}{L:List Tm}(hF:Fits F w)(hR:Qu F q n 2 (ts.flatMap Y2))(hA:Yk F ts)(hn:ts.length=n)(hT:Y7 ts=J2 L)(hw:∀t∈L,t.2.length=N/\PW t.2)(hz:FN L)(hl:n<=900000000):
  QQ prog 187 [.slice q n cap] w F (λ(c:Y1)=>c.1.v) (λc F=>Z4 F c.1 c.2 (J2 (J3 L))):=by
 have hLl:=RI hT;refine QQ.go (G:=λF=>Qu F q n 2 (ts.flatMap Y2)/\Yk F ts) func187 hF ⟨hR,hA⟩ ?_;refine QKt<|wR rfl<|QKt<|wR rfl<|QG<|QKt<|wR rfl<|QO<|ZH (ι:=NoJ n) [(0,_)] (λi=>[(3,i.c.1.v),(4,.int .i64 ((i.i:Nat):Int))]) (λi=>[]) (λi F=>Z4 F i.c.1 i.c.2 (J2 (J3 (L.take i.i)))) (λi=>n-i.i) (⟨0,(⟨none,0,0⟩,[]),Nat.zero_le _⟩) wT wU (hg:=λF _=>⟨Qu.nil F none 2,λ_ h=>(by cases h),rfl,Nat.le_refl _,rfl⟩) λi=>?_
 have hi:=i.le;refine wA 5 I<|QA (QW I F4)<|QLi 3 I ?_
 refine QL I (λhc=>?_) λhc=>?_
 ·have hlt:i.i<n:=wm<|QK8 hc
  have htm:=Ql (show i.i<ts.length by omega);obtain⟨ef,ek⟩:=UT hT (show i.i<ts.length by omega);have hLm:=Ql (show i.i<L.length by omega);obtain⟨hwl,hwp⟩:=hw _ hLm;have hnl:=CT (L.take i.i);rw[List.length_take]at hnl;refine QLj 8 I<|QA (Qo (n:=n) i.i (λF h9=>h9.1.1) rfl rfl F4 Xq O)<|QA (JG (n:=n) (vs:=[tx (el ts i.i).f,.slice (el ts i.i).r.q (el ts i.i).r.n (el ts i.i).r.cap]) ((i.i)*2) (λF h9=>h9.1.1) O rfl Xq I λj v hv=>Q4 (f:=Y2) (l:=ts) Zh O hv) ?_
  rw[ef];refine QJ I (λw F hF ⟨⟨hR,hA⟩,hC⟩=>uP (k:=(el L i.i).2) hF hC.1 hC.2.1 hC.2.2.2.2 hC.2.2.2.1 (by rw[<-ek];exact hA _ htm) hC.2.2.1 (λt ht=>Nat.le_trans (hz.1 _ _ (List.take_append_drop _ _).symm t ht) wv) (Nat.le_trans (hz.2 _ hLm) wv)
   (λt ht=>by obtain⟨y,hy,e⟩:=Ng ht;rw[<-e,hwl];exact hw y (List.mem_of_mem_take hy)) hwp (by rw[hC.OD];omega)) λc16=>?_
  refine wB 2 I<|Qa<|QLk 3 I<|QA (Qk I I O)<|wB 2 I ?_
  exact Qb (⟨i.i+1,c16,hlt⟩) (hg:=λF h=>⟨h.1.1,by rw[QAw O];exact h.2⟩)
 have hge:i.i=n:=wm<|QK9 hc
 refine Q7 ?_;refine wA 7 I ?_;exact QM (i.c) rfl (wO I) (rfl) λF h9=>by have h:=h9.2;rwa [hge,show L.take n=L from List.take_of_length_le O]at h
theorem QBy{q2:Option Addr}{n n2 cap2:Nat}{qs:List VP}{A B:List Tm}(hF:Fits F w)(hA:Qu F q n 2 (ps.flatMap Y2))(hAs:Yk F ps)(hna:ps.length=n)(hTa:Y7 ps=J2 A)(hB:Qu F q2 n2 2 (qs.flatMap Y2))(hBs:Yk F qs)(hnb:qs.length=n2)(hTb:Y7 qs=J2 B)
  (hw:∀t∈A++B,t.2.length=N/\PW t.2) (hz:FN (A++B)) (hl:n<=400000000/\n2<=400000000) :
  QQ prog 117 [.slice q n cap,.slice q2 n2 cap2] w F (λ(c:Y1)=>c.1.v) (λc F=>Z4 F c.1 c.2 (J2 (J3 (A++B)))):=by
 have hA0:=hA.F6;have hB0:=hB.F6;refine QQ.go (G:=λF=>Qu F q n 2 (ps.flatMap Y2)/\Yk F ps/\Qu F q2 n2 2 (qs.flatMap Y2)/\Yk F qs) func117 hF ⟨hA,hAs,hB,hBs⟩ ?_;refine wA 7 I<|Zv (JR F4) Xq λb5=>QJj I<|yb (ob:=[(b5,.cells ([]++[]:List Value).toArray 68 (0,0))]) (n:=0) (k:=n) (sz:=2) (news:=ps.flatMap Y2) rfl rfl F4 Xk Xq Gp I FJ (.some rfl rfl (Nat.le_refl _) wv) (Src.O3 hA0 tD (by rw[OS];omega)) O O qu λv7 ob7 hr7=>?_
 rw[Nat.zero_add,List.nil_append]at hr7;refine QJj I<|yb (ob:=ob7) (n:=n) (k:=n2) (sz:=2) (news:=qs.flatMap Y2) rfl rfl F4 Xk Xq Gp I FJ hr7 (Src.O3 hB0 (λF h9=>h9.2.2.1) (by rw[OS];omega)) O O qu λv9 ob9 hr9=>?_
 rw[List.append_nil,<-List.append_nil ob9];obtain⟨r,hv,hrn,hrc,hfix⟩:=Qp.fix (w0:=w) (F0:=F) (bs1:=[]) (G:=_) hr9;rw[List.append_nil];refine Vp hfix ?_;rw[hv];refine QJ I (λw F hF ⟨⟨hA,hAs,hB,hBs⟩,hrow⟩=>ju (N:=N) (ts:=ps++qs) (L:=A++B) hF (by rw[<-List.flatMap_append]at hrow;rw[hrn];exact hrow) (λt ht=>by
  rcases List.mem_append.1 ht with ht | ht
  ·exact hAs t ht
  exact hBs t ht) (by rw[List.length_append,hrn];omega) (by rw[Fq,NY,hTa,hTb]) hw hz O) λc10=>?_
 refine wR I<|QT ?_
 exact QM (c10) rfl (wO I) (rfl) tE
theorem kE{n:Nat}{L:List Tm}(hF:Fits F w)(hR:Qu F q n 2 (ps.flatMap Y2))(hA:Yk F ps)(hn:ps.length=n)(hT:Y7 ps=J2 L)(hy:XH y<=100000)(hsz:∀t∈L,XH t.1<=100000)(hw:∀t∈Ek y L,t.2.length=N/\PW t.2)(hz:FN (Ek y L))(hl:n<=400000000):
  QQ prog 118 [tx (Q6 y),.slice q n cap] w F (λ(c:Y1)=>c.1.v) (λc F=>Z4 F c.1 c.2 (J2 (J3 (Ek y L)))):=by
 have hLl:=RI hT;refine QQ.go (G:=λF=>Qu F q n 2 (ps.flatMap Y2)/\Yk F ps) func118 hF ⟨hR,hA⟩ ?_;refine QKt<|wR rfl<|QKt<|wR rfl<|QG<|QKt<|wR rfl<|QO<|ZH (ι:=OtJ (Ek y) L) [(0,_),(1,_)] (λi=>[(5,i.v),(6,.int .i64 ((i.i:Nat):Int))]) (λi=>i.ob) (λi F=>Yk F i.out) (λi=>L.length-i.i) (⟨0,_,[],[],Nat.zero_le _,.nil,rfl,Nat.le_refl _⟩) wU wU (hg:=λ_ _ _ h=>by cases h) λi=>?_
 have hi:=i.le;refine wA 5 I<|QA (QW I Xk)<|QLi 3 I ?_
 refine QL I (λhc=>?_) λhc=>?_
 ·have hlt:i.i<L.length:=wm<|QK8 hc
  have hlp:i.i<ps.length:=O;have htm:=Ql hlp;obtain⟨ef,ek⟩:=UT hT hlp;have hLm:=Ql hlt;have hil:=i.hl;refine QLj 4 I<|JC tG mixed wu<|QI (QD I)<|QI (QD I)<|QI (QD I)<|QI (QD I)<|QI (Qo (n:=n) i.i (λF h9=>h9.1.1) rfl rfl Xk Xq O)<|QI (QH I GA JP)<|QI (Qg (n:=n) ((i.i)*2+0) (λF h9=>h9.1.1) O rfl JP (Q4 (f:=Y2) (l:=ps) Zh O rfl)) ?_
  rw[ef];refine QV I (λ_ _ f k=>IQ f hy (hsz _ hLm)) (λ_=>QI (QD I)<|QI (QD I)<|QI (Qo (n:=n) i.i (λF h9=>h9.1.1) rfl rfl Xk Xq O)<|QI (QH I Ka Q5)<|QI (Qg (n:=n) ((i.i)*2+1) (λF h9=>h9.1.1) O rfl Q5 (Q4 (f:=Y2) (l:=ps) Zh O rfl))<|QI (Jr I Uz Gp (wQ I I I)) ?_);refine Jp I (JR F4) Xq Gp I I (λb27=>?_) (λw h=>h.imp tG tD);rw[<-List.append_nil i.ob];refine Kn (ob:=i.ob) (n:=i.out.length) (k:=1) (sz:=2) (news:=Y2 (⟨Q6 (y*(el L i.i).1),(el ps i.i).r,(el ps i.i).k⟩:VP)) I I F4 Xq Gp I FJ i.hr (Src.row (off:=0) tE (λj u hu=>by rw[Nat.zero_add];show((Y2 (⟨Q6 (y*(el L i.i).1),(el ps i.i).r,(el ps i.i).k⟩:VP)).toArray)[j]?=some u;rw[List.getElem?_toArray];exact hu) rfl) O O (RU _) QJ3 (λ_ h=>h.1.1) (λv28 ob28 hr28=>?_);rw[ka]at hr28;refine QI (QE I)<|Qv<|Qa<|QLk 3 I<|QA (Qk I I O)<|wB 2 I ?_
  exact Qb (⟨i.i+1,v28,ob28,i.out++[(⟨Q6 (y*(el L i.i).1),(el ps i.i).r,(el ps i.i).k⟩:VP)],hlt,by rw[List.length_append];exact hr28,by rw[Fq,i.ho,QCj hlt,NY];show _++[(Q6 (y*(el L i.i).1),(el ps i.i).k)]=_;rw[ek];rfl,by rw[List.length_append];simp;omega⟩) (hb:=by rw[List.append_nil];exact List.Sublist.refl _) (hg:=λF ⟨⟨⟨⟨hR,hA⟩,hO⟩,_⟩,hs27⟩=>⟨⟨hR,hA⟩,hO.snoc (show JJ F (el ps i.i).r (el ps i.i).k from hA _ htm)⟩)
 have hge:i.i=L.length:=wm<|QK9 hc
 have hil:=i.hl;refine Q7 ?_;refine QG<|QB ?_
 obtain⟨r,hv,hrn,hrc,hfix⟩:=Qp.fix (w0:=w) (F0:=F) (bs1:=[]) (G:=_) i.hr;refine Vp hfix ?_;rw[hv];refine QJj I<|QJ I (λ_ _ f k=>ju (N:=N) (ts:=i.out) (L:=Ek y L) f (by rw[hrn];exact k.2) k.1.2 hrn.symm (by have h:=i.ho;rwa [hge,List.take_length]at h) hw hz O) λc30=>wR I<|QT ?_
 exact QM (c30) rfl (wO I) (rfl) tE
theorem j0{n v:Nat}{L:List Tm}(hF:Fits F w)(hR:Qu F q n 2 (ps.flatMap Y2))(hA:Yk F ps)(hn:ps.length=n)(hT:Y7 ps=J2 L)(hv:v<N)(hw0:∀t∈L,t.2.length=N/\PW t.2)(hsz:∀t∈L,XH t.1<=90000)(hw:∀t∈YM v L,t.2.length=N/\PW t.2)(hz:FN (YM v L))(hl:n<=400000000):
  QQ prog 196 [.slice q n cap,.int .i64 (v:Nat)] w F (λ(c:Y1)=>c.1.v) (λc F=>Z4 F c.1 c.2 (J2 (J3 (YM v L)))):=by
 have hLl:=RI hT;refine QQ.go (G:=λF=>Qu F q n 2 (ps.flatMap Y2)/\Yk F ps) func196 hF ⟨hR,hA⟩ ?_;refine QKt<|wR rfl<|QKt<|wR rfl<|QG<|QKt<|wR rfl<|QO<|Vv (ι:=OtJ (YM v) L) [(0,_),(1,_)] (λi=>[(5,i.v),(6,.int .i64 ((i.i:Nat):Int))]) (λi=>i.ob) (λi F=>Yk F i.out) (λi=>L.length-i.i) (⟨0,_,[],[],Nat.zero_le _,.nil,rfl,Nat.le_refl _⟩) wU wU QJ3 (λ_ _ _ h=>by cases h) λi=>?_
 have hi:=i.le;refine wA 5 I<|QA (QW I Xk)<|QLi 3 I ?_
 refine QL I (λhc=>?_) λhc=>?_
 ·have hlt:i.i<L.length:=wm<|QK8 hc
  have hlp:i.i<ps.length:=O;have htm:=Ql hlp;obtain⟨ef,ek⟩:=UT hT hlp;have hLm:=Ql hlt;have hil:=i.hl;obtain⟨hwl,hwp⟩:=hw0 _ hLm;have hkn:=(hA _ htm).2.1;have hkl:(el ps i.i).k.length=N:=by rw[ek];exact hwl
  have hvn:v<(el ps i.i).r.n:=O;have hk1:=hwp.2;have hdb:0<=Qc (el ps i.i).k v/\Qc (el ps i.i).k v<=1000000:=by rw[ek];exact hwp.el O
  have hk0:=(hA _ htm).1.F6;refine QLj 8 I<|QA (Qo (n:=n) i.i (λF h9=>h9.1.1) rfl rfl Xk Xq O)<|QA (QH I Ka Q5)<|QA (Qg (n:=n) ((i.i)*2+1) (λF h9=>h9.1.1) O rfl Q5 (Q4 (f:=Y2) (l:=ps) Zh O rfl))<|QJj I<|QA (Qo (n:=(el ps i.i).r.n) (v) (λF h9=>((h9.1.2 _ htm)).1) rfl rfl Qd QZ O)<|QA (Qg (n:=(el ps i.i).r.n) ((v)*1) (λF h9=>((h9.1.2 _ htm)).1) O rfl QZ (JH (o:=(el ps i.i).k) O))<|QLi 9 I ?_
  refine QL I (λhc=>?_) λhc=>?_
  ·have hkp:=QK8 hc;refine QKt<|Zv (JR Qd) QZ λb25=>wB 2 I<|QA (Qo (n:=n) i.i (λF h9=>h9.1.1) rfl rfl Xk Xq O)<|QA (QH I Ka Q5)<|QA (Qg (n:=n) ((i.i)*2+1) (λF h9=>h9.1.1) O rfl Q5 (Q4 (f:=Y2) (l:=ps) Zh O rfl))<|Xu (bs':=i.ob++[(b25,.cells ([]++[]:List Value).toArray 3 (0,0))]) (List.perm_append_comm (l₁:=[_]))<|Zj (ob:=[(b25,.cells ([]++[]:List Value).toArray 3 (0,0))]) (n:=0) (k:=(el ps i.i).r.n) (sz:=1) (news:=(el ps i.i).k.map Qs) rfl rfl Qd QZ Hj I Ws (.some rfl rfl (Nat.le_refl _) wv) (Src.O3 hk0 (λF h9=>(h9.1.2 _ htm).1) (by simp[hkn])) O O (Td _) λv31 ob31 hr31=>?_
   rw[Nat.zero_add,List.nil_append]at hr31;obtain⟨bb,cap3,rest,rfl,rfl,e1,e2,e3,e4⟩:=Qp.pos hr31 O;refine QLi 8 I<|QA (Jk I I O)<|QA (Qj (i:=v) rfl rfl Qd QZ O)<|QS (vs:=[_]) I I I QZ I (Own.skip .here i.ob) (Z3 (by first | omega | (simp only[List.length_set];omega)) ((Qc (el ps i.i).k (v)-1))) wT<|QF<|QC ?_
   obtain⟨r9,hv9,hrn,hrc,hfix9⟩:=Qp.fix (w0:=w) (F0:=F) (bs1:=i.ob) (G:=_) (Qp.some (T:=3) (sz:=1) (b:=bb) (n:=(el ps i.i).r.n) (cap:=cap3) (l:=((el ps i.i).k.set v (Qc (el ps i.i).k v-1)).map Qs) (rest:=rest) (by simpa using e1) (by simpa using e2) e3 e4);refine Hh hfix9 ?_;rw[hv9];dsimp only[Sr.v];refine JC tG mixed wu<|QI (QD I)<|QI (QD I)<|QI (QD I)<|QI (Qo (n:=n) i.i (λF h9=>h9.1.1.1) rfl rfl Xk Xq O)<|QI (QH I GA JP)<|QI (Qg (n:=n) ((i.i)*2+0) (λF h9=>h9.1.1.1) O rfl JP (Q4 (f:=Y2) (l:=ps) Zh O rfl))<|QI (QD I)<|QV I (λ_ _ f k=>IS f ⟨O,O⟩) λ_=>?_
   rw[ef];refine QV I (λ_ _ f h=>IQ f (Nat.le_trans (hsz _ hLm) wv) (by have h2:=RL (Qc (el ps i.i).k v);have h3:=S9 hdb;omega)) (λ_=>QI (QD I)<|QI (Jr I Uz Gp (wQ I I I)) ?_);refine Jp I (JR F4) Xq Gp I I (λb48=>?_) (λw h=>h.imp tG λF h=>h.1.1);rw[<-List.append_nil i.ob];refine Kn (ob:=i.ob) (n:=i.out.length) (k:=1) (sz:=2) (news:=Y2 (⟨Q6 ((el L i.i).1*((Qc (el ps i.i).k v:Int):Rat)),r9,((el ps i.i).k.set v (Qc (el ps i.i).k v-1))⟩:VP)) I I F4 Xq Gp I FJ i.hr (Src.row (off:=0) tE (λj u hu=>by rw[Nat.zero_add];show((Y2 (⟨Q6 ((el L i.i).1*((Qc (el ps i.i).k v:Int):Rat)),r9,((el ps i.i).k.set v (Qc (el ps i.i).k v-1))⟩:VP)).toArray)[j]?=some u;rw[List.getElem?_toArray];exact hu) rfl) O O (RU _) QJ3 (λ_ h=>h.1.1.1) (λv49 ob49 hr49=>?_);rw[ka]at hr49;refine QI (QE I)<|Qv<|Qa<|QLk 3 I<|QA (Qk I I O)<|wB 2 I ?_
   exact Qb (⟨i.i+1,v49,ob49,i.out++[(⟨Q6 ((el L i.i).1*((Qc (el ps i.i).k v:Int):Rat)),r9,((el ps i.i).k.set v (Qc (el ps i.i).k v-1))⟩:VP)],hlt,by rw[List.length_append];exact hr49,by rw[Fq,i.ho,kg hlt,NY,show MR v (el L i.i)=[((el L i.i).1*((Qc (el L i.i).2 v:Int):Rat),(el L i.i).2.set v (Qc (el L i.i).2 v-1))]from if_pos (by rw[<-ek];exact hkp)];show _++[(Q6 ((el L i.i).1*((Qc (el ps i.i).k v:Int):Rat)),((el ps i.i).k.set v (Qc (el ps i.i).k v-1)))]=_;rw[ek];rfl,by rw[List.length_append];simp;omega⟩) (by show L.length-(i.i+1)<L.length-i.i;omega) wW (by rw[List.append_nil];exact List.Sublist.refl _) λF ⟨⟨⟨⟨⟨⟨hR,hA⟩,hO⟩,hrow9⟩,_⟩,_⟩,hs48⟩=>⟨⟨hR,hA⟩,hO.snoc ⟨by rw[hrn];exact hrow9,by rw[hrn,List.length_set];exact hkn,by rw[hrn];exact hrc⟩⟩
  have hkp:=QK9 hc;refine QK<|Qa<|QLk 3 I<|QA (Qk I I O)<|wB 2 I ?_
  exact Qb (⟨i.i+1,i.v,i.ob,i.out,hlt,i.hr,by rw[i.ho,kg hlt,show MR v (el L i.i)=[]from if_neg (by rw[<-ek];exact hkp),List.append_nil],O⟩)
 have hge:i.i=L.length:=wm<|QK9 hc
 have hil:=i.hl;refine Q7 ?_;refine QG<|QB ?_
 obtain⟨r,hv,hrn,hrc,hfix⟩:=Qp.fix (w0:=w) (F0:=F) (bs1:=[]) (G:=_) i.hr;refine Vp hfix ?_;rw[hv];refine QJj I<|QJ I (λ_ _ f k=>ju (N:=N) (ts:=i.out) (L:=YM v L) f (by rw[hrn];exact k.2) k.1.2 hrn.symm (by have h:=i.ho;rwa [hge,List.take_length]at h) hw hz O) λc51=>wR I<|QT ?_
 exact QM (c51) rfl (wO I) (rfl) tE
theorem QBx{q2:Option Addr}{n n2 cap2:Nat}{qs:List VP}{A B:List Tm}(hF:Fits F w)(hA:Qu F q n 2 (ps.flatMap Y2))(hAs:Yk F ps)(hna:ps.length=n)(hTa:Y7 ps=J2 A)(hB:Qu F q2 n2 2 (qs.flatMap Y2))(hBs:Yk F qs)(hnb:qs.length=n2)(hTb:Y7 qs=J2 B)
  (hwa:∀t∈A,t.2.length=N/\PW t.2/\XH t.1<=90000) (hwb:∀t∈B,t.2.length=N/\PW t.2/\XH t.1<=90000) (hw:∀t∈XL A B,PW t.2) (hz:FN (XL A B)) (hn9:∀l m,XL A B=l++m->(J3 l).length<=900000000) (hl:n<=400000000/\n2<=400000000) :
  QQ prog 122 [.slice q n cap,.slice q2 n2 cap2] w F (λ(c:Y1)=>c.1.v) (λc F=>Z4 F c.1 c.2 (J2 (J3 (XL A B)))):=by
 have hLa:=RI hTa;have hLb:=RI hTb;have hpl:=Fc A B;refine QQ.go (G:=λF=>Qu F q n 2 (ps.flatMap Y2)/\Yk F ps/\Qu F q2 n2 2 (qs.flatMap Y2)/\Yk F qs) func122 hF ⟨hA,hAs,hB,hBs⟩ ?_;refine QKt<|wR rfl<|QKt<|wR rfl<|QG<|QKt<|wR rfl<|QO<|Vv (ι:=MlO n) [(0,_),(1,_)] (λi=>[(5,i.c.1.v),(6,.int .i64 ((i.i:Nat):Int))]) (λi=>[]) (λi F=>Z4 F i.c.1 i.c.2 (J2 (J3 (XL (A.take i.i) B)))) (λi=>n-i.i) (⟨0,(⟨none,0,0⟩,[]),Nat.zero_le _⟩) wU wU QJ3 (λF _=>⟨Qu.nil F none 2,λ_ h=>(by cases h),rfl,Nat.le_refl _,rfl⟩) λi=>?_
 have hi:=i.le;refine wA 5 I<|QA (QW I Xk)<|QLi 3 I ?_
 refine QL I (λhc=>?_) λhc=>?_
 ·have hlt:i.i<n:=wm<|QK8 hc
  have htmps:=Ql (show i.i<ps.length by omega);obtain⟨efa,eka⟩:=UT hTa (show i.i<ps.length by omega);have hAm:=Ql (show i.i<A.length by omega);obtain⟨hal,hap,haz⟩:=hwa _ hAm;have hra:=(hAs _ htmps).2.1;have hka0:=(hAs _ htmps).1.F6;have hap2:=hap.2;refine QLj 10 I<|Vv (ι:=MlO n2) [(0,_),(1,_),(6,_)] (λi2=>[(5,i2.c.1.v),(7,.int .i64 ((i2.i:Nat):Int))]) (λi2=>[]) (λi2 F=>Z4 F i2.c.1 i2.c.2 (J2 (J3 (XL (A.take i.i) B++X7 (el A i.i) (B.take i2.i))))) (λi2=>n2-i2.i) (⟨0,i.c,Nat.zero_le _⟩) wV wU QJ3 (λF h=>by rw[List.take_zero,show X7 (el A i.i) []=[]from rfl,List.append_nil];exact h.2) λi2=>?_
  have hi2:=i2.le;refine wA 5 I<|QA (QW I Xk)<|QLi 3 I ?_
  refine QL I (λhc=>?_) λhc=>?_
  ·have hlt2:i2.i<n2:=wm<|QK8 hc
   have htmqs:=Ql (show i2.i<qs.length by omega);obtain⟨efb,ekb⟩:=UT hTb (show i2.i<qs.length by omega);have hBm:=Ql (show i2.i<B.length by omega);obtain⟨hbl,hbp,hbz⟩:=hwb _ hBm;have hrb:=(hBs _ htmqs).2.1;have hna3:(el ps i.i).k.length=N:=by rw[eka];exact hal
   have hnb3:(el qs i2.i).k.length=N:=by rw[ekb];exact hbl
   obtain⟨l9,e9⟩:=kQ (B:=B) i2.i (show i.i<A.length by omega);obtain⟨l8,e8⟩:=kQ (B:=B) (i2.i+1) (show i.i<A.length by omega);have hz9:=hz.1 _ _ e9;have hl9:=hn9 _ _ e9;have hm9:((el A i.i).1*(el B i2.i).1,YA (el A i.i).2 (el B i2.i).2)∈XL A B:=by rw[e8,UX O];simp
   have hw9:PW (YA (el A i.i).2 (el B i2.i).2):=hw ((el A i.i).1*(el B i2.i).1,YA (el A i.i).2 (el B i2.i).2) (by rw[e8,UX O];simp);refine QLj 6 I<|Zv (JR Qd) QZ λb22=>wB 2 I<|QA (Qo (n:=n) i.i (λF h9=>h9.1.1.1) rfl rfl Xk Xq O)<|QA (QH I Ka Q5)<|QA (Qg (n:=n) ((i.i)*2+1) (λF h9=>h9.1.1.1) O rfl Q5 (Q4 (f:=Y2) (l:=ps) Zh O rfl))<|DA (ob:=[(b22,.cells ([]++[]:List Value).toArray 3 (0,0))]) (n:=0) (k:=(el ps i.i).r.n) (sz:=1) (news:=(el ps i.i).k.map Qs) rfl rfl Qd QZ Hj I Ws (.some rfl rfl (Nat.le_refl _) wv) (Src.O3 hka0 (λF h9=>(h9.1.1.2.1 _ htmps).1) (by simp[hra])) O O (Td _) λv28 ob28 hr28=>?_
   rw[Nat.zero_add,List.nil_append]at hr28;rw[List.append_nil];refine QLi 10 I<|ZH (ι:=PmK (el ps i.i).r.n (el ps i.i).k (el qs i2.i).k) [(0,_),(1,_),(5,_),(6,_),(7,_)] (λi3=>[(8,i3.v),(9,.int .i64 ((i3.k:Nat):Int))]) (λi3=>i3.ob) (λi3 F=>True) (λi3=>(el qs i2.i).k.length-i3.k) (⟨0,(el ps i.i).k,v28,ob28,Nat.zero_le _,hr28,by simp[YA]⟩) wX wU λi3=>?_
   have hk:=i3.le;refine wA 5 I ?_;obtain⟨q3,c3,hv3⟩:=i3.hr.Jh;refine QA (QW (q:=q3) (n:=(el ps i.i).r.n) (c:=c3) (by show some i3.v=_;rw[hv3]) Qd)<|QLi 3 I ?_
   refine QL I (λhc=>?_) λhc=>?_
   ·obtain⟨k,L,v,ob,hk0,hr,hL⟩:=i3;dsimp only at hk hc ⊢;have hlt3:k<(el qs i2.i).k.length:=wm<|QK8 hc
    have hka:k<(el ps i.i).k.length:=O;have hLn:L.length=(el ps i.i).k.length:=by rw[hL];unfold YA;simp;omega
    have hb1:0<=Qc (el ps i.i).k k/\Qc (el ps i.i).k k<=1000000:=by rw[eka];exact hap.el O
    have hb2:0<=Qc (el qs i2.i).k k/\Qc (el qs i2.i).k k<=1000000:=by rw[ekb];exact hbp.el O
    obtain⟨b,cap,rest,rfl,rfl,e1,e2,e3,e4⟩:=Qp.pos hr O;have hdL:Qc L k=Qc (el ps i.i).k k:=by rw[hL];exact P4 hka hlt3
    refine QLj 4 I<|JY 16 QJ3 mixed wu wu ?_
    simp only[List.take_succ_cons,List.take_zero,List.drop_succ_cons,List.drop_zero];refine QI (QD I)<|QI (QD I)<|QI (QD I)<|QI (QD I)<|QI (Qj (i:=k) rfl rfl Qd QZ O)<|QI (Xm (c:=(L).map Qs++rest) (T':=3) rfl QZ .here (Xd (by first | omega | (simp only[List.length_set];omega))))<|QI (QD I)<|QI (QD I)<|QI (Qo (n:=n2) (i2.i) (λF h9=>h9.1.1.1.2.2.1) rfl rfl Xk Xq O)<|QI (QH I Ka Q5)<|QI (Qg (n:=n2) ((i2.i)*2+1) (λF h9=>h9.1.1.1.2.2.1) O rfl Q5 (Q4 (f:=Y2) (l:=qs) Zh O rfl))<|QI (QD I)<|QI (Qo (n:=(el qs (i2.i)).r.n) (k) (λF h9=>((h9.1.1.1.2.2.2 _ htmqs)).1) rfl rfl Qd QZ O)<|QI (Qg (n:=(el qs (i2.i)).r.n) ((k)*1) (λF h9=>((h9.1.1.1.2.2.2 _ htmqs)).1) O rfl QZ (JH (o:=(el qs (i2.i)).k) O))<|QI (Qk I I O)<|QI (Qj (i:=k) rfl rfl Qd QZ O)<|X1<|QS (vs:=[_]) I I I QZ I .here (Z3 (by first | omega | (simp only[List.length_set];omega)) ((Qc (L) (k)+Qc (el qs (i2.i)).k (k)))) wT<|QF<|Qa<|QLk 3 I<|QA (Qk I I O)<|wB 2 I ?_
    exact Qb (⟨k+1,_,_,_,hlt3,Qp.some (by simpa using e1) (by simpa using e2) e3 e4,by rw[hL,P4 hka hlt3];exact Fs hka hlt3⟩) (by show(el qs i2.i).k.length-(k+1)<(el qs i2.i).k.length-k;omega) wZ QJ3 λF h=>⟨h.1,trivial⟩
   have hge3:i3.k=(el qs i2.i).k.length:=wm<|QK9 hc
   have hLe:i3.L=YA (el ps i.i).k (el qs i2.i).k:=by
    have h1:=i3.hL;rw[hge3,List.take_length]at h1;rw[h1,List.take_of_length_le O,List.drop_of_length_le O,List.append_nil]
   have hLn:(YA (el ps i.i).k (el qs i2.i).k).length=(el ps i.i).r.n:=by rw[VO O];exact hra
   refine Q7 ?_;obtain⟨r9,hv9,hrn,hrc,hfix9⟩:=Qp.fix (w0:=w) (F0:=F) (bs1:=[]) (G:=_) i3.hr;refine Hh hfix9 ?_;rw[hv9];dsimp only[Sr.v];refine JC QJ3 mixed wu<|QI (QD I)<|QI (QD I)<|QI (QD I)<|QI (Qo (n:=n) i.i (λF h9=>h9.1.1.1.1.1) rfl rfl Xk Xq O)<|QI (QH I GA JP)<|QI (Qg (n:=n) ((i.i)*2+0) (λF h9=>h9.1.1.1.1.1) O rfl JP (Q4 (f:=Y2) (l:=ps) Zh O rfl))<|QI (QD I)<|QI (QD I)<|QI (Qo (n:=n2) (i2.i) (λF h9=>h9.1.1.1.1.2.2.1) rfl rfl Xk Xq O)<|QI (QH I GA JP)<|QI (Qg (n:=n2) ((i2.i)*2+0) (λF h9=>h9.1.1.1.1.2.2.1) O rfl JP (Q4 (f:=Y2) (l:=qs) Zh O rfl)) ?_
   rw[efa,efb];refine QV I (λ_ _ f k=>IQ f (Nat.le_trans haz wv) (Nat.le_trans hbz wv)) (λ_=>QI (QD I)<|QI (Jr I Uz Gp (wQ I I I)) ?_);refine QV I (λw F hF ⟨⟨⟨⟨⟨⟨hA,hAs,hB,hBs⟩,hC⟩,hC2⟩,_⟩,hrow⟩,_⟩=>uP (y:=(el A i.i).1*(el B i2.i).1) (k:=YA (el A i.i).2 (el B i2.i).2) hF hC2.1 hC2.2.1 hC2.2.2.2.2 hC2.2.2.2.1 (by rw[<-eka,<-ekb,<-hLe];exact⟨by rw[hrn];exact hrow,by rw[hrn,hLe];exact hLn,by rw[hrn];exact hrc⟩) hC2.2.2.1 (λt ht=>Nat.le_trans (hz9 t ht) wv) (Nat.le_trans (hz.2 _ hm9) wv)
    (λt ht=>by
     obtain⟨y,hy,e⟩:=Ng ht;rw[<-e,VO O,hal];have hy':y∈XL A B:=by rw[e9];exact List.mem_append_left _ hy
     exact⟨UG.XL (λt ht=>(hwa t ht).1) (λt ht=>(hwb t ht).1) y hy',hw y hy'⟩) hw9 (by rw[hC2.OD];have:=CT (XL (A.take i.i) B++X7 (el A i.i) (B.take i2.i));omega)) λc65=>?_
   refine QI (QE I)<|Qv<|Qa<|QLk 3 I<|QA (Qk I I O)<|wB 2 I ?_
   exact Qb (⟨i2.i+1,c65,hlt2⟩) (by show n2-(i2.i+1)<n2-i2.i;omega) wX QJ3 λF h=>⟨h.1.1.1.1.1,by rw[UX O,<-List.append_assoc,QAv];exact h.2⟩
  have hge2:i2.i=n2:=wm<|QK9 hc
  refine Q7 ?_;refine wA 2 I<|QA (Qk I I O)<|wB 2 I ?_
  exact Qb (⟨i.i+1,i2.c,hlt⟩) (by show n-(i.i+1)<n-i.i;omega) wW QJ3 λF h=>⟨h.1.1,by rw[kP O];have h3:=h.2;rw[hge2,show B.take n2=B from List.take_of_length_le O]at h3;exact h3⟩
 have hge:i.i=n:=wm<|QK9 hc
 refine Q7 ?_;refine wA 7 I ?_;exact QM (i.c) rfl (wO I) (rfl) λF h9=>by have h:=h9.2;rwa [hge,show A.take n=A from List.take_of_length_le O]at h
abbrev ZTm:=Int×List Int
def zT(F:Nat)(z:ZTm):Tm:=(Rat.divInt z.1 F,z.2)
def zS:List ZTm->Nat
 |[]=>0
 |z::Z=>z.1.natAbs+zS Z
theorem vG:∀a b,zS (a++b)=zS a+zS b
 |[],b=>by simp[zS]
 |x::a,b=>by simp[List.cons_append,zS,vG a b];omega
theorem QDX:∀ {Z:List ZTm} {z:ZTm},z∈Z->z.1.natAbs<=zS Z
 |x::Z,z,h=>by
  simp[zS];rcases List.mem_cons.1 h with rfl | h
  ·omega
  have:=QDX h;omega
def qK{F:Nat}(hF:0<F):Rat.divInt a F+Rat.divInt b F=Rat.divInt (a+b) F:=by
 have h:(F:Int)≠0:=O;rw[Rat.divInt_add_divInt _ _ h h,<-Int.add_mul,Rat.divInt_mul_right h]
structure Db(F c:Nat)(L:List Tm):Prop where
 pos:0<F
 ex:∃Z,L=Z.map (zT F)/\zS Z<=F*c
def Db.nil{F:Nat}(h:0<F)(c:Nat):Db F c []:=⟨h,[],rfl,Nat.zero_le _⟩
theorem Db.pre{F:Nat}{l m:List Tm}(h:Db F c (l++m)):Db F c l:=by
 obtain⟨Z,e,h1⟩:=h.ex;obtain⟨a,b,e1,e2,_⟩:=List.map_eq_append_iff.1 e.symm;exact⟨h.pos,a,e2.symm,by grind[vG]⟩
theorem Db.mono{F d:Nat}{L:List Tm}(h:Db F c L)(k:c<=d):Db F d L:=by
 obtain⟨Z,e,h1⟩:=h.ex;exact⟨h.pos,Z,e,Nat.le_trans h1 (Nat.mul_le_mul_left _ k)⟩
theorem Db.app{F d:Nat}{l m:List Tm}(h:Db F c l)(k:Db F d m):Db F (c+d) (l++m):=by
 obtain⟨Z,e,h1⟩:=h.ex;obtain⟨Y,e2,h2⟩:=k.ex;exact⟨h.pos,Z++Y,by simp_all,by grind[vG,Nat.mul_add]⟩
theorem vD(g:Nat)(f:ZTm->ZTm)(hf:∀z,(f z).1.natAbs=g*z.1.natAbs):∀Z,zS (Z.map f)=g*zS Z
 |[]=>by rfl
 |z::Z=>by simp[List.map_cons,zS,vD g f hf Z,hf,Nat.mul_add]
theorem Db.lift{F:Nat}{L:List Tm}(h:Db F c L)(k:0<G):Db (F*G) c L:=by
 obtain⟨Z,rfl,h1⟩:=h.ex;refine⟨Nat.mul_pos h.pos k,Z.map λz=>(z.1*G,z.2),?_,?_⟩
 ·rw[List.map_map];refine List.map_congr_left λz _=>?_;show(Rat.divInt z.1 F,z.2)=(Rat.divInt _ ((F*G:Nat):Int),z.2)
  grind[Int.natCast_mul,Rat.divInt_mul_right]
 rw[vD G _ (λz=>by simp[Int.natAbs_mul,Int.natAbs_natCast,Nat.mul_comm]),Nat.mul_comm F G,Nat.mul_assoc];exact Nat.mul_le_mul_left _ h1
def Db.dvd{F:Nat}{L:List Tm}(h:Db F c L)(k:F ∣ G)(h0:0<G):Db G c L:=by
 obtain⟨g,rfl⟩:=k;exact h.lift (Nat.pos_of_mul_pos_left h0)
def Db.one{F:Nat}(hF:0<F)(hd:y.den ∣ F)(hy:y.num.natAbs<=y.den*c):Db F c [(y,k)]:=by
 have hb:Db y.den c [(y,k)]:=⟨y.den_pos,[(y.num,k)],by simp[zT,Rat.num_divInt_den],by trivial⟩;exact hb.dvd hd hF
theorem QFS{F:Nat}(s:ZTm):∀B:List ZTm,X7 (zT F s) (B.map (zT G))=(B.map λt=>(s.1*t.1,YA s.2 t.2)).map (zT (F*G)):=λB=>by
 rw[X7,List.map_map,List.map_map];refine List.map_congr_left λt _=>?_;show(Rat.divInt s.1 F*Rat.divInt t.1 G,_)=(Rat.divInt _ ((F*G:Nat):Int),_);rw[Rat.divInt_mul_divInt,Int.natCast_mul];rfl
theorem QD4{F:Nat}:∀A B:List ZTm,∃Z,XL (A.map (zT F)) (B.map (zT G))=Z.map (zT (F*G))/\zS Z=zS A*zS B
 |[],B=>⟨[],rfl,by simp[zS]⟩
 |s::A,B=>by
  obtain⟨Z,e,h⟩:=QD4 (F:=F) A B;refine⟨(B.map λt=>(s.1*t.1,YA s.2 t.2))++Z,?_,?_⟩
  ·grind[QFS,XL]
  grind[vG,vD,Int.natAbs_mul,zS,Nat.add_mul]
theorem Db.prod{F d:Nat}{A B:List Tm}(h:Db F c A)(k:Db G d B):Db (F*G) (c*d) (XL A B):=by
 obtain⟨Z,rfl,h1⟩:=h.ex;obtain⟨Y,rfl,h2⟩:=k.ex;obtain⟨X,e,h3⟩:=QD4 Z Y;refine⟨Nat.mul_pos h.pos k.pos,X,e,?_⟩;rw[h3]
 calc zS Z*zS Y<=(F*c)*(G*d):=Nat.mul_le_mul h1 h2
  _=F*G*(c*d):=by grind
theorem QG4{F v n:Nat}:∀A:List ZTm,(∀z∈A,0<=Qc z.2 v/\Qc z.2 v<=n)->∃Z,YM v (A.map (zT F))=Z.map (zT F)/\zS Z<=n*zS A
 |[],_=>⟨[],rfl,by simp[zS]⟩
 |s::A,hd=>by
  obtain⟨Z,e,h⟩:=QG4 A (λz hz=>hd z (List.mem_cons_of_mem _ hz));have h0:=hd s (List.mem_cons_self ..);by_cases hp:0<Qc s.2 v
  ·refine⟨(s.1*Qc s.2 v,s.2.set v (Qc s.2 v-1))::Z,?_,?_⟩
   ·rw[List.map_cons,List.map_cons,<-e];show MR v _++YM v _=_;rw[MR,show(zT F s).2=s.2 from rfl,if_pos hp];show[(Rat.divInt s.1 F*((Qc s.2 v:Int):Rat),_)]++_=(Rat.divInt _ F,_)::_;rw[show((Qc s.2 v:Int):Rat)=Rat.divInt _ 1 from by conv=>lhs;rw[<-Rat.num_divInt_den ((Qc s.2 v:Int):Rat),Rat.num_intCast,Rat.den_intCast,show((1:Nat):Int)=1 from rfl],Rat.divInt_mul_divInt,Int.mul_one];rfl
   simp[zS,Int.natAbs_mul,Nat.mul_add];have h5:(Qc s.2 v).natAbs<=n:=O;have:=Nat.mul_le_mul_left s.1.natAbs h5
   grind
  refine⟨Z,?_,?_⟩
  ·show MR v _++YM v _=_;rw[MR,show(zT F s).2=s.2 from rfl,if_neg hp,e];rfl
  grind[zS,Nat.mul_add]
theorem Db.der{F v n:Nat}{A:List Tm}(h:Db F c A)(hd:∀t∈A,0<=Qc t.2 v/\Qc t.2 v<=n):Db F (n*c) (YM v A):=by
 obtain⟨Z,rfl,h1⟩:=h.ex;obtain⟨X,e,h3⟩:=QG4 Z (λz hz=>hd _ (List.mem_map_of_mem hz));exact⟨h.pos,X,e,Nat.le_trans h3 (by rw[Nat.mul_left_comm];exact Nat.mul_le_mul_left _ h1)⟩
theorem QD8{F:Nat}(hF:0<F)(t:ZTm):∀P:List ZTm,∃Z,ZU (P.map (zT F)) (zT F t)=Z.map (zT F)/\zS Z<=zS P+t.1.natAbs
 |[]=>by
  rw[List.map_nil,ZU];split
  ·simp
  exact⟨[t],rfl,by simp[zS]⟩
 |x::P=>by
  obtain⟨Z,e,h⟩:=QD8 hF t P;rw[List.map_cons,ZU];split
  ·exact⟨x::Z,by simp_all,by grind[zS]⟩
  split
  ·split
   ·exact⟨P,rfl,by grind[zS]⟩
   refine⟨(x.1+t.1,t.2)::P,?_,?_⟩
   ·congr 1;show(Rat.divInt x.1 F+Rat.divInt t.1 F,t.2)=(Rat.divInt _ F,t.2);rw[qK hF]
   grind[Int.natAbs_add_le,zS]
  split
  ·grind
  exact⟨t::x::P,rfl,by grind[zS]⟩
theorem QEb{F:Nat}(hF:0<F):∀L P:List ZTm,∃Z,(L.map (zT F)).foldl ZU (P.map (zT F))=Z.map (zT F)/\zS Z<=zS P+zS L
 |[],P=>⟨P,rfl,O⟩
 |t::L,P=>by
  obtain⟨Z,e,h⟩:=QD8 hF t P;obtain⟨Y,e2,h2⟩:=QEb hF L Z
  grind[zS]
theorem Db.norm{F:Nat}{A:List Tm}(h:Db F c A):Db F c (J3 A):=by
 obtain⟨Z,rfl,h1⟩:=h.ex;obtain⟨X,e,h3⟩:=QEb h.pos Z [];exact⟨h.pos,X,e,by grind[zS]⟩
def Lh(h:a.natAbs<=b.natAbs):sz a<=sz b:=(XA _ _).2 (Nat.lt_of_le_of_lt h ((XA b _).1 (Nat.le_refl _)))
theorem Db.XH{F c y:Nat}{A:List Tm}(h:Db F c A)(hx:sz (F:Int)<=x)(hy:sz (c:Int)<=y):∀t∈A,YteldggljlnakmaaGreatDoor.XH t.1<=x+y:=λt ht=>by
 obtain⟨Z,rfl,h1⟩:=h.ex;obtain⟨z,hz,rfl⟩:=List.mem_map.1 ht;have h0:=h.pos;refine Nat.le_trans (Ko O) ?_;have h2:sz z.1<=sz ((F:Int)*(c:Int)):=Lh (by exact Nat.le_trans (QDX hz) h1)
 grind[Zi]
theorem Db.wide{F c y:Nat}{A:List Tm}(h:Db F c A)(hx:sz (F:Int)<=x)(hy:sz (c:Int)<=y)(hxy:x+y<=90000):FN A :=
 ⟨λl m e t ht=>Nat.le_trans ((e ▸ h:Db F c _).pre.norm.XH hx hy t ht) hxy,λt ht=>Nat.le_trans (h.XH hx hy t ht) hxy⟩
structure Pg(N:Nat)(d:Int)(V:Nat->Int)(r:Int)(k:List Int):Prop where
 len:k.length=N
 nn:∀x∈k,0<=x
 sum:k.sum<=d
 occ:∀v,Qc k v≠0->V v<=r
def Pg.mono{d:Int}{r s:Int}(h:Pg N d V r k)(h1:d<=e)(h2:r<=s):Pg N e V s k :=
 ⟨h.len,h.nn,Int.le_trans h.sum h1,λv hv=>Int.le_trans (h.occ v hv) h2⟩
theorem QHf(h:∀x∈k,0<=x):∀x∈k,x<=k.sum:=λx hx=>by
 induction k with
 |nil=>cases hx
 |cons a k ih =>
  have h0:0<=k.sum:=by
   have:∀l:List Int,(∀x∈l,0<=x)->0<=l.sum:=λl=>by
    induction l with
    |nil=>trivial
    |cons b l ihl=>intro hl;have h1:=hl b w9;grind
   simp_all
  have ha:=h a w9
  grind
def Pg.le{d:Int}{r:Int}(h:Pg N d V r k):∀x∈k,0<=x/\x<=d:=λx hx=>⟨h.nn x hx,Int.le_trans (QHf h.nn x hx) h.sum⟩
theorem Pg.pw{d:Int}{r:Int}(h:Pg N d V r k)(hN:N<=1000)(hd:d<=1000000):PW k:=⟨λx hx=>wm<|h.le x hx,by rw[h.len];exact hN⟩
theorem BN{v:Nat}(h:v<k.length):Qc k v=k[v]:=by simp[Qc,h]
theorem Ez{v:Nat}(h:k.length<=v):Qc k v=0:=by grind[Qc]
theorem Pg.Qc{d:Int}{r:Int}(h:Pg N d V r k)(v:Nat)(h0:0<=d):0<=Ig.Qc k v/\Ig.Qc k v<=d:=by
 by_cases hv:v<k.length
 ·rw[BN hv];exact h.le _ (List.getElem_mem hv)
 grind[Ez]
theorem QDG{a b:List Int}(h:a.length=b.length)(v:Nat):Ig.Qc (YA a b) v=Ig.Qc a v+Ig.Qc b v:=by
 by_cases hv:v<a.length
 ·grind[BN,VO,YA]
 rw[Ez (by grind[VO]),Ez O,Ez O];rfl
def Pg.add{d:Int}{r s:Int}{a b:List Int}(h:Pg N d V r a)(k:Pg N e V s b){u:Int}(h1:r<=u)(h2:s<=u):Pg N (d+e) V u (YA a b):=by
 have hl:a.length=b.length:=by rw[h.len,k.len]
 obtain⟨g1,g2⟩:=QCQ hl h.nn k.nn;have:=h.sum;have:=k.sum;refine⟨by rw[VO hl];exact h.len,g1,O,λv hv=>?_⟩;rw[QDG hl]at hv;by_cases h3:Ig.Qc a v=0
 ·exact Int.le_trans (k.occ v O) h2
 exact Int.le_trans (h.occ v h3) h1
theorem uG{l:List Int}{v:Nat}(hv:v<l.length)(z:Int):(l.set v z).sum=l.sum-Ig.Qc l v+z:=by
 induction l generalizing v with
 |nil=>grind
 |cons x l ih =>
  cases v<;>grind[Ig.Qc]
theorem Pg.set{d:Int}{r:Int}(h:Pg N d V r k){v:Nat}(hv:0<Ig.Qc k v):Pg N (d-1) V r (k.set v (Ig.Qc k v-1)):=by
 have hl:v<k.length:=by
  grind[Ez]
 refine⟨by rw[List.length_set];exact h.len,λx hx=>?_,by rw[uG hl];have:=h.sum;omega,λu hu=>?_⟩
 ·rcases List.mem_or_eq_of_mem_set hx with hx | rfl
  ·exact h.nn x hx
  omega
 by_cases huv:u=v
 ·subst huv;exact h.occ u O
 refine h.occ u ?_;by_cases hu2:u<k.length
 ·rw[BN (by simp_all),List.getElem_set_ne O]at hu
  grind[BN]
 rw[Ez (by simp_all)]at hu;omega
theorem Pg.zero{d:Int}{r:Int}(hd:0<=d):Pg N d V r (List.replicate N 0) :=
 ⟨w9,λx hx=>by simp_all,by simp_all,λv hv=>absurd (by simp[Ig.Qc]) hv⟩
theorem Pg.var{v:Nat}{d:Int}{r:Int}(hv:v<N)(hd:1<=d)(hr:V v<=r):Pg N d V r ((List.replicate N 0).set v 1):=by
 refine⟨w9,λx hx=>?_,by simp_all[uG,BN,hd],λu hu=>?_⟩
 ·grind
 grind[BN,List.getElem_set_ne,Ez]
def Oi(N:Nat)(d:Int)(V:Nat->Int)(r:Int)(L:List Tm):Prop:=∀t∈L,Pg N d V r t.2
theorem Oi.norm{d:Int}{r:Int}{L:List Tm}(h:Oi N d V r L):Oi N d V r (J3 L):=λt ht=>by
 obtain⟨y,h1,h2⟩:=Ng ht;rw[<-h2];exact h y h1
def Oi.app{d:Int}{r:Int}{L M:List Tm}(h:Oi N d V r L)(k:Oi N d V r M):Oi N d V r (L++M):=λt ht=>(List.mem_append.1 ht).elim (h t) (k t)
def Oi.pre{d:Int}{r:Int}{L M:List Tm}(h:Oi N d V r (L++M)):Oi N d V r L:=λt ht=>h t (List.mem_append_left _ ht)
def Oi.mono{d:Int}{r s:Int}{L:List Tm}(h:Oi N d V r L)(h1:d<=e)(h2:r<=s):Oi N e V s L:=λt ht=>(h t ht).mono h1 h2
theorem Oi.scl{d:Int}{r:Int}{L:List Tm}(h:Oi N d V r L):Oi N d V r (Ek y L):=λt ht=>by
 obtain⟨u,h1,rfl⟩:=List.mem_map.1 ht;exact h u h1
theorem Oi.prod{d:Int}{r s u:Int}{L M:List Tm}(h:Oi N d V r L)(k:Oi N e V s M)(h1:r<=u)(h2:s<=u):Oi N (d+e) V u (XL L M):=λt ht=>by
 obtain⟨a,ha,ht⟩:=List.mem_flatMap.1 ht;obtain⟨b,hb,rfl⟩:=List.mem_map.1 ht;exact(h a ha).add (k b hb) h1 h2
theorem Oi.der{v:Nat}{d:Int}{r:Int}{L:List Tm}(h:Oi N d V r L):Oi N (d-1) V r (YM v L):=λt ht=>by
 obtain⟨a,ha,ht⟩:=List.mem_flatMap.1 ht;rw[MR]at ht;split at ht
 ·rename_i hp;rw[List.mem_singleton.1 ht];exact(h a ha).set hp
 trivial
def Oi.pw{d:Int}{r:Int}{L:List Tm}(h:Oi N d V r L)(hN:N<=1000)(hd:d<=1000000):∀t∈L,t.2.length=N/\PW t.2:=λt ht=>⟨(h t ht).len,(h t ht).pw hN hd⟩
def Sj(b:Nat):List Int->Nat
 |[]=>0
 |x::l=>x.toNat+b*Sj b l
theorem QCJ{b:Nat}(hb:0<b):∀l:List Int,(∀x∈l,0<=x/\x<(b:Int))->Sj b l<b^l.length
 |[],_=>by simp[Sj]
 |x::l,h=>by
  have h1:=QCJ hb l λy hy=>h y (by grind);have h2:=h x w9;simp[Sj,List.length_cons];have h3:b*Sj b l+b<=b*b^l.length:=by exact Nat.mul_le_mul_left _ h1
  grind
theorem cW{b:Nat}(hb:0<b):∀l m:List Int,l.length=m.length->(∀x∈l,0<=x/\x<(b:Int))->(∀x∈m,0<=x/\x<(b:Int))->Sj b l=Sj b m->l=m
 |[],[],_,_,_,_=>rfl
 |x::l,y::m,hl,h1,h2,e=>by
  have hx:=h1 x w9;have hy:=h2 y w9;simp[Sj]at e;have e1:(x.toNat+b*Sj b l)%b=(y.toNat+b*Sj b m)%b:=by rw[e]
  rw[Nat.add_mul_mod_self_left,Nat.add_mul_mod_self_left,Nat.mod_eq_of_lt O,Nat.mod_eq_of_lt O]at e1;have e2:Sj b l=Sj b m:=Nat.eq_of_mul_eq_mul_left hb O;rw[cW hb l m (by simp_all) (λz hz=>h1 z (by grind)) (λz hz=>h2 z (by grind)) e2,show x=y by omega]
theorem QDO{b:Nat}{L:List Tm}(hb:0<b)(h:Canon L)(hL:∀t∈L,t.2.length=N/\∀x∈t.2,0<=x/\x<(b:Int)):L.length<=b^N:=by
 have h1:(L.map λt=>Sj b t.2).Nodup:=by
  rw[List.Nodup,List.pairwise_map];refine(h.srt).imp_of_mem λ{x y} hx hy hxy e=>?_;have:=cW hb x.2 y.2 (by grind) (hL x hx).2 (hL y hy).2 e
  grind[before_irrefl]
 have h2:=Hp (b^N) _ h1 λj hj=>by
  obtain⟨t,ht,rfl⟩:=List.mem_map.1 hj
  grind[QCJ]
 simp_all
theorem Oi.pD{r:Int}{L:List Tm}(h:Oi N 6 V r L)(hN:N<=9)(hc:Canon L):L.length<=50000000 :=
 Nat.le_trans (QDO (b:=7) wv hc λt ht=>⟨(h t ht).len,λx hx=>wm<|(h t ht).le x hx⟩) (Nat.le_trans (Nat.pow_le_pow_right wv hN) wv)
def xO{p:ZL}(h:KL p=0):1<=p.sh/\p.sh<=100/\p.ul.length<=96:=by
 rw[Ee]at h;by_cases h0:c0E p=0
 ·unfold c0E at h0;split at h0
  ·cases h0
  split at h0
  ·cases h0
  omega
 rw[if_pos h0]at h;exact absurd h h0
structure QGb{α:Type}(l:List α)(q:α->Prop) where
 i:Nat
 le:i<=l.length
 ok:∀x∈l.take i,q x
def cZ[Inhabited α]{l:List α}{q:α->Prop}{i:Nat}(h:i<l.length)(hq:∀x∈l.take i,q x)(e:q (el l i)):∀x∈l.take (i+1),q x:=λx hx=>by
 rw[XF h]at hx;rcases List.mem_append.1 hx with hx | hx
 ·exact hq x hx
 rw[List.mem_singleton.1 hx];exact e
def QGb.stop{l:List α}{q:α->Prop}(s:QGb l q)(h:l.length<=s.i):∀x∈l,q x:=λx hx=>s.ok x (by rw[List.take_of_length_le h];exact hx)
theorem CM{l:List Tm}(h:∀t∈l,t.2.length=N/\PW t.2):∀t∈J3 l,t.2.length=N/\PW t.2:=λt ht=>by
 obtain⟨y,hy,e⟩:=Ng ht;rw[<-e];exact h y hy
def QGl{a b:Nat}(h:a ∣ b)(hb:0<b):sz (a:Int)<=sz (b:Int):=Lh (by rw[Int.natAbs_natCast,Int.natAbs_natCast];exact Nat.le_of_dvd hb h)
def QGk{a b:Nat}(h:a<=b):sz (a:Int)<=sz (b:Int):=Lh (by rw[Int.natAbs_natCast,Int.natAbs_natCast];exact h)
structure Pb(N F c:Nat)(d:Int)(V:Nat->Int)(r:Int)(L:List Tm):Prop where
 db:Db F c L
 pg:Oi N d V r L
def Pb.norm{F:Nat}{d:Int}{r:Int}{L:List Tm}(h:Pb N F c d V r L):Pb N F c d V r (J3 L):=⟨h.db.norm,h.pg.norm⟩
def Pb.app{F e:Nat}{d:Int}{r:Int}{L M:List Tm}(h:Pb N F c d V r L)(k:Pb N F e d V r M):Pb N F (c+e) d V r (L++M):=⟨h.db.app k.db,h.pg.app k.pg⟩
def Pb.mono{F e:Nat}{d d2:Int}{r r2:Int}{L:List Tm}(h:Pb N F c d V r L)(h1:c<=e)(h2:d<=d2)(h3:r<=r2):Pb N F e d2 V r2 L:=⟨h.db.mono h1,h.pg.mono h2 h3⟩
def Pb.wide{F c y:Nat}{d:Int}{r:Int}{L:List Tm}(h:Pb N F c d V r L)(hx:sz (F:Int)<=x)(hy:sz (c:Int)<=y)(hxy:x+y<=90000):FN L:=h.db.wide hx hy hxy
def Pb.pre{F:Nat}{d:Int}{r:Int}{L M:List Tm}(h:Pb N F c d V r (L++M)):Pb N F c d V r L:=⟨h.db.pre,h.pg.pre⟩
def Pb.pD{F:Nat}{d:Int}{r:Int}{L:List Tm}(h:Pb N F c d V r L)(hd:d<=6)(hN:N<=9)(hc:Canon L):L.length<=50000000:=(h.pg.mono hd (Int.le_refl r)).pD hN hc
theorem Pb.QJU{F:Nat}{d:Int}{r:Int}{L:List Tm}(h:Pb N F c d V r L)(hd:d<=6)(hN:N<=9):∀l m,L=l++m->(J3 l).length<=900000000:=λl m e =>
 Nat.le_trans ((e ▸ h:Pb N F c d V r (l++m)).pre.norm.pD hd hN (Z1 l)) wv
def Pb.pw{F:Nat}{d:Int}{r:Int}{L:List Tm}(h:Pb N F c d V r L)(hd:d<=6)(hN:N<=9):∀t∈L,t.2.length=N/\PW t.2:=h.pg.pw O O
structure RlW(rs:List (List Tm))(L:List Tm)(N:Nat):Prop where
 n:N=rs.length+1
 n1:N<=9
 lp:L.length<=400000000
 pw:∀t∈L,t.2.length=N/\PW t.2
 sz:∀t∈L,XH t.1<=90000
 dw:∀v,v<=rs.length->∀t∈YM v L,t.2.length=N/\PW t.2
 ds:∀v,v<=rs.length->FN (YM v L)
 dl:∀v,v<=rs.length->(J3 (YM v L)).length<=400000000
 rt:∀k,k<rs.length->(el rs k).length<=400000000/\∀t∈el rs k,t.2.length=N/\PW t.2/\XH t.1<=90000
 pm:∀k,k<rs.length->∀t∈XL (J3 (YM (k+1) L)) (el rs k),t.2.length=N/\PW t.2
 pz:∀k,k<rs.length->FN (XL (J3 (YM (k+1) L)) (el rs k))
 pn:∀k,k<rs.length->∀l m,XL (J3 (YM (k+1) L)) (el rs k)=l++m->(J3 l).length<=900000000
 aw:∀k,k<=rs.length->(RD rs L k).length<=400000000/\∀t∈RD rs L k,t.2.length=N/\PW t.2
 az:∀k,k<rs.length->FN (RD rs L k++J3 (XL (J3 (YM (k+1) L)) (el rs k)))
 al:∀k,k<rs.length->(J3 (XL (J3 (YM (k+1) L)) (el rs k))).length<=400000000
structure AlH(rs:List (List Tm))(L:List Tm)(N F c E C:Nat)(d:Int)(V:Nat->Int)(r:Int)(x y:Nat):Prop where
 n:N=rs.length+1
 n9:N<=9
 d6:d<=6
 d1:1<=d
 r0:0<=r
 dr:d-1+r<=6
 E0:0<E
 c0:0<c
 p:Pb N F c d V r L
 cn:Canon L
 v6:∀v,0<=V v/\V v<=6
 rt:∀k,k<rs.length->Pb N E C (V (k+1)) V 6 (el rs k)/\Canon (el rs k)
 sx:sz ((F*E:Nat):Int)<=x
 sy:sz ((6*c*(1+8*C):Nat):Int)<=y
 xy:x+y<=90000
section
variable{rs:List (List Tm)}{L:List Tm}{N F c E C:Nat}{d:Int}{V:Nat->Int}{r:Int}{x y:Nat}(h:AlH rs L N F c E C d V r x y)
include h
theorem AlH.FE:0<F*E:=Nat.mul_pos h.p.db.pos h.E0
theorem AlH.r6:r<=6:=by have:=h.d1;have:=h.dr;omega
theorem AlH.der(v:Nat):Pb N F (6*c) (d-1) V r (YM v L):=by
 have hd1:=h.d1;have hd6:=h.d6;exact⟨h.p.db.der λt ht=>wm<|(h.p.pg t ht).Qc v O,h.p.pg.der⟩
theorem AlH.szF:YteldggljlnakmaaGreatDoor.sz (F:Int)<=x:=Nat.le_trans (QGl (Nat.dvd_mul_right F E) h.FE) h.sx
theorem AlH.szE:YteldggljlnakmaaGreatDoor.sz (E:Int)<=x:=Nat.le_trans (QGl (Nat.dvd_mul_left E F) h.FE) h.sx
theorem AlH.szc{e:Nat}(he:e<=6*c*(1+8*C)):YteldggljlnakmaaGreatDoor.sz (e:Int)<=y:=Nat.le_trans (QGk he) h.sy
theorem AlH.c6:6*c<=6*c*(1+8*C):=Nat.le_mul_of_pos_right _ O
theorem AlH.occ{k:Nat}{t:Tm}(ht:t∈J3 (YM (k+1) L)):V (k+1)<=r:=by
 obtain⟨u,hu,_⟩:=Ng ht;obtain⟨a,ha,hu⟩:=List.mem_flatMap.1 hu;rw[MR]at hu;split at hu
 ·exact(h.p.pg a ha).occ _ O
 cases hu
theorem AlH.prd{k:Nat}(hk:k<rs.length):Pb N (F*E) (6*c*C) (d-1+r) V 6 (XL (J3 (YM (k+1) L)) (el rs k)):=by
 refine⟨(h.der (k+1)).db.norm.prod (h.rt k hk).1.db,λt ht=>?_⟩;obtain⟨a,ha,ht2⟩:=List.mem_flatMap.1 ht;exact((h.der (k+1)).pg.norm.prod ((h.rt k hk).1.pg.mono (h.occ ha) (Int.le_refl 6)) h.r6 (Int.le_refl 6)) t ht
theorem AlH.RD:∀k,k<=rs.length->Pb N (F*E) (6*c+k*(6*c*C)) (d-1+r) V 6 (YteldggljlnakmaaGreatDoor.RD rs L k)/\Canon (YteldggljlnakmaaGreatDoor.RD rs L k)
 |0,_=>⟨(⟨(h.der 0).db.lift h.E0,(h.der 0).pg⟩:Pb N (F*E) (6*c) (d-1) V r (YM 0 L)).norm.mono O (wm h.r0) h.r6,Z1 _⟩
 |k+1,hk=>by
  have h1:=(AlH.RD k O).1;have h2:=(h.prd (show k<rs.length by omega)).norm;exact⟨((h1.app h2).norm).mono (by rw[Nat.succ_mul k];omega) (Int.le_refl _) (Int.le_refl _),Z1 _⟩
theorem AlH.k8{k:Nat}(hk:k<=rs.length):6*c+k*(6*c*C)<=6*c*(1+8*C):=by
 have h1:=h.n;have h2:=h.n9;have h3:k*(6*c*C)<=8*(6*c*C):=Nat.mul_le_mul_right _ O;rw[Nat.mul_add,Nat.mul_one];have h4:6*c*(8*C)=8*(6*c*C):=by rw[Nat.mul_left_comm]
 omega
theorem AlH.wok:RlW rs L N:=by
 have hd6:=h.d6;have hd1:=h.d1;have hr0:=h.r0;have hdr:=h.dr;have hx:=h.sx;have hxy:=h.xy;exact
 { n:=h.n,n1:=h.n9
   lp:=Nat.le_trans (h.p.pD h.d6 h.n9 h.cn) wv
   pw:=h.p.pw h.d6 h.n9
   sz:=λt ht=>Nat.le_trans (h.p.db.XH h.szF (h.szc (Nat.le_trans O h.c6)) t ht) h.xy
   dw:=λv _=>(h.der v).pw O h.n9
   ds:=λv _=>(h.der v).wide h.szF (h.szc h.c6) h.xy
   dl:=λv _=>Nat.le_trans ((h.der v).norm.pD O h.n9 (Z1 _)) wv
   rt:=λk hk=>⟨Nat.le_trans ((h.rt k hk).1.pD (h.v6 _).2 h.n9 (h.rt k hk).2) wv,λt ht =>
    ⟨((h.rt k hk).1.pw (h.v6 _).2 h.n9 t ht).1,((h.rt k hk).1.pw (h.v6 _).2 h.n9 t ht).2,by
     refine Nat.le_trans ((h.rt k hk).1.db.XH h.szE (h.szc ?_) t ht) h.xy;have:=h.c0;exact Nat.le_trans (show C<=1+8*C by omega) (Nat.le_mul_of_pos_left _ O)⟩⟩
   pm:=λk hk=>(h.prd hk).pw h.dr h.n9
   pz:=λk hk=>(h.prd hk).wide h.sx (h.szc (Nat.le_trans (by have:=Nat.mul_le_mul_right (6*c*C) (show 1<=k+1 by omega);omega) (h.k8 (show k+1<=rs.length from hk)))) h.xy
   pn:=λk hk=>(h.prd hk).QJU h.dr h.n9
   aw:=λk hk=>⟨Nat.le_trans ((h.RD k hk).1.pD h.dr h.n9 (h.RD k hk).2) wv,(h.RD k hk).1.pw h.dr h.n9⟩
   az:=λk hk=>((h.RD k O).1.app (h.prd hk).norm).wide h.sx (h.szc (Nat.le_trans (by rw[Nat.succ_mul k];omega) (h.k8 (show k+1<=rs.length from hk)))) h.xy
   al:=λk hk=>Nat.le_trans ((h.prd hk).norm.pD h.dr h.n9 (Z1 _)) wv }
end
structure RwP(F:Gs)(r:Sr)(rl:List Y1)(rs:List (List Tm)):Prop where
 row:Qu F r.q r.n 1 (rl.map λe=>e.1.v)
 len:rl.length=r.n
 ln2:rs.length=rl.length
 pl:∀k,k<rl.length->Z4 F (el rl k).1 (el rl k).2 (J2 (el rs k))
theorem RwP.le{r:Sr}{rl:List Y1}{rs:List (List Tm)}(h:RwP F r rl rs)(k:Gs.le F F'):RwP F' r rl rs:=⟨h.row.le k,h.len,h.ln2,λi hi=>(h.pl i hi).le k⟩
structure QKp(n:Nat) where
 i:Nat
 c:Y1
 le:i<=n
theorem uX{k:Nat}(hF:Fits F w)(hk:k<=1000):QQ prog 121 [tx (Q6 y),.int .i64 (k:Nat)] w F (λ(c:Y1)=>c.1.v) (λc F=>Z4 F c.1 c.2 (J2 (Ha y (k+1)))):=by
 refine QQ.go (G:=λF=>True) func121 hF trivial ?_;refine wA 9 I<|QJ I (λ_ _ f _=>qe f) λ_=>QF<|QC ?_
 refine QL I (λhc=>?_) λhc=>?_
 ·refine wA 6 I ?_;exact QM ((⟨none,0,0⟩,[])) I (wO I) (rfl) (λF ⟨_,_⟩=>by
   have hy:y=0:=by simpa[Ru]using hc
   rw[Ha,if_pos hy];exact⟨Qu.nil F none 2,λ_ h=>(by cases h),rfl,Nat.le_refl _,rfl⟩)
 refine QLj 6 I<|QA (Qk I I O)<|Y8 (n:=k+1) (bytes:=8) wN wN Qd QZ Hj I Ws O O λb10=>?_
 rw[show JL [Value.int .i64 0] (k+1)=(List.replicate (k+1) (0:Int)).map Qs by rw[Zl];simp[Qs]];refine B8 (b:=b10) .here<|QA (Jr I Uz Gp (wQ I I I))<|Qw I (JR Xk) Xq Gp I I λb12=>wR I<|QT ?_
 exact QM ((⟨some ⟨b12,0,none⟩,1,1⟩,[⟨Q6 y,⟨some ⟨b10,0,none⟩,k+1,k+1⟩,List.replicate (k+1) 0⟩])) I (wO I) (rfl) (λF ⟨⟨⟨_,_⟩,hz10⟩,hs12⟩=>by
  have hy:¬y=0:=by simpa[Ru]using hc
  rw[Ha,if_neg hy];exact⟨Qu.of hs12 rfl,λt ht=>by
   rw[List.mem_singleton.1 ht];exact⟨Qu.of hz10 w9,w9,Nat.le_refl _⟩,rfl,Nat.le_refl _,rfl⟩)
def Fl[Inhabited α]{f:α->Value}{l:List α}{rest:List Value}{i:Nat}(h:i<l.length):(l.map f++rest)[0+i*1]?=some (f (el l i)):=by
 rw[Nat.zero_add,Nat.mul_one,List.getElem?_append_left (by simpa using h),List.getElem?_map,List.getElem?_eq_getElem h,J8 h];rfl
theorem QCu{bs:List (Nat×Obj)}{G:Gs->Prop}{b9:Nat}{rl:List Y1}{a:Y1}{L:List Tm}{rs:List (List Tm)}(hpl:∀F,G F->∀k,k<rl.length->Z4 F (el rl k).1 (el rl k).2 (J2 (el rs k)))(hrl:rs.length=rl.length)(hA:∀F,G F->Z4 F a.1 a.2 (J2 L))(hal:a.1.n=L.length)(ho:RlW rs L N)(hcp:rl.length<=cap):Jn prog 123 [.slice (some ⟨b9,0,none⟩) rl.length cap,a.1.v] ⟨w0,F0,(b9,.cells (rl.map (λe:Y1=>e.1.v)++rest).toArray 49 (0,0))::bs,G⟩ (λ(d:Y1)=>d.1.v) (λd=>⟨w0,F0,(b9,.cells (rl.map (λe:Y1=>e.1.v)++rest).toArray 49 (0,0))::bs,λF=>G F/\Z4 F d.1 d.2 (J2 (RD rs L rs.length))⟩):=by
 have hn:=ho.n;have hn1:=ho.n1;have hlp:=ho.lp;refine Jn.intro func123 rfl w8 rfl rfl<|QKt<|wR rfl<|wS rfl<|QJ rfl (λ_ F f k=>j0 (N:=N) (v:=0) (L:=L) f (hA F k).1 (hA F k).2.1 (hA F k).2.2.2.2 (hA F k).2.2.1 O ho.pw ho.sz (ho.dw 0 O) (ho.ds 0 O) O) λc8=>wR rfl<|QG<|QKt<|wR rfl<|QO<|ZH (ι:=QKp rs.length) [(0,_),(1,_)] (λi=>[(5,.slice i.c.1.q i.c.1.n i.c.1.cap),(6,.int .i64 ((i.i:Nat):Int))]) (λi=>(b9,.cells (rl.map (λe:Y1=>e.1.v)++rest).toArray 49 (0,0))::bs) (λi F=>Z4 F i.c.1 i.c.2 (J2 (RD rs L i.i))) (λi=>rs.length-i.i) (⟨0,c8,Nat.zero_le _⟩) wU wU λi=>?_
 have hi:=i.le;refine wA 5 I<|QA (QW I KW)<|QLi 3 I ?_
 refine QL I (λhc2=>?_) λhc2=>?_
 ·have hlt:i.i<rl.length:=wm<|QK8 hc2
  have hlr:i.i<rs.length:=O;refine QLj 4 I<|JC QJ3 mixed wu<|QI (QD I)<|QI (QD I)<|QI (QD I)<|QI (Qk I I O) ?_
  rw[show(((i.i:Nat):Int)+1)=((i.i+1:Nat):Int)from rfl];refine QV I (λw F hF ⟨⟨hG,h8⟩,hC⟩=>j0 (N:=N) (v:=i.i+1) (L:=L) hF (hA F hG).1 (hA F hG).2.1 (hA F hG).2.2.2.2 (hA F hG).2.2.1 O ho.pw ho.sz (ho.dw _ O) (ho.ds _ O) O) (λc19=>WI _ (λ_ _ f k=>k.2.OD) λhd19=>QI (QD I)<|QI (QD I)<|QI (Qj (i:=i.i) rfl rfl KW YY O)<|QI (Xm (c:=rl.map (λe:Y1=>e.1.v)++rest) (T':=49) rfl YY .here (Fl (f:=λe:Y1=>e.1.v) hlt))<|QV I (λw F hF ⟨⟨⟨hG,h8⟩,hC⟩,Al⟩=>QBx (N:=N) (A:=J3 (YM (i.i+1) L)) (B:=el rs i.i) hF Al.1 Al.2.1 Al.2.2.2.2 Al.2.2.1 (hpl F hG _ hlt).1 (hpl F hG _ hlt).2.1 (hpl F hG _ hlt).2.2.2.2 (hpl F hG _ hlt).2.2.1 (λt h=>⟨(CM (ho.dw _ O) t h).1,(CM (ho.dw _ O) t h).2,(ho.ds _ O).1 _ [] (List.append_nil _).symm t h⟩) (λt h=>(ho.rt _ hlr).2 t h) (λt h=>(ho.pm _ hlr t h).2) (ho.pz _ hlr) (ho.pn _ hlr) ⟨by rw[hd19];exact ho.dl _ O,by rw[(hpl F hG _ hlt).OD];exact(ho.rt _ hlr).1⟩) λc24=>WI _ (λ_ _ f k=>k.2.OD) λhd24=>?_);refine QV I (λw F hF ⟨⟨⟨⟨hG,h8⟩,hC⟩,Al⟩,h24⟩=>QBy (N:=N) (A:=RD rs L i.i) (B:=J3 (XL (J3 (YM (i.i+1) L)) (el rs i.i))) hF hC.1 hC.2.1 hC.2.2.2.2 hC.2.2.1 h24.1 h24.2.1 h24.2.2.2.2 h24.2.2.1 (λt h=>by
   rcases List.mem_append.1 h with h | h
   ·exact(ho.aw _ O).2 t h
   exact CM (ho.pm _ hlr) t h) (ho.az _ hlr) ⟨by rw[hC.OD];exact(ho.aw i.i O).1,by rw[hd24];exact ho.al _ hlr⟩) λc25=>?_
  refine QI (QE I)<|Qv<|Qa<|QLk 3 I<|QA (Qk I I O)<|wB 2 I ?_
  exact Qb (⟨i.i+1,c25,hlr⟩)
 have hge:i.i=rs.length:=by have:=QK9 hc2;have:=i.le;omega
 refine Q7 ?_;refine wA 7 I ?_;exact ZN (i.c) rfl (wO I) (rfl) λw hw=>hw.imp QJ3 λF h=>⟨h.1.1,by have h1:=h.2;rw[hge]at h1;exact h1⟩
structure RE(p:ZL):Prop where
 sh:1<=p.sh/\p.sh<=100
 us:∀u∈p.ul,WV p.sh u
 nI:Yq p.ul<=24
 dr:LA p.sh p.ul=false
 ord:(X9 p.ul).length=p.ul.length
theorem RE.of{p:ZL}(h:KL p=0):RE p:=by
 have hs:=xO h;unfold KL at h;rw[if_neg O,if_neg O]at h;by_cases h3:Qz (p.ul.map (VM p.sh))=0
 ·rw[if_neg O]at h;split at h
  ·cases h
  split at h
  ·cases h
  split at h
  ·cases h
  split at h
  ·cases h
  split at h
  ·cases h
  have h1:=(gH p.ul).le;exact⟨⟨hs.1,hs.2.1⟩,λu hu=>LW (HK h3 _ (List.mem_map_of_mem hu)),O,by simp_all,O⟩
 omega
theorem QCK{k:Int}(hi:i<j)(hj:j<us.length)(h1:(el us i).ou=k)(h2:(el us j).ou=k):2<=E3 us k:=by
 have e:us=us.take j++us.drop j:=(List.take_append_drop _ _).symm;unfold E3
 grind[decide,el,J8,List.drop_eq_getElem_cons,List.mem_cons_self]
theorem QCI{k:Int}:∀(us:List Xe) (i:Nat),0<=Ew k us i->∃j:Nat,j<us.length/\Ew k us i=((i+j:Nat):Int)/\(el us j).ou=k
 |[],_,h=>by trivial
 |u::us,i,h=>by
  rw[Ew]at h ⊢;by_cases e:u.ou=k
  ·grind[el]
  rw[if_neg e]at h ⊢;obtain⟨j,h1,h2,h3⟩:=QCI us _ h;exact⟨j+1,by simp_all,O,by trivial⟩
theorem QBO{k:Int}(h:0<=BW us k):∃j:Nat,j<us.length/\BW us k=(j:Int)/\(el us j).ou=k:=by
 grind[QCI,BW]
section
variable{p:ZL}(h:RE p)
include h
theorem RE.pD{k:Int}(h1:1<=k)(h2:k<p.sh):E3 p.ul k=1:=by
 have h3:=h.dr;have h4:=List.any_eq_false.1 h3 (k.toNat-1) (List.mem_range.2 O)
 grind[yM]
theorem RE.ou(hi:i<p.ul.length):1<=(el p.ul i).ou/\(el p.ul i).ou<p.sh:=(h.us _ (Ql hi)).ou
theorem RE.inj(hi:i<p.ul.length)(hj:j<p.ul.length)(e:(el p.ul i).ou=(el p.ul j).ou):i=j:=by
 have ho:=h.ou hi;have hc:=h.pD ho.1 ho.2;rcases Nat.lt_trichotomy i j with g | g | g
 ·have:=QCK g hj rfl e.symm;omega
 ·exact g
 have:=QCK g hi rfl e;simp_all
theorem RE.BW{i:Nat}(hi:i<p.ul.length):BW p.ul (el p.ul i).ou=(i:Int):=by
 have ho:=h.ou hi;have hc:=h.pD ho.1 ho.2;have h1:¬YteldggljlnakmaaGreatDoor.BW p.ul (el p.ul i).ou<0:=λg=>by grind[RR]
 obtain⟨j,g1,g2,g3⟩:=QBO (us:=p.ul) (k:=(el p.ul i).ou) O;rw[g2,h.inj g1 hi g3]
theorem RE.QJR{s:Int}(hs:s<p.sh)(h1:YteldggljlnakmaaGreatDoor.BW p.ul s<0):s<1:=by
 by_cases h2:1<=s
 ·have hc:=h.pD h2 hs;grind[RR]
 omega
end
def QDS(us:List Xe)(out:List Int):Prop:=∀k,k<out.length->∃i:Nat,i<us.length/\el out k=(i:Int)/\O7 us (out.take k) i=true
theorem QDS.next{out:List Int}(h:QDS us out){i:Nat}(hi:i<us.length)(hr:O7 us out i=true):QDS us (out++[(i:Int)]):=λk hk=>by
 rw[List.length_append]at hk;have h1:[(i:Int)].length=1:=rfl;by_cases h2:k<out.length
 ·obtain⟨j,g1,g2,g3⟩:=h k h2
  grind[J8,List.length_append,List.getElem_append_left]
 have h3:k=out.length:=O;subst h3;exact⟨i,hi,by simp[J8,List.length_append],by simp_all⟩
theorem QEG(us:List Xe):∀n out,QDS us out->QDS us (xY us n out)
 |0,_,h=>h
 |n+1,out,h=>by
  rw[xY];cases hx:nxt us out with
  |none=>exact h
  |some i=>exact QEG us n _ (h.next (List.mem_range.1 (List.mem_of_find?_eq_some hx)) (List.find?_some hx))
def QHY(us:List Xe):QDS us (X9 us):=QEG us _ [] λk hk=>by cases hk
def Dn(p:ZL)(k:Nat)(s:Int):Prop:=BW p.ul s<0\/BW p.ul s∈(X9 p.ul).take k
def oU(p:ZL)(k:Nat):Xe:=el p.ul (el (X9 p.ul) k).toNat
section
variable{p:ZL}(h:RE p)
include h
theorem RE.unit{k:Nat}(hk:k<p.ul.length):∃i,i<p.ul.length/\el (X9 p.ul) k=(i:Int)/\oU p k=el p.ul i/\((i:Int)∉(X9 p.ul).take k)/\∀f∈Vu (oU p k),Dn p k f.k:=by
 obtain⟨i,g1,g2,g3⟩:=QHY p.ul k (by rw[h.ord];exact hk);have e:oU p k=el p.ul i:=by unfold oU;simp_all
 unfold O7 at g3
 grind[Dn]
theorem RE.ok{k:Nat}(hk:k<p.ul.length):WV p.sh (oU p k):=by
 obtain⟨i,g1,_,e,_⟩:=h.unit hk;rw[e];exact h.us _ (Ql g1)
theorem RE.mem{k:Nat}(hk:k<p.ul.length):oU p k∈p.ul:=by
 obtain⟨i,g1,_,e,_⟩:=h.unit hk
 grind[Ql]
theorem RE.fdD{k:Nat}(hk:k<p.ul.length){f:F2}(hf:f∈Vu (oU p k)):Dn p k f.k:=by
 obtain⟨i,_,_,_,_,g⟩:=h.unit hk;simp_all
theorem RE.QKA{k:Nat}(hk:k<p.ul.length):¬Dn p k (oU p k).ou:=by
 obtain⟨i,g1,_,e,g4,_⟩:=h.unit hk;rw[e];intro g;unfold Dn at g;rw[h.BW g1]at g
 grind
theorem RE.next{k:Nat}(hk:k<p.ul.length){s:Int}(g:Dn p (k+1) s):Dn p k s\/s=(oU p k).ou:=by
 obtain⟨i,g1,g2,e,_,_⟩:=h.unit hk;rcases g with g | g
 ·exact .inl (.inl g)
 rw[XF (by rw[h.ord];exact hk)]at g;rcases List.mem_append.1 g with g | g
 ·exact .inl (.inr g)
 have g5:=List.mem_singleton.1 g;obtain⟨j,j1,j2,j3⟩:=QBO (us:=p.ul) (k:=s) O
 grind
theorem RE.all(k:Nat)(hk:p.ul.length<=k)(s:Int):Dn p k s:=by
 by_cases g:YteldggljlnakmaaGreatDoor.BW p.ul s<0
 ·exact .inl g
 right;rw[List.take_of_length_le (by rw[h.ord];exact hk)];obtain⟨j,j1,j2,_⟩:=QBO (us:=p.ul) (k:=s) O;have hI:=gH p.ul;refine Decidable.byContradiction λhn=>?_;have h2:=xk p.ul.length _ (List.nodup_cons.2 ⟨hn,hI.nd⟩) λx hx=>by
  rcases List.mem_cons.1 hx with rfl | hx
  ·omega
  exact hI.rg x hx
 rw[List.length_cons,h.ord]at h2;omega
end
def Dn.mono{p:ZL}{k:Nat}{s:Int}(h:Dn p k s):Dn p (k+1) s:=h.elim .inl λg=>.inr ((List.take_subset_take_left _ (Nat.le_succ k)) g)
def ZG(D:List Int)(s:Int):Int:=Qc D s.toNat
def tm(u:Xe):Int:=if u.kd=WR then max 1 ((u.cl.length:Int)-1)else 1
def xD(D:List Int)(u:Xe):Int:=if u.kd=WR then ZG D u.ou else if u.kd=Vj then ZG D (el u.fl 0).k else 0
def uF(D:List Int)(u:Xe):Prop:=u.kd≠Vj->∀f∈u.fl,ZG D f.k*tm u<=ZG D u.ou
def rF(D R:List Int)(u:Xe):Prop:=∀f∈Vu u,ZG R f.k+ZG D f.k-1+xD D u<=ZG R u.ou
theorem QDh:1<=tm u:=by grind[tm]
theorem QIr(h:WV sh u):tm u<=12:=by grind[Hm,tm]
theorem BY(h:∀x∈D,a<=x/\x<=b){s:Int}(hs:s.toNat<D.length):a<=ZG D s/\ZG D s<=b:=by
 grind[ZG,BN,List.getElem_mem]
def Ht{v:Int}(h:a.toNat<D.length)(ha:0<=a)(hb:0<=b):ZG (D.set a.toNat v) b=if b=a then v else ZG D b:=by
 unfold ZG;rw[VC h];omega
theorem qf{v:Int}(h:∀x∈D,a<=x/\x<=b)(h1:a<=v)(h2:v<=b):∀x∈D.set i v,a<=x/\x<=b:=by grind
theorem cT(h:a.toNat<D.length):D.set a.toNat (ZG D a)=D:=by
 grind[ZG,BN,List.set_getElem_self]
theorem Dn.le{p:ZL}{k m:Nat}{s:Int}(h:Dn p k s)(hm:k<=m):Dn p m s:=by
 induction m with
 |zero=>simp_all
 |succ m ih =>
  by_cases e:k=m+1
  ·simp_all
  exact(ih O).mono
section
variable{p:ZL}(h:RE p)
include h
theorem RE.QKB{k:Nat}(hk:k<p.ul.length):Dn p (k+1) (oU p k).ou:=by
 obtain⟨i,g1,g2,e,_⟩:=h.unit hk;rw[e];refine .inr ?_;rw[h.BW g1,<-g2,XF (by rw[h.ord];exact hk)];simp
theorem RE.sep{k:Nat}(hk:k<p.ul.length){s:Int}(hs:Dn p k s):s≠(oU p k).ou:=λe=>h.QKA hk (e ▸ hs)
theorem RE.fr{k:Nat}(hk:k<p.ul.length){f:F2}(hf:f∈(oU p k).fl):0<=f.k/\f.k<p.sh:=((h.ok hk).fd f hf).1
end
theorem L9(h:u.kd≠Vj):Vu u=u.fl:=by simp_all[Vu,if_neg]
structure Lw1(p:ZL)(i:Nat)(D:List Int):Prop where
 len:D.length=p.sh.toNat
 ve:∀x∈D,0<=x/\x<=6
 D0:1<=ZG D 0
 int:∀j,j<i->(el p.ul j).kd=Vj->1<=ZG D (el p.ul j).ou
theorem Lw1.start{p:ZL}(h:1<=p.sh):Lw1 p 0 ((List.replicate p.sh.toNat (0:Int)).set 0 1):=by
 have hl:0<(List.replicate p.sh.toNat (0:Int)).length:=by grind
 refine⟨w9,qf (λx hx=>by simp_all) wv wv,?_,λj hj=>absurd hj O⟩;unfold ZG;rw[show(0:Int).toNat=0 from rfl,VC hl,if_pos rfl];decide
theorem Lw1.hit{p:ZL}(h:Lw1 p i D)(hv:RE p)(hi:i<p.ul.length):Lw1 p (i+1) (D.set (el p.ul i).ou.toNat 1):=by
 have ho:=hv.ou hi;have hl:(el p.ul i).ou.toNat<D.length:=by rw[h.len];omega
 refine⟨by rw[List.length_set];exact h.len,qf h.ve wv wv,by rw[Ht hl O O,if_neg O];exact h.D0,λj hj hk=>?_⟩;by_cases hj2:j<i
 ·have hoj:=hv.ou (show j<p.ul.length by omega);rw[Ht hl O O];split
  ·decide
  exact h.int j hj2 hk
 have e:j=i:=O;subst e;rw[Ht hl O O,if_pos rfl];decide
theorem Lw1.skip{p:ZL}(h:Lw1 p i D)(hi:(el p.ul i).kd≠Vj):Lw1 p (i+1) D :=
 ⟨h.len,h.ve,h.D0,λj hj hk=>by
  by_cases hj2:j<i
  ·exact h.int j hj2 hk
  grind⟩
structure Lw2(p:ZL)(k:Nat)(D:List Int):Prop where
 len:D.length=p.sh.toNat
 ve:∀x∈D,0<=x/\x<=6
 int:∀j,j<p.ul.length->(el p.ul j).kd=Vj->1<=ZG D (el p.ul j).ou
 one:∀s,0<=s->s<p.sh->Dn p k s->1<=ZG D s
 un:∀j,j<k->uF D (oU p j)
theorem Lw1.two{p:ZL}(hv:RE p)(h:Lw1 p i D)(hi:p.ul.length<=i):Lw2 p 0 D :=
 ⟨h.len,h.ve,λj hj=>h.int j O,λs h0 hs hd=>(hd.elim (λhd=>by
   have:=hv.QJR hs hd;rw[show s=0 by omega];exact h.D0) λhd=>by cases hd),λj hj=>absurd hj O⟩
theorem Lw2.next{p:ZL}{k:Nat}(h:Lw2 p k D)(hv:RE p)(hk:k<p.ul.length){v:Int}(h1:ZG D (oU p k).ou<=v)(h2:v<=6)(h3:(oU p k).kd≠Vj->∀f∈(oU p k).fl,ZG D f.k*tm (oU p k)<=v):Lw2 p (k+1) (D.set (oU p k).ou.toNat v):=by
 have hok:=hv.ok hk;have ho:=hok.ou;have hl:(oU p k).ou.toNat<D.length:=by rw[h.len];omega
 have h0:=(BY h.ve hl).1;have hD:∀s,0<=s->ZG _ s=if s=(oU p k).ou then v else ZG D s:=λs hs=>Ht hl O hs
 refine⟨by rw[List.length_set];exact h.len,qf h.ve O h2,λj hj hj2=>?_,λs hs0 hs hd=>?_,λj hj hkd f hf=>?_⟩
 ·have:=hv.ou hj;have:=h.int j hj hj2
  grind
 ·rw[hD s hs0];split
  ·obtain⟨i,i1,_,e,_⟩:=hv.unit hk;by_cases hI:(oU p k).kd=Vj
   ·have:=h.int i i1 (by simp_all)
    grind
   obtain⟨f1,_⟩:=Z5 hok;have hf:el (oU p k).fl 0∈(oU p k).fl:=Ql O;have g1:=h3 hI _ hf;have g2:=hv.fr hk hf;have g3:=h.one _ g2.1 g2.2 (hv.fdD hk (by grind[L9]));have g4:ZG D (el (oU p k).fl 0).k*1<=ZG D (el (oU p k).fl 0).k*tm (oU p k):=Int.mul_le_mul_of_nonneg_left QDh O;omega
  rename_i hne;exact h.one s hs0 hs ((hv.next hk hd).elim id λe=>absurd e hne)
 by_cases hj2:j<k
 ·have hjn:j<p.ul.length:=O;have g1:=h.un j hj2 hkd f hf;have g2:=hv.fr hjn hf;have g3:=hv.sep hk ((hv.fdD hjn (by rw[L9 hkd];exact hf)).le (show j<=k by omega));have g5:=(hv.ok hjn).ou
  grind
 have e:j=k:=O;subst e;have g2:=hv.fr hk hf;have g3:=hv.sep hk (hv.fdD hk (by rw[L9 hkd];exact hf))
 grind
structure Lw3(p:ZL)(D:List Int)(k:Nat)(R:List Int):Prop where
 len:R.length=p.sh.toNat
 ve:∀x∈R,0<=x/\x<=6
 un:∀j,j<k->rF D R (oU p j)
theorem Lw3.start{p:ZL}:Lw3 p D 0 (List.replicate p.sh.toNat 0):=⟨w9,λx hx=>by simp_all,λj hj=>absurd hj O⟩
theorem cB{f:F2}(h:f∈Vu u):f∈u.fl:=by
 grind[Vu,List.mem_of_mem_drop]
theorem Lw3.next{p:ZL}{k:Nat}(h:Lw3 p D k R)(hv:RE p)(hk:k<p.ul.length){v:Int}(h1:0<=v)(h2:v<=6)(h3:∀f∈Vu (oU p k),ZG R f.k+ZG D f.k-1+xD D (oU p k)<=v):Lw3 p D (k+1) (R.set (oU p k).ou.toNat v):=by
 have hok:=hv.ok hk;have ho:=hok.ou;have hl:(oU p k).ou.toNat<R.length:=by rw[h.len];omega
 have hD:∀s,0<=s->ZG _ s=if s=(oU p k).ou then v else ZG R s:=λs hs=>Ht hl O hs
 refine⟨by rw[List.length_set];exact h.len,qf h.ve h1 h2,λj hj f hf=>?_⟩;have hjn:j<p.ul.length:=O;have g2:=hv.fr hjn (cB hf);have g5:=(hv.ok hjn).ou;have g3:=hv.sep hk ((hv.fdD hjn hf).le (show j<=k by omega));by_cases hj2:j<k
 ·have g4:=hv.sep hk ((hv.QKB hjn).le (show j+1<=k by omega));rw[hD _ g2.1,hD _ O,if_neg g3,if_neg g4];exact h.un j hj2 f hf
 grind
structure Ty(p:ZL)(D R:List Int):Prop where
 QLf:D.length=p.sh.toNat
 yx:∀s,0<=s->s<p.sh->1<=ZG D s/\ZG D s<=6
 QLb:R.length=p.sh.toNat
 QCm:∀s,0<=s->s<p.sh->0<=ZG R s/\ZG R s<=6
 un:∀j,j<p.ul.length->uF D (oU p j)/\rF D R (oU p j)
theorem Ty.of{p:ZL}{k m:Nat}(hv:RE p)(h:Lw2 p k D)(g:Lw3 p D m R)(hk:p.ul.length<=k)(hm:p.ul.length<=m):Ty p D R :=
 ⟨h.len,λs h0 hs=>⟨h.one s h0 hs (hv.all k hk s),(BY h.ve (by rw[h.len];omega)).2⟩,g.len,λs h0 hs=>BY g.ve (by rw[g.len];omega),λj hj=>⟨h.un j O,g.un j O⟩⟩
structure QKs(p:ZL) where
 i:Nat
 D:List Int
 ok:Lw1 p i D
structure QKr(p:ZL) where
 k:Nat
 D:List Int
 ok:Lw2 p k D
structure QGZ(u:Xe)(D:List Int) where
 i:Nat
 v:Int
 le:i<=u.fl.length
 ge:ZG D u.ou<=v
 b:v<=100
 hv:∀f∈u.fl.take i,ZG D f.k*tm u<=v
structure QKq(p:ZL)(D:List Int) where
 k:Nat
 R:List Int
 ok:Lw3 p D k R
structure QGY(u:Xe)(D R:List Int) where
 i:Nat
 v:Int
 le:i<=(Vu u).length
 ge:0<=v
 b:v<=100
 hv:∀f∈(Vu u).take i,ZG R f.k+ZG D f.k-1<=v
def Ff(a b:Int):a<=(if b>a then b else a)/\b<=(if b>a then b else a):=O
def QCC{c:Int}(h1:a<=c)(h2:b<=c):(if b>a then b else a)<=c:=O
theorem QJy(h:u.kd=WR):(if((u.cl.length:Int)-1)>1 then((u.cl.length:Int)-1)else 1)=tm u:=by
 unfold tm;grind
theorem QJz(h:u.kd≠WR):tm u=1:=by simp_all[tm,if_neg]
structure LwX(u:Xe)(D:List Int) where
 v:Int
 ge:ZG D u.ou<=v
 hv:u.kd≠Vj->∀f∈u.fl,ZG D f.k*tm u<=v
def QGZ.next{u:Xe}{D:List Int}(s:QGZ u D)(h:s.i<u.fl.length)(hb:ZG D (el u.fl s.i).k*tm u<=100):QGZ u D where
 i:=s.i+1
 v:=if ZG D (el u.fl s.i).k*tm u>s.v then ZG D (el u.fl s.i).k*tm u else s.v
 le:=h
 ge:=Int.le_trans s.ge (Ff _ _).1
 b:=QCC s.b hb
 hv:=λf hf=>by
  rw[XF h]at hf;rcases List.mem_append.1 hf with hf | hf
  ·exact Int.le_trans (s.hv f hf) (Ff _ _).1
  rw[List.mem_singleton.1 hf];exact(Ff _ _).2
def QGY.next{u:Xe}{D R:List Int}(s:QGY u D R)(h:s.i<(Vu u).length)(hb:ZG R (el (Vu u) s.i).k+ZG D (el (Vu u) s.i).k-1<=100):QGY u D R where
 i:=s.i+1
 v:=if ZG R (el (Vu u) s.i).k+ZG D (el (Vu u) s.i).k-1>s.v then ZG R (el (Vu u) s.i).k+ZG D (el (Vu u) s.i).k-1 else s.v
 le:=h
 ge:=Int.le_trans s.ge (Ff _ _).1
 b:=QCC s.b hb
 hv:=λf hf=>by
  rw[XF h]at hf;rcases List.mem_append.1 hf with hf | hf
  ·exact Int.le_trans (s.hv f hf) (Ff _ _).1
  rw[List.mem_singleton.1 hf];exact(Ff _ _).2
theorem QIn(h0:0<=ZG D (el u.fl 0).k):xD D u<=(if u.kd=WR then ZG D u.ou else 0)+(if u.kd=Vj then ZG D (el u.fl 0).k else 0):=by
 grind[xD]
def QFo(h1:0<=a/\a<=6)(h2:1<=b/\b<=12):0<=a*b/\a*b<=72:=by
 have e1:=Int.mul_le_mul h1.2 h2.2 O O;exact⟨Int.mul_nonneg h1.1 O,O⟩
theorem QHS{p:ZL}(hF:Fits F w)(hP:KO F p)(hV:RE p)(hb:p.un.n<=1000000):QQ prog 109 [p.v,.int .i64 6] w F (λ(b:Bool)=>.bool b) (λb F=>b=true->∃D R,Ty p D R):=by
 have LU:=hP.MK;have hs1:=hV.sh;have hon:=hV.ord;have hub:UnB p.ul:=λu hu=>by have h1:=Z5 (hV.us u hu);have h2:=(hP.us u hu).MQ;omega
 refine QQ.go (G:=λF=>KO F p) func109 hF hP ?_;refine QKt<|Q8 I (vs:=[_,_,_]) I λb2=>wR I<|QG<|Jf (b:=b2) .here<|QB<|QA (QH I WT QZ)<|QA (Qy 0 tE rfl QZ I)<|Y8 (n:=p.sh.toNat) (bytes:=8) wN wN Qd QZ Hj I Ws O O λb19=>?_
 rw[show JL [Value.int .i64 0] p.sh.toNat=(List.replicate p.sh.toNat (0:Int)).map Qs++[] by rw[Zl];simp[Qs]];refine QLi 6 I<|QA (Qj (i:=0) rfl wN Qd QZ O)<|QS (vs:=[_]) I I I QZ I .here (Z3 tA 1) wT<|QLi 9 I<|ZH (ι:=QKs p) [(1,_),(2,_),(5,_)] (λi=>[(6,.int .i64 ((i.i:Nat):Int))]) (λi=>[(b19,.cells ((i.D).map Qs++[]).toArray 3 (0,0))]) (λi F=>True) (λi=>p.ul.length-i.i) (⟨0,(List.replicate p.sh.toNat (0:Int)).set 0 1,Lw1.start hs1.1⟩) wV wT λi=>wA 4 I<|QA (QH I XS Jj)<|QA (Qy 1 (λF h9=>h9.1.2) rfl Jj I)<|QA (QW I Xr)<|QLi 3 I ?_
 refine QL I (λhc2=>?_) λhc2=>?_
 ·have hlt:i.i<p.ul.length:=wm<|QK8 hc2
  have ho:=hV.ou hlt;have hDl:=i.ok.len;refine QLj 6 I<|QA (QH I XS Jj)<|QA (Qy 1 (λF h9=>h9.1.2) rfl Jj I)<|QJj I<|QA (Qo (n:=p.un.n) i.i (λF h9=>h9.1.1.un) rfl rfl Xr XJ O)<|QA (QH I Ks YZ)<|QA (Qg (n:=p.un.n) ((i.i)*5+0) (λF h9=>h9.1.1.un) O rfl YZ (Q4 (f:=MJ) (l:=p.ul) ZO O rfl))<|QA (ZD I I)<|QF<|QC ?_
  refine QL I (λhc2=>?_) λhc2=>?_
  ·refine wA 2 I<|QA (QH I XS Jj)<|QA (Qy 1 (λF h9=>h9.1.2) rfl Jj I)<|QJj I<|QA (Qo (n:=p.un.n) i.i (λF h9=>h9.1.1.un) rfl rfl Xr XJ O)<|QA (QH I KI QZ)<|QA (Qg (n:=p.un.n) ((i.i)*5+2) (λF h9=>h9.1.1.un) O rfl QZ (Q4 (f:=MJ) (l:=p.ul) ZO O rfl))<|QA (Qj (i:=(el p.ul i.i).ou.toNat) rfl wN Qd QZ O)<|QS (vs:=[_]) I I I QZ I .here (Z3 (by rw[i.ok.len];omega) 1) wT<|QF<|Qa<|QLk 3 I<|QA (Qk I I O)<|wB 2 I ?_
   exact Qb (⟨i.i+1,i.D.set (el p.ul i.i).ou.toNat 1,i.ok.hit hV hlt⟩)
  refine QK<|Qa<|QLk 3 I<|QA (Qk I I O)<|wB 2 I ?_
  exact Qb (⟨i.i+1,i.D,i.ok.skip (by simpa[Vj]using hc2)⟩)
 have hge:p.ul.length<=i.i:=wm<|QK9 hc2
 refine Q7 ?_;refine QKt<|QA (Z7 (λF h9=>h9.1.2) rfl Zf I)<|QJ I (λ_ _ f k=>js f k.1.1 hb hub) λc45=>JM _ (λ_ _ f k=>k.2.2.1) λhn45=>QLi 10 I<|ZH (ι:=QKr p) [(1,_),(2,_),(5,_),(7,_)] (λi2=>[(8,.int .i64 ((i2.k:Nat):Int))]) (λi2=>[(b19,.cells ((i2.D).map Qs++[]).toArray 3 (0,0))]) (λi2 F=>True) (λi2=>p.ul.length-i2.k) (⟨0,i.D,i.ok.two hV hge⟩) wW wT λi2=>wA 5 I<|QA (QW I Qd)<|QLi 3 I ?_
 refine QL I (λhc2=>?_) λhc2=>?_
 ·have hlt2:i2.k<p.ul.length:=wm<|QK8 hc2
  have hDl:=i2.ok.len;obtain⟨j9,hj9,hje,_,_⟩:=hV.unit hlt2;have hiu:(el (X9 p.ul) i2.k).toNat<p.ul.length:=by rw[hje];omega
  have hok:WV p.sh (oU p i2.k):=hV.ok hlt2;have hum:(oU p i2.k)∈p.ul:=Ql hiu;have ho:=hok.ou;have hfu:=(hP.us _ hum).MQ;have hcu:=(hP.us _ hum).RA;have hf8:=Z5 hok;have hc13:=Hm hok;refine QLj 5 I<|JY 9 QJ3 mixed wu wu ?_
  simp only[List.take_succ_cons,List.take_zero,List.drop_succ_cons,List.drop_zero];refine QI (QH I XS Jj)<|QI (Qy 1 (λF h9=>h9.1.1.1.2) rfl Jj I)<|QI (QD I)<|QI (QD I)<|QI (Qo (n:=c45.n) (i2.k) (λF h9=>h9.1.2.1) rfl rfl Qd QZ O)<|QI (Qg (n:=c45.n) (i2.k*1) (λF h9=>h9.1.2.1) O rfl QZ (ZF (f:=Qs) (l:=X9 p.ul) O))<|QI (Qo (n:=p.un.n) ((el (X9 p.ul) i2.k).toNat) (λF h9=>h9.1.1.1.1.un) rfl wN Xr XJ O)<|QI (JG (n:=p.un.n) (vs:=[tx (oU p i2.k).kd,.slice (oU p i2.k).fd.q (oU p i2.k).fd.n (oU p i2.k).fd.cap,Qs ((oU p i2.k).ou),tx (oU p i2.k).st,.slice (oU p i2.k).cv.q (oU p i2.k).cv.n (oU p i2.k).cv.cap]) (((el (X9 p.ul) i2.k).toNat)*5) (λF h9=>h9.1.1.1.1.un) O rfl XJ I λj v hv=>Q4 (f:=MJ) (l:=p.ul) ZO O hv)<|BU Ni λb9=>X1<|QS (vs:=[_,_,_,_,_]) I I I XJ I .here .h5 wX<|QJi<|Jf (b:=b9) .here ?_
  refine Ba (ι:=LwX (oU p i2.k) i2.D) [(1,_),(2,_),(5,_),(7,_),(8,_),(9,_)] (λx3=>[]) (λx3=>[(b19,.cells ((i2.D.set (oU p i2.k).ou.toNat x3.v).map Qs++[]).toArray 3 (0,0))]) (λx3 F=>True) wY ?_ ?_
  ·refine wA 6 I<|ZH (ι:=QGZ (oU p i2.k) i2.D) [(1,_),(2,_),(5,_),(7,_),(8,_),(9,_)] (λi3=>[(10,.int .i64 ((i3.i:Nat):Int))]) (λi3=>[(b19,.cells ((i2.D.set (oU p i2.k).ou.toNat i3.v).map Qs++[]).toArray 3 (0,0))]) (λi3 F=>True) (λi3=>(oU p i2.k).fl.length-i3.i) (⟨0,ZG i2.D (oU p i2.k).ou,Nat.zero_le _,Int.le_refl _,wm (BY i2.ok.ve (s:=(oU p i2.k).ou) O),λf hf=>by cases hf⟩) wY wT (hb:=by rw[cT O];exact List.Sublist.refl _) λi3=>wA 4 I<|QA (QH I ZV XK)<|QA (Qy 1 (λF h9=>h9.1.2) rfl XK I)<|QA (QW I Zz)<|wB 2 I ?_
   refine Qn (t:=65) rfl (λhb65=>?_) λhb65=>?_
   ·have hlt3:i3.i<(oU p i2.k).fl.length:=wm<|QK8 hb65
    refine QP I I<|QA (QH I Ks YZ)<|QP I I<|QA (Qy 0 (λF h9=>h9.1.2) rfl YZ I)<|QP I I<|QA (PA I I)<|QLi 3 I ?_
    refine QL I (λhc2=>?_) λhc2=>?_
    ·have hkI:(oU p i2.k).kd≠Vj:=by simpa[Vj]using hc2
     have hf3:=Ql hlt3;have hr3:=(hok.fd _ hf3).1;have hsp:(el (oU p i2.k).fl i3.i).k≠(oU p i2.k).ou:=hV.sep hlt2 (hV.fdD hlt2 (by rw[L9 (show(oU p i2.k).kd≠Vj from hkI)];exact hf3));have hd80:Qc (i2.D.set (oU p i2.k).ou.toNat i3.v) (el (oU p i2.k).fl i3.i).k.toNat=ZG i2.D (el (oU p i2.k).fl i3.i).k:=(Ht O O O).trans (if_neg hsp);have hd98:Qc (i2.D.set (oU p i2.k).ou.toNat i3.v) (oU p i2.k).ou.toNat=i3.v:=(Ht O O O).trans (if_pos rfl);have hm3:=QFo (BY i2.ok.ve (s:=(el (oU p i2.k).fl i3.i).k) O) (⟨QDh,QIr hok⟩:1<=tm (oU p i2.k)/\_);have hm4:=BY i2.ok.ve (s:=(el (oU p i2.k).fl i3.i).k) O;refine QLj 7 I<|QA (QH I ZV XK)<|QA (Qy 1 (λF h9=>h9.1.2) rfl XK I)<|QJj I<|QA (Qo (n:=(oU p i2.k).fd.n) (i3.i) (λF h9=>((h9.1.1.1.1.1.1.us _ (Ql (show(el (X9 p.ul) i2.k).toNat<p.ul.length from O)))).fd) rfl rfl Zz YC O)<|QA (QH I GB QZ)<|QA (Qg (n:=(oU p i2.k).fd.n) ((i3.i)*2+0) (λF h9=>((h9.1.1.1.1.1.1.us _ (Ql (show(el (X9 p.ul) i2.k).toNat<p.ul.length from O)))).fd) O rfl QZ (Q4 (f:=BV) (l:=(oU p i2.k).fl) Zw O rfl))<|QA (Qj (i:=(el (oU p i2.k).fl i3.i).k.toNat) rfl wN Qd QZ O)<|QA (Xm (c:=(i2.D.set (oU p i2.k).ou.toNat i3.v).map Qs++[]) (T':=3) rfl QZ .here (Xd (by simp only[List.length_set];omega))) ?_
     rw[hd80];refine QLi 3 I ?_;refine Zu [(1,_),(2,_),(5,_),(7,_),(8,_),(9,_),(10,_),(66,_),(67,_),(68,_)] [(11,.int .i64 ((ZG i2.D (el (oU p i2.k).fl i3.i).k*tm (oU p i2.k))))] wi ?_ ?_
     ·refine QKt<|QA (QH I Ks YZ)<|QA (Qy 0 (λF h9=>h9.1.2) rfl YZ I)<|QA (ZD I I)<|QF<|QC ?_
      refine QL I (λhc2=>?_) λhc2=>?_
      ·have hkT:(oU p i2.k).kd=WR:=by simpa[WR]using hc2
       refine wA 2 I<|QA (QH I H8 KR)<|QA (Qy 4 (λF h9=>h9.1.2) rfl KR I)<|QA (QW I YI)<|QA (Jk I I O)<|QA (qI I I) ?_
       rw[show(if(((oU p i2.k).cv.n:Nat):Int)-1>1 then(((oU p i2.k).cv.n:Nat):Int)-1 else 1)=tm (oU p i2.k)from by rw[<-hcu];exact QJy hkT];refine QA (VN I I O)<|wB 2 I ?_
       exact J9
      have hkT:(oU p i2.k).kd≠WR:=by simpa[WR]using hc2
      refine QK ?_;exact J9 ⟨rfl,rfl,rfl,rfl,rfl,rfl,rfl,rfl,rfl,rfl,(congrArg (λz:Int=>some (Value.int .i64 z)) (by rw[QJz hkT,Int.mul_one])),trivial⟩
     refine JY 11 QJ3 mixed wu wu ?_;simp only[List.take_succ_cons,List.take_zero,List.drop_succ_cons,List.drop_zero];refine QI (QD I)<|QI (QH I KI QZ)<|QI (Qy 2 (λF h9=>h9.1.2) rfl QZ I)<|QI (QD I)<|QI (QH I KI QZ)<|QI (Qy 2 (λF h9=>h9.1.2) rfl QZ I)<|QI (Qj (i:=(oU p i2.k).ou.toNat) rfl wN Qd QZ O)<|QI (Xm (c:=(i2.D.set (oU p i2.k).ou.toNat i3.v).map Qs++[]) (T':=3) rfl QZ .here (Xd (by simp only[List.length_set];omega))) ?_
     rw[hd98];refine QI (QD I)<|QI (qI I I)<|QI (Qj (i:=(oU p i2.k).ou.toNat) rfl wN Qd QZ O)<|X1<|QS (vs:=[_]) I I I QZ I .here (Z3 (by simp only[List.length_set];omega) _) wT ?_
     rw[List.set_set];refine QF<|Qa<|QLk 3 I<|QA (Qk I I O)<|wB 2 I ?_
     exact Qb (i3.next hlt3 O) (by show(oU p i2.k).fl.length-(i3.i+1)<(oU p i2.k).fl.length-i3.i;omega)
    refine Y5 ?_
    repeat first|refine XD ?_|refine J0 w8 ?_
    refine XE ?_;exact XG (⟨i3.v,i3.ge,λh=>absurd (by simpa[Vj]using hc2) h⟩)
   have hge3:(oU p i2.k).fl.length<=i3.i:=wm<|QK9 hb65
   refine QLi 6 I<|ZP I<|Y5 ?_
   repeat first|refine XD ?_|refine J0 w8 ?_
   refine XE ?_;exact XG (⟨i3.v,i3.ge,λ_ f hf=>i3.hv f (by rw[List.take_of_length_le hge3];exact hf)⟩)
  intro x3;have hd106:Qc (i2.D.set (oU p i2.k).ou.toNat x3.v) (oU p i2.k).ou.toNat=x3.v:=(Ht O O O).trans (if_pos rfl);refine wS I<|QA (QH I KI QZ)<|QA (Qy 2 (λF h9=>h9.1.2) rfl QZ I)<|QA (Qj (i:=(oU p i2.k).ou.toNat) rfl wN Qd QZ O)<|QA (Xm (c:=(i2.D.set (oU p i2.k).ou.toNat x3.v).map Qs++[]) (T':=3) rfl QZ .here (Xd (by simp only[List.length_set];omega))) ?_
  rw[hd106];refine QLi 4 I ?_;refine QL I (λhc2=>?_) λhc2=>?_
  ·refine wA 5 I<|X6 ?_
   exact QM (false) rfl (wO rfl) (rfl) λF ⟨⟨⟨⟨⟨⟨hP,hz2⟩,_⟩,h45⟩,_⟩,hz9⟩,_⟩ h=>by cases h
  refine QK<|Qa<|QLk 3 I<|QA (Qk I I O)<|wB 2 I ?_
  exact Qb (⟨i2.k+1,i2.D.set (oU p i2.k).ou.toNat x3.v,i2.ok.next hV hlt2 x3.ge (wm<|QK9 hc2) x3.hv⟩)
 have hge2:p.ul.length<=i2.k:=wm<|QK9 hc2
 have hDl:=i2.ok.len;refine Q7 ?_;refine QG ?_;obtain⟨rr,hvrr,hnrr,hcrr,hfixrr⟩:=Qp.fix (w0:=w) (F0:=F) (bs1:=[]) (G:=_) (Qp.some (T:=3) (sz:=1) (b:=b19) (n:=p.sh.toNat) (cap:=p.sh.toNat) (l:=(i2.D).map Qs) (rest:=[]) (by rw[List.length_map];omega) (by rw[List.length_map,List.length_nil];omega) (Nat.le_refl _) (Nat.le_trans (show p.sh.toNat<=100 by omega) wv));refine Hh hfixrr ?_;rw[hvrr];refine QB<|QA (QH I WT QZ)<|QA (Qy 0 (λF h9=>h9.1.1.1.1.2) rfl QZ I)<|Y8 (n:=p.sh.toNat) (bytes:=8) wN wN Qd QZ Hj I Ws O O λb111=>?_
 rw[show JL [Value.int .i64 0] p.sh.toNat=(List.replicate p.sh.toNat (0:Int)).map Qs++[] by rw[Zl];simp[Qs]];refine QLi 10 I<|ZH (ι:=QKq p i2.D) [(1,_),(2,_),(5,_),(7,_),(12,_)] (λi4=>[(13,.int .i64 ((i4.k:Nat):Int))]) (λi4=>[(b111,.cells ((i4.R).map Qs++[]).toArray 3 (0,0))]) (λi4 F=>True) (λi4=>p.ul.length-i4.k) (⟨0,List.replicate p.sh.toNat 0,Lw3.start⟩) wX wT λi4=>wA 5 I<|QA (QW I Qd)<|QLi 3 I ?_
 refine QL I (λhc2=>?_) λhc2=>?_
 ·have hlt4:i4.k<p.ul.length:=wm<|QK8 hc2
  have hRl:=i4.ok.len;obtain⟨j9,hj9,hje,_,_⟩:=hV.unit hlt4;have hiu:(el (X9 p.ul) i4.k).toNat<p.ul.length:=by rw[hje];omega
  have hok:WV p.sh (oU p i4.k):=hV.ok hlt4;have hum:(oU p i4.k)∈p.ul:=Ql hiu;have ho:=hok.ou;have hfu:=(hP.us _ hum).MQ;have hcu:=(hP.us _ hum).RA;have hf8:=Z5 hok;have hc13:=Hm hok;have hml:=gQ hfu;have hml2:=QAx (u:=(oU p i4.k));refine QLj 5 I<|JY 9 QJ3 mixed wu wu ?_
  simp only[List.take_succ_cons,List.take_zero,List.drop_succ_cons,List.drop_zero];refine QI (QH I XS Jj)<|QI (Qy 1 (λF h9=>h9.1.1.1.1.1.2) rfl Jj I)<|QI (QD I)<|QI (QD I)<|QI (Qo (n:=c45.n) (i4.k) (λF h9=>h9.1.1.1.2.1) rfl rfl Qd QZ O)<|QI (Qg (n:=c45.n) (i4.k*1) (λF h9=>h9.1.1.1.2.1) O rfl QZ (ZF (f:=Qs) (l:=X9 p.ul) O))<|QI (Qo (n:=p.un.n) ((el (X9 p.ul) i4.k).toNat) (λF h9=>h9.1.1.1.1.1.1.un) rfl wN Xr XJ O)<|QI (JG (n:=p.un.n) (vs:=[tx (oU p i4.k).kd,.slice (oU p i4.k).fd.q (oU p i4.k).fd.n (oU p i4.k).fd.cap,Qs ((oU p i4.k).ou),tx (oU p i4.k).st,.slice (oU p i4.k).cv.q (oU p i4.k).cv.n (oU p i4.k).cv.cap]) (((el (X9 p.ul) i4.k).toNat)*5) (λF h9=>h9.1.1.1.1.1.1.un) O rfl XJ I λj v hv=>Q4 (f:=MJ) (l:=p.ul) ZO O hv)<|BU Ni λb14=>X1<|QS (vs:=[_,_,_,_,_]) I I I XJ I .here .h5 wX<|QJi<|QG<|Jf (b:=b14) .here<|QB<|QA (Z7 tE rfl XJ I)<|QJ I (λ_ _ f k=>jv f (k.1.1.1.1.1.1.1.us _ hum) (k.1.1.1.1.1.1.1.us _ hum).yw O) λ_=>QLi 10 I<|ZH (ι:=QGY (oU p i4.k) i2.D i4.R) [(1,_),(2,_),(5,_),(7,_),(12,_),(13,_),(14,_),(15,_)] (λi5=>[(16,.int .i64 ((i5.i:Nat):Int))]) (λi5=>[(b111,.cells ((i4.R.set (oU p i4.k).ou.toNat i5.v).map Qs++[]).toArray 3 (0,0))]) (λi5 F=>True) (λi5=>(Vu (oU p i4.k)).length-i5.i) (⟨0,ZG i4.R (oU p i4.k).ou,Nat.zero_le _,(BY i4.ok.ve O).1,wm (BY i4.ok.ve (s:=(oU p i4.k).ou) O),λf hf=>by cases hf⟩) we wT (hb:=by rw[cT O];exact List.Sublist.refl _) λi5=>wA 5 I<|QA (QW I Zz)<|QLi 3 I ?_
  refine QL I (λhc2=>?_) λhc2=>?_
  ·have hlt5:i5.i<(Vu (oU p i4.k)).length:=wm<|QK8 hc2
   have hf5:=Ql hlt5;have hr5:=(hok.fd _ (cB hf5)).1;have hsp:(el (Vu (oU p i4.k)) i5.i).k≠(oU p i4.k).ou:=hV.sep hlt4 (hV.fdD hlt4 hf5);have hd149:Qc (i4.R.set (oU p i4.k).ou.toNat i5.v) (el (Vu (oU p i4.k)) i5.i).k.toNat=ZG i4.R (el (Vu (oU p i4.k)) i5.i).k:=(Ht O O O).trans (if_neg hsp);have hd141:Qc (i4.R.set (oU p i4.k).ou.toNat i5.v) (oU p i4.k).ou.toNat=i5.v:=(Ht O O O).trans (if_pos rfl);have hq1:=BY i4.ok.ve (s:=(el (Vu (oU p i4.k)) i5.i).k) O;have hq2:=BY i2.ok.ve (s:=(el (Vu (oU p i4.k)) i5.i).k) O;have hq3:ZG i2.D (el (Vu (oU p i4.k)) i5.i).k=Qc i2.D (el (Vu (oU p i4.k)) i5.i).k.toNat:=rfl;refine QLj 4 I<|JY 28 QJ3 mixed wu wu ?_
   simp only[List.take_succ_cons,List.take_zero,List.drop_succ_cons,List.drop_zero];refine QI (QD I)<|QI (QH I KI QZ)<|QI (Qy 2 (λF h9=>h9.1.1.2) rfl QZ I)<|QI (QD I)<|QI (QH I KI QZ)<|QI (Qy 2 (λF h9=>h9.1.1.2) rfl QZ I)<|QI (Qj (i:=(oU p i4.k).ou.toNat) rfl wN Qd QZ O)<|QI (Xm (c:=(i4.R.set (oU p i4.k).ou.toNat i5.v).map Qs++[]) (T':=3) rfl QZ .here (Xd (by simp only[List.length_set];omega))) ?_
   rw[hd141];refine QI (QD I)<|QI (QD I)<|QI (QD I)<|QI (Qo (n:=(gR (oU p i4.k)).n) (i5.i) (λF h9=>(RP (h9.1.1.1.1.1.1.1.1.1.us _ hum) (h9.1.1.1.1.1.1.1.1.1.us _ hum).yw)) I I Zz YC O)<|QI (QH I GB QZ)<|QI (Qg (n:=(gR (oU p i4.k)).n) ((i5.i)*2+0) (λF h9=>(RP (h9.1.1.1.1.1.1.1.1.1.us _ hum) (h9.1.1.1.1.1.1.1.1.1.us _ hum).yw)) O rfl QZ (Q4 (f:=BV) (l:=(Vu (oU p i4.k))) Zw O rfl))<|QI (Qj (i:=(el (Vu (oU p i4.k)) i5.i).k.toNat) rfl wN Qd QZ O)<|QI (Xm (c:=(i4.R.set (oU p i4.k).ou.toNat i5.v).map Qs++[]) (T':=3) rfl QZ .here (Xd (by simp only[List.length_set];omega))) ?_
   rw[hd149];refine QI (QD I)<|QI (QD I)<|QI (QD I)<|QI (Qo (n:=(gR (oU p i4.k)).n) (i5.i) (λF h9=>(RP (h9.1.1.1.1.1.1.1.1.1.us _ hum) (h9.1.1.1.1.1.1.1.1.1.us _ hum).yw)) I I Zz YC O)<|QI (QH I GB QZ)<|QI (Qg (n:=(gR (oU p i4.k)).n) ((i5.i)*2+0) (λF h9=>(RP (h9.1.1.1.1.1.1.1.1.1.us _ hum) (h9.1.1.1.1.1.1.1.1.1.us _ hum).yw)) O rfl QZ (Q4 (f:=BV) (l:=(Vu (oU p i4.k))) Zw O rfl))<|QI (Qo (n:=rr.n) ((el (Vu (oU p i4.k)) i5.i).k.toNat) (λF h9=>(by rw[hnrr];exact h9.1.1.1.1.2)) I wN Qd QZ O)<|QI (Qg (n:=rr.n) (((el (Vu (oU p i4.k)) i5.i).k.toNat)*1) (λF h9=>(by rw[hnrr];exact h9.1.1.1.1.2)) O rfl QZ (JH (o:=i2.D) O))<|QI (Qk I I O)<|QI (Jk I I O)<|QI (qI I I)<|QI (Qj (i:=(oU p i4.k).ou.toNat) rfl wN Qd QZ O)<|X1<|QS (vs:=[_]) I I I QZ I .here (Z3 (by simp only[List.length_set];omega) _) wT ?_
   rw[List.set_set];refine QF<|Qa<|QLk 3 I<|QA (Qk I I O)<|wB 2 I ?_
   exact Qb (i5.next hlt5 O) (by show(Vu (oU p i4.k)).length-(i5.i+1)<(Vu (oU p i4.k)).length-i5.i;omega)
  have hge5:(Vu (oU p i4.k)).length<=i5.i:=wm<|QK9 hc2
  have hd141:Qc (i4.R.set (oU p i4.k).ou.toNat i5.v) (oU p i4.k).ou.toNat=i5.v:=(Ht O O O).trans (if_pos rfl);have h50:=i5.ge;have h5b:=i5.b;have hf0:el (oU p i4.k).fl 0∈(oU p i4.k).fl:=Ql O;have hr0:=(hok.fd _ hf0).1;have hq4:=BY i2.ok.ve (s:=(oU p i4.k).ou) O;have hq5:=BY i2.ok.ve (s:=(el (oU p i4.k).fl 0).k) O;have hq6:ZG i2.D (oU p i4.k).ou=Qc i2.D (oU p i4.k).ou.toNat:=rfl;have hq7:ZG i2.D (el (oU p i4.k).fl 0).k=Qc i2.D (el (oU p i4.k).fl 0).k.toNat:=rfl;have hall:∀f∈Vu (oU p i4.k),ZG i4.R f.k+ZG i2.D f.k-1<=i5.v:=λf hf=>i5.hv f (by rw[List.take_of_length_le hge5];exact hf);refine Q7 ?_;refine Ba (ι:={v:Int // v=i5.v+(if(oU p i4.k).kd=WR then ZG i2.D (oU p i4.k).ou else 0)}) [(1,_),(2,_),(5,_),(7,_),(12,_),(13,_),(14,_)] (λy4=>[]) (λy4=>[(b111,.cells ((i4.R.set (oU p i4.k).ou.toNat y4.1).map Qs++[]).toArray 3 (0,0))]) (λy4 F=>True) wZ ?_ ?_
  ·refine QKt<|QA (QH I Ks YZ)<|QA (Qy 0 (λF h9=>h9.1.1.2) rfl YZ I)<|QA (ZD I I)<|QF<|QC ?_
   refine QL I (λhc2=>?_) λhc2=>?_
   ·have hkT4:(oU p i4.k).kd=WR:=by simpa[WR]using hc2
    refine JY 15 QJ3 mixed wu wu ?_;simp only[List.take_succ_cons,List.take_zero,List.drop_succ_cons,List.drop_zero];refine QI (QD I)<|QI (QH I KI QZ)<|QI (Qy 2 (λF h9=>h9.1.1.2) rfl QZ I)<|QI (QD I)<|QI (QH I KI QZ)<|QI (Qy 2 (λF h9=>h9.1.1.2) rfl QZ I)<|QI (Qj (i:=(oU p i4.k).ou.toNat) rfl wN Qd QZ O)<|QI (Xm (c:=(i4.R.set (oU p i4.k).ou.toNat i5.v).map Qs++[]) (T':=3) rfl QZ .here (Xd (by simp only[List.length_set];omega))) ?_
    rw[hd141];refine QI (QD I)<|QI (QH I KI QZ)<|QI (Qy 2 (λF h9=>h9.1.1.2) rfl QZ I)<|QI (Qo (n:=rr.n) ((oU p i4.k).ou.toNat) (λF h9=>(by rw[hnrr];exact h9.1.1.1.1.2)) I wN Qd QZ O)<|QI (Qg (n:=rr.n) (((oU p i4.k).ou.toNat)*1) (λF h9=>(by rw[hnrr];exact h9.1.1.1.1.2)) O rfl QZ (JH (o:=i2.D) O))<|QI (Qk I I O)<|QI (Qj (i:=(oU p i4.k).ou.toNat) rfl wN Qd QZ O)<|X1<|QS (vs:=[_]) I I I QZ I .here (Z3 (by simp only[List.length_set];omega) _) wT ?_
    rw[List.set_set];refine QF ?_;exact XG (⟨i5.v+ZG i2.D (oU p i4.k).ou,by rw[if_pos hkT4]⟩)
   have hkT4:(oU p i4.k).kd≠WR:=by simpa[WR]using hc2
   refine QK ?_;exact XG (⟨i5.v,by rw[if_neg hkT4,Int.add_zero]⟩)
  intro y4;have hd190:Qc (i4.R.set (oU p i4.k).ou.toNat y4.1) (oU p i4.k).ou.toNat=y4.1:=(Ht O O O).trans (if_pos rfl);have hy4:=y4.2;have hy4b:0<=y4.1/\y4.1<=200:=by rw[hy4];split<;>omega
  refine Ba (ι:={v:Int // v=y4.1+(if(oU p i4.k).kd=Vj then ZG i2.D (el (oU p i4.k).fl 0).k else 0)}) [(1,_),(2,_),(5,_),(7,_),(12,_),(13,_),(14,_)] (λz4=>[]) (λz4=>[(b111,.cells ((i4.R.set (oU p i4.k).ou.toNat z4.1).map Qs++[]).toArray 3 (0,0))]) (λz4 F=>True) wZ ?_ ?_
  ·refine QKt<|QA (QH I Ks YZ)<|QA (Qy 0 (λF h9=>h9.1.1.1.2) rfl YZ I)<|QA (ZD I I)<|QF<|QC ?_
   refine QL I (λhc2=>?_) λhc2=>?_
   ·have hkI4:(oU p i4.k).kd=Vj:=by simpa[Vj]using hc2
    refine JY 18 QJ3 mixed wu wu ?_;simp only[List.take_succ_cons,List.take_zero,List.drop_succ_cons,List.drop_zero];refine QI (QD I)<|QI (QH I KI QZ)<|QI (Qy 2 (λF h9=>h9.1.1.1.2) rfl QZ I)<|QI (QD I)<|QI (QH I KI QZ)<|QI (Qy 2 (λF h9=>h9.1.1.1.2) rfl QZ I)<|QI (Qj (i:=(oU p i4.k).ou.toNat) rfl wN Qd QZ O)<|QI (Xm (c:=(i4.R.set (oU p i4.k).ou.toNat y4.1).map Qs++[]) (T':=3) rfl QZ .here (Xd (by simp only[List.length_set];omega))) ?_
    rw[hd190];refine QI (QD I)<|QI (QH I ZV XK)<|QI (Qy 1 (λF h9=>h9.1.1.1.2) rfl XK I)<|QI (Qo (n:=(oU p i4.k).fd.n) (0) (λF h9=>((h9.1.1.1.1.1.1.1.1.1.1.us _ (Ql (show(el (X9 p.ul) i4.k).toNat<p.ul.length from O)))).fd) rfl wN Zz YC O)<|QI (QH I GB QZ)<|QI (Qg (n:=(oU p i4.k).fd.n) ((0)*2+0) (λF h9=>((h9.1.1.1.1.1.1.1.1.1.1.us _ (Ql (show(el (X9 p.ul) i4.k).toNat<p.ul.length from O)))).fd) O rfl QZ (Q4 (f:=BV) (l:=(oU p i4.k).fl) Zw O rfl))<|QI (Qo (n:=rr.n) ((el (oU p i4.k).fl 0).k.toNat) (λF h9=>(by rw[hnrr];exact h9.1.1.1.1.1.2)) I wN Qd QZ O)<|QI (Qg (n:=rr.n) (((el (oU p i4.k).fl 0).k.toNat)*1) (λF h9=>(by rw[hnrr];exact h9.1.1.1.1.1.2)) O rfl QZ (JH (o:=i2.D) O))<|QI (Qk I I O)<|QI (Qj (i:=(oU p i4.k).ou.toNat) rfl wN Qd QZ O)<|X1<|QS (vs:=[_]) I I I QZ I .here (Z3 (by simp only[List.length_set];omega) _) wT ?_
    rw[List.set_set];refine QF ?_;exact XG (⟨y4.1+ZG i2.D (el (oU p i4.k).fl 0).k,by rw[if_pos hkI4]⟩)
   have hkI4:(oU p i4.k).kd≠Vj:=by simpa[Vj]using hc2
   refine QK ?_;exact XG (⟨y4.1,by rw[if_neg hkI4,Int.add_zero]⟩)
  intro z4;have hd205:Qc (i4.R.set (oU p i4.k).ou.toNat z4.1) (oU p i4.k).ou.toNat=z4.1:=(Ht O O O).trans (if_pos rfl);have hz4:=z4.2;have hz4b:0<=z4.1:=by rw[hz4];split<;>omega
  refine wS I<|QA (QH I KI QZ)<|QA (Qy 2 (λF h9=>h9.1.1.1.1.2) rfl QZ I)<|QA (Qj (i:=(oU p i4.k).ou.toNat) rfl wN Qd QZ O)<|QA (Xm (c:=(i4.R.set (oU p i4.k).ou.toNat z4.1).map Qs++[]) (T':=3) rfl QZ .here (Xd (by simp only[List.length_set];omega))) ?_
  rw[hd205];refine QLi 4 I ?_;refine QL I (λhc2=>?_) λhc2=>?_
  ·refine wA 5 I<|X6 ?_
   exact QM (false) rfl (wO rfl) (rfl) λF ⟨⟨⟨⟨⟨⟨⟨⟨⟨⟨⟨hP,hz2⟩,_⟩,h45⟩,_⟩,hrow⟩,_⟩,hz14⟩,_⟩,_⟩,_⟩,_⟩ h=>by cases h
  refine QK<|Qa<|QLk 3 I<|QA (Qk I I O)<|wB 2 I ?_
  exact Qb (⟨i4.k+1,i4.R.set (oU p i4.k).ou.toNat z4.1,i4.ok.next hV hlt4 hz4b (wm<|QK9 hc2) λf hf=>by have h1:=hall f hf;have h2:=QIn (D:=i2.D) (u:=(oU p i4.k)) hq5.1;show _+xD i2.D (oU p i4.k)<=_;omega⟩)
 have hge4:p.ul.length<=i4.k:=wm<|QK9 hc2
 refine Q7 ?_;refine wA 6 I ?_;exact QM (true) rfl (wO I) (rfl) λF ⟨⟨⟨⟨⟨⟨hP,hz2⟩,_⟩,h45⟩,_⟩,hrow⟩,_⟩ h=>⟨_,_,Ty.of hV i2.ok i4.ok hge2 hge4⟩
structure UnF(u:Xe):Prop where
 st:D4 u.st 6=true
 cn:u.cl.length<=4
 cl:∀a∈u.cl,D4 a 3=true
 fl:∀f∈u.fl,D4 f.r 3=true
structure UH(p:ZL)(n:Nat):Prop where
 v:RE p
 un:p.ul.length<=n
 sh:p.sh<=n+1
 us:∀u∈p.ul,UnF u
 lw:∃D R,Ty p D R
 z:KL p=0
theorem QCn{p:ZL}{n:Nat}(hF:Fits F w)(hP:KO F p)(hL:k6 p)(hn:n<=1000):QQ prog 54 [p.v,.int .i64 (n:Nat)] w F (λ(b:Bool)=>.bool b) (λb F=>b=true->UH p n):=by
 have LU:=hP.MK;have hLu:=hL.un;refine QQ.go (G:=λF=>KO F p) func54 hF hP ?_;refine QKt<|Q8 I (vs:=[_,_,_]) I λb2=>wR I<|Jf (b:=b2) .here ?_
 refine Ft (ι:=PLift (KL p=0/\p.ul.length<=n/\p.sh<=n+1)) [(2,_)] (λkl=>[]) (λkl=>[]) (λkl F=>True) (by exact wT) ?_ ?_
 ·refine QKt<|QA (QH I XS Jj)<|QA (Qy 1 tE rfl Jj I)<|QA (QW I Xr)<|wB 3 I ?_
  refine Qn (t:=13) rfl (λhb13=>?_) λhb13=>?_
  ·refine QLi 13 I<|ZB I<|wA 6 I ?_
   exact QM (false) rfl (wO rfl) (rfl) λF ⟨hP,hz2⟩ h=>by cases h
  refine QP I I<|QA (QH I WT QZ)<|QP I I<|QA (Qy 0 tE rfl QZ I)<|wB 3 I<|QA (Qk I I O)<|wB 4 I ?_
  refine Qn (t:=20) rfl (λhb20=>?_) λhb20=>?_
  ·refine QLi 6 I<|ZB I<|wA 6 I ?_
   exact QM (false) rfl (wO rfl) (rfl) λF ⟨hP,hz2⟩ h=>by cases h
  refine QP I I<|QA (Z7 tE rfl Zf I)<|QP I I<|QJ I (λ_ _ f k=>vj f k.1 hL) λ_=>QLi 5 I ?_
  refine QL I (λhc2=>?_) λhc2=>?_
  ·refine wA 6 I ?_;exact QM (false) rfl (wO rfl) (rfl) λF ⟨⟨hP,hz2⟩,_⟩ h=>by cases h
  refine QK ?_;exact P7 (⟨by simpa using hc2,by simp at hb13;omega,by simp at hb20;omega⟩)
 intro kl;obtain⟨hz0,hun,hshn⟩:=kl.down;have hV:=RE.of hz0;refine QG<|QKt<|wR rfl<|QO<|Jo (ι:=QGb p.ul UnF) [(2,_)] (λi=>[(5,.int .i64 ((i.i:Nat):Int))]) (λi=>p.ul.length-i.i) (⟨0,Nat.zero_le _,λx h=>by cases h⟩) wT wT λi=>?_
 have hi:=i.le;refine wA 4 I<|QA (QH I XS Jj)<|QA (Qy 1 (λF h9=>h9.1.2) rfl Jj I)<|QA (QW I Xr)<|QLi 3 I ?_
 refine QL I (λhc2=>?_) λhc2=>?_
 ·have hlt:i.i<p.ul.length:=wm<|QK8 hc2
  have hfu:=(hP.us _ (Ql hlt)).MQ;have hf8:=Z5 (hV.us _ (Ql hlt));refine QLj 6 I<|QA (QH I XS Jj)<|QA (Qy 1 (λF h9=>h9.1.2) rfl Jj I)<|QJj I<|QA (Qo (n:=p.un.n) i.i (λF h9=>h9.1.1.un) rfl rfl Xr XJ O)<|QA (JG (n:=p.un.n) (vs:=[tx (el p.ul i.i).kd,.slice (el p.ul i.i).fd.q (el p.ul i.i).fd.n (el p.ul i.i).fd.cap,Qs ((el p.ul i.i).ou),tx (el p.ul i.i).st,.slice (el p.ul i.i).cv.q (el p.ul i.i).cv.n (el p.ul i.i).cv.cap]) ((i.i)*5) (λF h9=>h9.1.1.un) O rfl XJ I λj v hv=>Q4 (f:=MJ) (l:=p.ul) ZO O hv)<|Qe Ni λb6=>QS (vs:=[_,_,_,_,_]) I I I XJ I .here .h5 wX<|QJi<|Jf (b:=b6) .here ?_
  refine Ft (ι:=PLift (D4 (el p.ul i.i).st 6=true/\(el p.ul i.i).cl.length<=4/\∀a∈(el p.ul i.i).cl,D4 a 3=true)) [(2,_),(5,_),(6,_)] (λk7=>[]) (λk7=>[]) (λk7 F=>True) (by exact wV) ?_ ?_
  ·refine QKt<|QA (QH I Bv JP)<|QA (Qy 3 tE rfl JP I)<|QJ I (λ_ _ f k=>qh f wv) λ_=>QA (YD I)<|QJj I ?_
   refine Qn (t:=41) rfl (λhb41=>?_) λhb41=>?_
   ·refine QLi 7 I<|ZB I<|wA 5 I<|X6 ?_
    exact QM (false) rfl (wO rfl) (rfl) λF ⟨⟨⟨⟨hP,hz2⟩,_⟩,hz6⟩,_⟩ h=>by cases h
   refine QP I I<|QA (QH I H8 KR)<|QP I I<|QA (Qy 4 (λF h9=>h9.1.2) rfl KR I)<|QP I I<|QJ I (λw F hF ⟨⟨⟨⟨hP,hz2⟩,_⟩,hz6⟩,_⟩=>uU hF (hP.us _ (Ql hlt)).cv (hP.us _ (Ql hlt)).RA wv (by have:=Hm (hV.us _ (Ql hlt));have:=(hP.us _ (Ql hlt)).RA;omega)) λ_=>QP I I<|QA (YD I)<|QLi 3 I ?_
   refine QL I (λhc2=>?_) λhc2=>?_
   ·refine wA 5 I<|X6 ?_
    exact QM (false) rfl (wO rfl) (rfl) λF ⟨⟨⟨⟨⟨hP,hz2⟩,_⟩,hz6⟩,_⟩,_⟩ h=>by cases h
   refine QK ?_;exact P7 (⟨by simpa using hb41,by simp at hc2;have:=(hP.us _ (Ql hlt)).RA;omega,by simp at hc2;exact hc2.2⟩)
  intro k7;obtain⟨hst,hcn,hcl⟩:=k7.down;refine QKt<|wR rfl<|QO<|Jo (ι:=QGb (el p.ul i.i).fl λf=>D4 f.r 3=true) [(2,_),(5,_),(6,_)] (λi2=>[(7,.int .i64 ((i2.i:Nat):Int))]) (λi2=>(el p.ul i.i).fl.length-i2.i) (⟨0,Nat.zero_le _,λx h=>by cases h⟩) wV wT λi2=>?_
  have hi2:=i2.le;refine wA 4 I<|QA (QH I ZV XK)<|QA (Qy 1 (λF h9=>h9.1.2) rfl XK I)<|QA (QW I Zz)<|QLi 3 I ?_
  refine QL I (λhc2=>?_) λhc2=>?_
  ·have hlt2:i2.i<(el p.ul i.i).fl.length:=wm<|QK8 hc2
   refine QLj 6 I<|QA (QH I ZV XK)<|QA (Qy 1 (λF h9=>h9.1.2) rfl XK I)<|QJj I<|QA (Qo (n:=(el p.ul i.i).fd.n) (i2.i) (λF h9=>((h9.1.1.1.1.us _ (Ql (show i.i<p.ul.length from O)))).fd) rfl rfl Zz YC O)<|QA (QH I Gc JP)<|QA (Qg (n:=(el p.ul i.i).fd.n) ((i2.i)*2+1) (λF h9=>((h9.1.1.1.1.us _ (Ql (show i.i<p.ul.length from O)))).fd) O rfl JP (Q4 (f:=BV) (l:=(el p.ul i.i).fl) Zw O rfl))<|QJ I (λ_ _ f k=>qh f wv) λ_=>QA (YD I)<|QF<|QC ?_
   refine QL I (λhc2=>?_) λhc2=>?_
   ·refine wA 5 I<|X6 ?_
    exact QM (false) rfl (wO rfl) (rfl) λF ⟨⟨⟨⟨⟨hP,hz2⟩,_⟩,hz6⟩,_⟩,_⟩ h=>by cases h
   refine QK<|Qa<|QLk 3 I<|QA (Qk I I O)<|wB 2 I ?_
   exact Qb (⟨i2.i+1,hlt2,cZ hlt2 i2.ok (by simpa using hc2)⟩)
  have hge2:(el p.ul i.i).fl.length<=i2.i:=wm<|QK9 hc2
  refine Q7 ?_;refine wA 2 I<|QA (Qk I I O)<|wB 2 I ?_
  exact Qb (⟨i.i+1,hlt,cZ hlt i.ok ⟨hst,hcn,hcl,i2.stop hge2⟩⟩)
 have hge:p.ul.length<=i.i:=wm<|QK9 hc2
 refine Q7 ?_;refine QKt<|QA (Z7 (λF h9=>h9.1.2) rfl Zf I)<|QJ I (λ_ _ f k=>QHS f k.1.1 hV O) λc63=>wR I<|QT ?_
 exact QM (c63) rfl (wO I) (rfl) λF ⟨⟨⟨hP,hz2⟩,_⟩,h63⟩ h=>⟨hV,hun,hshn,i.stop hge,h63 h,hz0⟩
structure Rb(F c:Nat)(q:Rat):Prop where
 pos:0<F
 ex:∃z:Int,q=Rat.divInt z F/\z.natAbs<=F*c
theorem Rb.lift{F:Nat}{q:Rat}(h:Rb F c q)(k:0<G):Rb (F*G) c q:=by
 obtain⟨z,e,h1⟩:=h.ex;refine⟨Nat.mul_pos h.pos k,z*G,?_,?_⟩
 ·grind[Int.natCast_mul,Rat.divInt_mul_right]
 rw[Int.natAbs_mul,Int.natAbs_natCast,Nat.mul_right_comm];exact Nat.mul_le_mul_right _ h1
def Rb.dvd{F:Nat}{q:Rat}(h:Rb F c q)(k:F ∣ G)(h0:0<G):Rb G c q:=by
 obtain⟨g,rfl⟩:=k;exact h.lift (Nat.pos_of_mul_pos_left h0)
theorem Rb.mono{F d:Nat}{q:Rat}(h:Rb F c q)(k:c<=d):Rb F d q:=by
 obtain⟨z,e,h1⟩:=h.ex;exact⟨h.pos,z,e,Nat.le_trans h1 (Nat.mul_le_mul_left _ k)⟩
def Rb.of{F:Nat}{q:Rat}(hd:q.den ∣ F)(h0:0<F)(hq:q.num.natAbs<=q.den*c):Rb F c q :=
 (⟨q.den_pos,q.num,(Rat.num_divInt_den q).symm,hq⟩:Rb q.den c q).dvd hd h0
theorem Rb.sub{F d:Nat}{q r:Rat}(h:Rb F c q)(k:Rb F d r):Rb F (c+d) (q-r):=by
 obtain⟨z,rfl,h1⟩:=h.ex;obtain⟨y,rfl,h2⟩:=k.ex;refine⟨h.pos,z + -y,?_,?_⟩
 ·rw[Rat.sub_eq_add_neg,Rat.neg_divInt,qK h.pos]
 grind
theorem Rb.mul{F d:Nat}{q r:Rat}(h:Rb F c q)(k:Rb G d r):Rb (F*G) (c*d) (q*r):=by
 obtain⟨z,rfl,h1⟩:=h.ex;obtain⟨y,rfl,h2⟩:=k.ex;refine⟨Nat.mul_pos h.pos k.pos,z*y,by rw[Rat.divInt_mul_divInt,Int.natCast_mul],?_⟩;rw[Int.natAbs_mul]
 calc z.natAbs*y.natAbs<=(F*c)*(G*d):=Nat.mul_le_mul h1 h2
  _=F*G*(c*d):=by grind
theorem Rb.XH{F c y:Nat}{q:Rat}(h:Rb F c q)(hx:sz (F:Int)<=x)(hy:sz (c:Int)<=y):YteldggljlnakmaaGreatDoor.XH q<=x+y:=by
 obtain⟨z,rfl,h1⟩:=h.ex;have h0:=h.pos;refine Nat.le_trans (Ko O) ?_;have h2:sz z<=sz ((F:Int)*(c:Int)):=Lh O
 grind[Zi]
theorem Rb.const{F k:Nat}{q:Rat}(h:Rb F c q):Db F c (Ha q k):=by
 unfold Ha;split
 ·exact Db.nil h.pos c
 obtain⟨z,rfl,h1⟩:=h.ex;exact⟨h.pos,[(z,List.replicate k 0)],rfl,by trivial⟩
theorem Rb.scl{F d:Nat}{q:Rat}{L:List Tm}(h:Rb G c q)(k:Db F d L):Db (G*F) (c*d) (Ek q L):=by
 obtain⟨y,rfl,h1⟩:=h.ex;obtain⟨Z,rfl,h2⟩:=k.ex;refine⟨Nat.mul_pos h.pos k.pos,Z.map λz=>(y*z.1,z.2),?_,?_⟩
 ·rw[List.map_map,Ek,List.map_map];refine List.map_congr_left λz _=>?_;show(Rat.divInt y G*Rat.divInt z.1 F,z.2)=(Rat.divInt _ ((G*F:Nat):Int),z.2);rw[Int.natCast_mul,Rat.divInt_mul_divInt]
 rw[vD y.natAbs _ (λz=>by simp[Int.natAbs_mul])]
 calc y.natAbs*zS Z<=(G*c)*(F*d):=Nat.mul_le_mul h1 h2
  _=(G*F)*(c*d):=by grind
def QBJ{d F:Nat}(h:D4 s (d:Int)=true)(hz:10^d<=2^z)(hd:(Jc s).den ∣ F)(h0:0<F):Rb F (2^z) (Jc s):=by
 have h1:=dZ h hz;refine Rb.of hd h0 (Nat.le_trans (Nat.le_of_lt ((XA _ z).1 (Nat.le_trans (JU _) h1))) (Nat.le_mul_of_pos_left _ (Jc s).den_pos))
def dY{d:Nat}(h:D4 s (d:Int)=true)(hz:10^d<=2^z):sz ((Jc s).den:Int)<=z:=Nat.le_trans (JQ _) (dZ h hz)
def gL:List Rat->Nat
 |[]=>1
 |q::l=>q.den*gL l
theorem Da:∀l,0<gL l
 |[]=>Nat.one_pos
 |q::l=>Nat.mul_pos q.den_pos (Da l)
theorem dQ:∀ {l:List Rat} {q:Rat},q∈l->q.den ∣ gL l
 |x::l,q,h=>by
  rcases List.mem_cons.1 h with rfl | h
  ·exact Nat.dvd_mul_right _ _
  exact Nat.dvd_trans (dQ h) (Nat.dvd_mul_left _ _)
theorem QCD:∀ {l:List Rat},(∀q∈l,sz (q.den:Int)<=z)->sz ((gL l:Nat):Int)<=l.length*z+1
 |[],_=>by simp;decide
 |q::l,h=>by
  have h1:=QCD λx hx=>h x (List.mem_cons_of_mem _ hx);have h2:=h q (List.mem_cons_self ..);have h3:=uE q.den (gL l);simp only[gL,List.length_cons,Nat.add_mul,Nat.one_mul];omega
def gF(u:Xe):Nat:=gL (u.fl.map λf=>Jc f.r)
def gC(u:Xe):Nat:=gL (u.cl.map Jc)
def gU(u:Xe):Nat:=gF u*gC u
def gS(p:ZL):Nat:=gL (p.ul.map λu=>Jc u.st)
theorem QG2{u:Xe}(h:UnF u):sz ((gF u:Nat):Int)<=u.fl.length*10+1:=by
 have:=QCD (z:=10) λq hq=>by
  obtain⟨f,hf,rfl⟩:=List.mem_map.1 hq;exact dY (h.fl f hf) wv
 grind[gF]
theorem QJO{u:Xe}(h:UnF u):sz ((gC u:Nat):Int)<=41:=by
 have:=QCD (z:=10) λq hq=>by
  obtain⟨f,hf,rfl⟩:=List.mem_map.1 hq;exact dY (h.cl f hf) wv
 have h2:=h.cn
 grind[gC,List.length_map]
def QH4(u:Xe):0<gU u:=Nat.mul_pos (Da _) (Da _)
theorem QJM{u:Xe}(h:UnF u)(hk:WV sh u):sz ((gU u:Nat):Int)<=123:=by
 have h1:=QG2 h;have h2:=QJO h;have h3:=uE (gF u) (gC u);grind[Z5,gU]
theorem QJN{p:ZL}(h:∀u∈p.ul,UnF u):sz ((gS p:Nat):Int)<=p.ul.length*20+1:=by
 have:=QCD (z:=20) λq hq=>by
  obtain⟨f,hf,rfl⟩:=List.mem_map.1 hq;exact dY (h f hf).st wv
 grind[gS]
theorem QEj(h:UnF u){f:F2}(hf:f∈u.fl):Rb (gF u) 1024 (Jc f.r):=QBJ (z:=10) (h.fl f hf) wv (dQ (List.mem_map_of_mem hf)) (Da _)
theorem QKN(h:UnF u){a:List UInt8}(ha:a∈u.cl):Rb (gC u) 1024 (Jc a):=QBJ (z:=10) (h.cl a ha) wv (dQ (List.mem_map_of_mem ha)) (Da _)
theorem QIw{p:ZL}(h:∀u∈p.ul,UnF u){u:Xe}(hu:u∈p.ul):Rb (gS p) 1048576 (Jc u.st):=QBJ (z:=20) (h u hu).st wv (dQ (List.mem_map_of_mem hu)) (Da _)
theorem QFU:∀s∈UE sh us,s=[48]\/∃u∈us,s=u.st:=by
 have hg:∀(us:List Xe) (l:List _),∀s∈us.foldl (λl u=>l.set u.ou.toNat u.st) l,s∈l\/∃u∈us,s=u.st:=λus=>by
  induction us<;>grind[List.mem_or_eq_of_mem_set,List.mem_cons_self,List.mem_cons_of_mem]
 intro s hs;rcases hg us _ s hs with h | h
 all_goals simp_all
def QIo:Jc [48]=0:=wy
theorem QIv{p:ZL}(h:∀u∈p.ul,UnF u){s:List UInt8}(hs:s∈UE p.sh p.ul):Rb (gS p) 1048576 (Jc s):=by
 rcases QFU s hs with rfl | ⟨u,hu,rfl⟩
 ·rw[QIo];exact⟨Da _,0,w9,w9⟩
 grind[QIw]
def K2(p:ZL)(k:Nat):Nat:=((X9 p.ul).take k).countP λx=>!P8 (el p.ul x.toNat)
def qR(p:ZL)(k:Nat):Nat:=((X9 p.ul).take k).countP λx=>P8 (el p.ul x.toNat)
def wK(p:ZL):Nat->Nat
 |0=>gS p
 |k+1=>if P8 (oU p k)then wK p k else wK p k*gU (oU p k)
def mK(a:Nat):Nat:=2^(40+30*a)
theorem QFp(a:Nat):mK (a+1)=2^30*mK a:=by unfold mK;grind
def AK(a:Nat):0<mK a:=Nat.pow_pos wv
def QJI(a:Nat):2^40<=mK a:=Nat.pow_le_pow_right wv O
theorem QGz(a:Nat):sz ((mK a:Nat):Int)<=41+30*a:=(XA _ _).2 (by exact Nat.pow_lt_pow_right wv O)
theorem MI(p:ZL):∀k,0<wK p k
 |0=>Da _
 |k+1=>by
  have:=MI p k;rw[wK];split
  all_goals simp_all[Nat.mul_pos,QH4]
theorem QHB(p:ZL):∀k,gS p ∣ wK p k
 |0=>Nat.dvd_refl _
 |k+1=>by
  have:=QHB p k
  grind[wK,Nat.dvd_trans,Nat.dvd_mul_right]
theorem Fk{p:ZL}{k:Nat}(h:k<(X9 p.ul).length):K2 p (k+1)=K2 p k+(if P8 (oU p k)then 0 else 1):=by
 unfold K2;rw[Hb h];show _+(if(!P8 (oU p k))=true then 1 else 0)=_
 grind
theorem Ck{p:ZL}{k:Nat}(h:k<(X9 p.ul).length):qR p (k+1)=qR p k+(if P8 (oU p k)then 1 else 0):=by
 unfold qR;rw[Hb h];rfl
theorem QGP(p:ZL)(k:Nat)(h:k<=(X9 p.ul).length):K2 p k+qR p k=k:=by
 induction k with
 |zero=>rfl
 |succ k ih =>
  grind[Fk,Ck,P8,oU]
section
variable{p:ZL}{n:Nat}(h:UH p n)
include h
theorem UH.QJV:YteldggljlnakmaaGreatDoor.qR p p.ul.length=Yq p.ul:=by
 have hI:=gH p.ul;have h2:(X9 p.ul).Perm (D6 p.ul.length):=(List.perm_ext_iff_of_nodup hI.nd (by
  unfold D6;rw[List.Nodup,List.pairwise_map];exact List.nodup_range.imp λhne e=>hne O)).2 λx=>⟨λhx=>by
   have:=hI.rg x hx;rw[show x=((x.toNat:Nat):Int) by omega];exact L6.2 O,λhx=>by
   obtain⟨k,hk,rfl⟩:=List.mem_map.1 hx;have:=h.v.all _ (Nat.le_refl _) (el p.ul k).ou;have hk2:=List.mem_range.1 hk;rcases this with g | g
   ·rw[h.v.BW hk2]at g;omega
   rw[h.v.BW hk2]at g;grind⟩
 unfold YteldggljlnakmaaGreatDoor.qR;rw[List.take_of_length_le (by rw[h.v.ord];omega),h2.countP_eq];unfold D6 Yq;rw[List.countP_map]
 conv=>rhs;rw[<-Mp p.ul,List.countP_map]
 rfl
theorem UH.qR{k:Nat}(hk:k<=p.ul.length):YteldggljlnakmaaGreatDoor.qR p k<=Yq p.ul:=by
 rw[<-h.QJV];exact(List.take_sublist_take_left hk).countP_le
theorem UH.K2{k:Nat}(hk:k<=p.ul.length):YteldggljlnakmaaGreatDoor.K2 p k+Yq p.ul<=p.ul.length:=by
 have h1:=QGP p (p.ul.length) (by rw[h.v.ord];omega);have h2:YteldggljlnakmaaGreatDoor.K2 p k<=YteldggljlnakmaaGreatDoor.K2 p _:=(List.take_sublist_take_left hk).countP_le;rw[h.QJV]at h1;omega
theorem UH.wsz{k:Nat}(hk:k<=p.ul.length):sz ((wK p k:Nat):Int)<=p.ul.length*20+1+123*YteldggljlnakmaaGreatDoor.K2 p k:=by
 induction k with
 |zero=>exact Nat.le_trans (QJN h.us) (Nat.le_add_right _ _)
 |succ k ih =>
  rw[Fk (by rw[h.v.ord];omega),wK];split
  ·omega
  have h2:=QJM (h.us _ (h.v.mem (show k<p.ul.length by omega))) (h.v.ok (show k<p.ul.length by omega))
  grind[uE,wK,gU,oU]
end
def vF(p:ZL)(R:List Int)(v:Nat):Int:=Qc (0::(p.ul.filter P8).map λu=>ZG R u.ou) v
theorem Fg{l:List Xe}(h:i<l.length)(hi:P8 (el l i)=true):∃hh,(l.filter P8)[(l.take i).countP P8]'hh=el l i:=by
 have e:l=l.take i++el l i::l.drop (i+1):=by
  rw[J8 h,<-List.drop_eq_getElem_cons h,List.take_append_drop]
 have e2:l.filter P8=(l.take i).filter P8++el l i::(l.drop (i+1)).filter P8:=by
  conv=>lhs;rw[e]
  rw[List.filter_append,List.filter_cons,if_pos hi]
 have e3:((l.take i).filter P8).length=(l.take i).countP P8:=List.countP_eq_length_filter.symm;refine⟨by rw[e2,List.length_append,List.length_cons];omega,?_⟩;simp only[e2];rw[List.getElem_append_right O];simp[e3]
theorem QGf{p:ZL}(h:i<p.ul.length)(hi:P8 (el p.ul i)=true):vF p R (Yq (p.ul.take i)+1)=ZG R (el p.ul i).ou:=by
 obtain⟨hh,e⟩:=Fg h hi;unfold vF Yq;rw[BN (by rw[List.length_cons,List.length_map];omega)];simp only[List.getElem_cons_succ,List.getElem_map];rw[e]
theorem QDZ{p:ZL}(hv:RE p)(hL:Ty p D R)(v:Nat):0<=vF p R v/\vF p R v<=6:=by
 unfold vF;by_cases h:v<(0::(p.ul.filter P8).map λu=>ZG R u.ou).length
 ·rw[BN h];have hm:=List.getElem_mem h;rcases List.mem_cons.1 hm with e | e
  ·rw[e];decide
  obtain⟨u,hu,e⟩:=List.mem_map.1 e;rw[<-e];have ho:=(hv.us u (List.mem_filter.1 hu).1).ou;exact hL.QCm _ O ho.2
 rw[Ez O];decide
def Fm(hy:y≠0):Canon [(y,k)]:=⟨List.pairwise_singleton _ _,λt ht=>by rw[List.mem_singleton.1 ht];exact hy⟩
theorem Pb.nil{F:Nat}{d:Int}{r:Int}(h:0<F):Pb N F c d V r []:=⟨Db.nil h c,λt ht=>by cases ht⟩
def Pb.var{F v:Nat}{d:Int}{r:Int}(h:0<F)(hc:0<c)(hv:v<N)(hd:1<=d)(hr:V v<=r):Pb N F c d V r [(1,(List.replicate N (0:Int)).set v 1)] :=
 ⟨Db.one h (by show(1:Nat) ∣ F;exact Nat.one_dvd F) (by show 1<=1*c;omega),λt ht=>by rw[List.mem_singleton.1 ht];exact Pg.var hv hd hr⟩
def Pb.const{F:Nat}{d:Int}{r:Int}{q:Rat}(h:Rb F c q)(hd:0<=d):Pb N F c d V r (Ha q N):=⟨h.const,λt ht=>by
 unfold Ha at ht;split at ht
 ·cases ht
 rw[List.mem_singleton.1 ht];exact Pg.zero hd⟩
def Pb.dvd{F:Nat}{d:Int}{r:Int}{L:List Tm}(h:Pb N F c d V r L)(k:F ∣ G)(h0:0<G):Pb N G c d V r L:=⟨h.db.dvd k h0,h.pg⟩
def Pb.scl{F e:Nat}{d:Int}{r:Int}{q:Rat}{L:List Tm}(h:Rb G e q)(k:Pb N F c d V r L):Pb N (G*F) (e*c) d V r (Ek q L):=⟨h.scl k.db,k.pg.scl⟩
def Pb.prod{F e:Nat}{d f:Int}{r:Int}{A B:List Tm}(h:Pb N F c d V r A)(k:Pb N G e f V r B):Pb N (F*G) (c*e) (d+f) V r (XL A B):=⟨h.db.prod k.db,h.pg.prod k.pg (Int.le_refl _) (Int.le_refl _)⟩
structure Sv(p:ZL)(D R:List Int)(k:Nat)(Sh:List (List Tm)):Prop where
 len:Sh.length=p.sh.toNat
 pb:∀s:Int,0<=s->s<p.sh->Pb (Yq p.ul+1) (wK p k^(ZG D s).toNat) (mK (K2 p k)^(ZG D s).toNat) (ZG D s) (vF p R) (ZG R s) (el Sh s.toNat)/\Canon (el Sh s.toNat)
theorem Tj[Inhabited α]{l:List α}{i j:Nat}{x:α}(h:i<l.length):el (l.set i x) j=if j=i then x else el l j:=by
 by_cases hj:j<l.length
 ·rw[J8 (by rw[List.length_set];exact hj),List.getElem_set];by_cases e:i=j
  ·rw[if_pos e,if_pos e.symm]
  rw[if_neg e,if_neg (Ne.symm e),J8 hj]
 rw[if_neg O];simp only[el,List.getD_eq_getElem?_getD];rw[List.getElem?_eq_none (by rw[List.length_set];omega),List.getElem?_eq_none O]
theorem QBM{a n:Nat}(h:1<=n):a ∣ a^n:=by have:=Nat.pow_dvd_pow a h;rwa [Nat.pow_one]at this
theorem Sv.put{p:ZL}{k:Nat}{Sh:List (List Tm)}(h:Sv p D R k Sh){o:Int}(ho:0<=o/\o<p.sh){L:List Tm}(hL:Pb (Yq p.ul+1) (wK p k^(ZG D o).toNat) (mK (K2 p k)^(ZG D o).toNat) (ZG D o) (vF p R) (ZG R o) L)(hc:Canon L):Sv p D R k (Sh.set o.toNat L) :=
 ⟨by rw[List.length_set];exact h.len,λs h0 h1=>by
  rw[Tj (by rw[h.len];omega)];by_cases e:s=o
  ·subst e;rw[if_pos rfl];exact⟨hL,hc⟩
  rw[if_neg O];exact h.pb s h0 h1⟩
def Sv.start{p:ZL}(hL:Ty p D R)(hs:1<=p.sh):Sv p D R 0 ((List.replicate p.sh.toNat []).set 0 [(1,(List.replicate (Yq p.ul+1) (0:Int)).set 0 1)]):=by
 have hw:=MI p 0;have h:Sv p D R 0 (List.replicate p.sh.toNat []):=⟨w9,λs h0 h1=>by
  rw[J8 tA,List.getElem_replicate];exact⟨Pb.nil (Nat.pow_pos hw),Canon.nil⟩⟩
 have hd:=hL.yx 0 (Int.le_refl 0) O;exact h.put (o:=0) ⟨Int.le_refl 0,O⟩ (Pb.var (Nat.pow_pos hw) (Nat.pow_pos (AK _)) O hd.1 (by show Qc (0::_) 0<=_;exact(hL.QCm 0 (Int.le_refl 0) O).1)) (Fm wv)
def Sv.var{p:ZL}{Sh:List (List Tm)}(h:Sv p D R 0 Sh)(hv:RE p)(hL:Ty p D R){i:Nat}(hi:i<p.ul.length)(hI:P8 (el p.ul i)=true):Sv p D R 0 (Sh.set (el p.ul i).ou.toNat [(1,(List.replicate (Yq p.ul+1) (0:Int)).set (Yq (p.ul.take i)+1) 1)]):=by
 have ho:=hv.ou hi;have hd:=hL.yx (el p.ul i).ou O ho.2;have hn:Yq (p.ul.take i)<Yq p.ul:=by
  obtain⟨hh,_⟩:=Fg hi hI;rw[<-List.countP_eq_length_filter]at hh;exact hh
 exact h.put ⟨O,ho.2⟩ (Pb.var (Nat.pow_pos (MI p 0)) (Nat.pow_pos (AK _)) O hd.1 (by rw[QGf hi hI];exact Int.le_refl _)) (Fm wv)
theorem Sv.skip{p:ZL}{k:Nat}{Sh:List (List Tm)}(h:Sv p D R k Sh)(hv:RE p)(hk:k<p.ul.length)(hI:P8 (oU p k)=true):Sv p D R (k+1) Sh:=by
 have e1:wK p (k+1)=wK p k:=by rw[wK,if_pos hI]
 have e2:K2 p (k+1)=K2 p k:=by rw[Fk (by rw[hv.ord];exact hk),if_pos hI];rfl
 exact⟨h.len,λs h0 h1=>by rw[e1,e2];exact h.pb s h0 h1⟩
section
variable{p:ZL}{D R:List Int}{k:Nat}{Sh:List (List Tm)}(hv:RE p)(hk:k<p.ul.length)(hI:P8 (oU p k)=false)
include hv hk hI
theorem QFM:wK p (k+1)=wK p k*gU (oU p k):=by rw[wK,if_neg (by rw[hI];decide)]
theorem QFq:mK (K2 p (k+1))=2^30*mK (K2 p k):=by
 rw[Fk (by rw[hv.ord];exact hk),if_neg (by rw[hI];decide),QFp]
theorem Sv.next(h:Sv p D R k Sh){L:List Tm}(hL:Pb (Yq p.ul+1) (wK p (k+1)^(ZG D (oU p k).ou).toNat) (mK (K2 p (k+1))^(ZG D (oU p k).ou).toNat) (ZG D (oU p k).ou) (vF p R) (ZG R (oU p k).ou) L)(hc:Canon L):Sv p D R (k+1) (Sh.set (oU p k).ou.toNat L):=by
 have ho:=(hv.ok hk).ou;have h1:Sv p D R (k+1) Sh:=⟨h.len,λs h0 h1=>by
  refine⟨((h.pb s h0 h1).1.mono ?_ (Int.le_refl _) (Int.le_refl _)).dvd ?_ (Nat.pow_pos (MI p _)),(h.pb s h0 h1).2⟩
  ·rw[QFq hv hk hI];exact Nat.pow_le_pow_left (Nat.le_mul_of_pos_left _ wv) _
  rw[QFM hv hk hI];rw[Nat.mul_pow];exact Nat.dvd_mul_right _ _⟩
 exact h1.put ⟨O,ho.2⟩ hL hc
end
structure Og(p:ZL)(D R:List Int)(k i:Nat)(SL:List Tm)(c:Rat):Prop where
 pb:Pb (Yq p.ul+1) (wK p (k+1)^(ZG D (oU p k).ou).toNat) (i*(1024*mK (K2 p k)^(ZG D (oU p k).ou).toNat)) (ZG D (oU p k).ou) (vF p R) (ZG R (oU p k).ou) SL
 cn:Canon SL
 cb:Rb (wK p (k+1)) (1048576+i*1073741824) c
def Ad(h:u.kd≠Vj):P8 u=false:=by unfold P8;simpa using h
section
variable{p:ZL}{n:Nat}{D R:List Int}{k:Nat}{Sh:List (List Tm)}(hM:UH p n)(hn:n<=8)(hL:Ty p D R)(hk:k<p.ul.length)(hI:(oU p k).kd≠Vj)
include hM hL hk
theorem dn1:1<=(ZG D (oU p k).ou).toNat/\(ZG D (oU p k).ou).toNat<=6:=by
 have ho:=(hM.v.ok hk).ou;have:=hL.yx (oU p k).ou O ho.2;omega
include hI
theorem QCE{f:F2}(hf:f∈(oU p k).fl):(0<=f.k/\f.k<p.sh)/\(1<=ZG D f.k/\ZG D f.k<=6)/\ZG D f.k*tm (oU p k)<=ZG D (oU p k).ou/\ZG D f.k<=ZG D (oU p k).ou/\ZG R f.k<=ZG R (oU p k).ou:=by
 have h1:=hM.v.fr hk hf;have h2:=(hL.un k hk).1 hI f hf;have h3:=(hL.un k hk).2 f (by rw[L9 hI];exact hf);have h4:=hL.yx f.k h1.1 h1.2;have h5:ZG D f.k*1<=ZG D f.k*tm (oU p k):=Int.mul_le_mul_of_nonneg_left QDh O;have ho:=(hM.v.ok hk).ou;have h6:=hL.yx (oU p k).ou O ho.2;have h7:0<=xD D (oU p k):=by unfold xD;split;omega;first | omega | (rw[if_neg hI];omega)
 exact⟨h1,h4,h2,O,O⟩
theorem QEZ:gF (oU p k) ∣ gU (oU p k):=Nat.dvd_mul_right _ _
theorem QHN(hS:Sv p D R k Sh){f:F2}(hf:f∈(oU p k).fl):Pb (Yq p.ul+1) (wK p (k+1)^(ZG D (oU p k).ou).toNat) (1024*mK (K2 p k)^(ZG D (oU p k).ou).toNat) (ZG D (oU p k).ou) (vF p R) (ZG R (oU p k).ou) (Ek (Jc f.r) (el Sh f.k.toNat)):=by
 obtain⟨h1,h2,_,h4,h5⟩:=QCE hM hL hk hI hf;have hd:=dn1 hM hL hk;have h6:=(hS.pb f.k h1.1 h1.2).1;refine(((Pb.scl (QEj (hM.us _ (hM.v.mem hk)) hf) h6)).mono ?_ h4 h5).dvd ?_ (Nat.pow_pos (MI p _))
 ·exact Nat.mul_le_mul_left _ (Nat.pow_le_pow_right (AK _) O)
 rw[QFM hM.v hk (Ad hI),Nat.mul_pow,Nat.mul_comm];exact Nat.mul_dvd_mul (Nat.pow_dvd_pow _ O) (Nat.dvd_trans (QEZ hM hL hk hI) (QBM hd.1))
theorem Og.start:Og p D R k 0 [] (Jc (oU p k).st) :=
 ⟨by rw[Nat.zero_mul];exact Pb.nil (Nat.pow_pos (MI p _)),Canon.nil,by rw[Nat.zero_mul];exact(QIw hM.us (hM.v.mem hk)).dvd (QHB p _) (MI p _)⟩
theorem Og.next(hS:Sv p D R k Sh){i:Nat}{SL:List Tm}{c:Rat}(s:Og p D R k i SL c){f:F2}(hf:f∈(oU p k).fl){t:List UInt8}(ht:t∈UE p.sh p.ul):Og p D R k (i+1) (J3 (SL++J3 (Ek (Jc f.r) (el Sh f.k.toNat)))) (c-Jc f.r*Jc t):=by
 refine⟨(s.pb.app (QHN hM hL hk hI hS hf).norm).norm.mono (by rw[Nat.succ_mul i];exact Nat.le_refl _) (Int.le_refl _) (Int.le_refl _),Z1 _,?_⟩;have h1:=(QEj (hM.us _ (hM.v.mem hk)) hf).mul (QIv hM.us ht);refine(s.cb.sub (h1.dvd ?_ (MI p _))).mono O;rw[QFM hM.v hk (Ad hI),Nat.mul_comm];exact Nat.mul_dvd_mul (QHB p k) (QEZ hM hL hk hI)
theorem Og.cst{SL:List Tm}{c:Rat}(s:Og p D R k i SL c):Pb (Yq p.ul+1) (wK p (k+1)^(ZG D (oU p k).ou).toNat) (1048576+i*1073741824) (ZG D (oU p k).ou) (vF p R) (ZG R (oU p k).ou) (Ha c (Yq p.ul+1)):=by
 have hd:=dn1 hM hL hk;exact Pb.const (s.cb.dvd (QBM hd.1) (Nat.pow_pos (MI p _))) O
theorem Og.sum{SL:List Tm}{c:Rat}(s:Og p D R k i SL c)(hi:i<=8):Pb (Yq p.ul+1) (wK p (k+1)^(ZG D (oU p k).ou).toNat) (mK (K2 p (k+1))^(ZG D (oU p k).ou).toNat) (ZG D (oU p k).ou) (vF p R) (ZG R (oU p k).ou) (SL++Ha c (Yq p.ul+1)):=by
 have hd:=dn1 hM hL hk;refine(s.pb.app (s.cst hM hL hk hI)).mono ?_ (Int.le_refl _) (Int.le_refl _);rw[QFq hM.v hk (Ad hI),Nat.mul_pow];have g1:mK (K2 p k)<=mK (K2 p k)^(ZG D (oU p k).ou).toNat:=Nat.le_trans (by rw[Nat.pow_one];exact Nat.le_refl _) (Nat.pow_le_pow_right (AK _) hd.1);have g2:=QJI (K2 p k);have g3:2^30<=(2^30)^(ZG D (oU p k).ou).toNat:=Nat.le_trans (by rw[Nat.pow_one];exact Nat.le_refl _) (Nat.pow_le_pow_right wv hd.1);have g4:=Nat.mul_le_mul_right (mK (K2 p k)^(ZG D (oU p k).ou).toNat) g3;have g5:i*(1024*mK (K2 p k)^(ZG D (oU p k).ou).toNat)<=8*(1024*mK (K2 p k)^(ZG D (oU p k).ou).toNat):=Nat.mul_le_mul_right _ hi;generalize mK (K2 p k)^(ZG D (oU p k).ou).toNat=X at *
 generalize (2^30)^(ZG D (oU p k).ou).toNat*X=Y at *
 omega
end
def QEP:(2:Nat)^1990<=lim:=wy
theorem zM{r:Rat}(h:XH r<=1990):Xo r=false:=by
 unfold Xo D7;have a:∀z:Int,sz z<=1990->decide (lim<=z.natAbs)=false:=λz hz=>by
  have h1:=(XA z 1990).1 hz;exact decide_eq_false (Nat.not_le.2 (Nat.lt_of_lt_of_le h1 QEP))
 rw[a _ (Nat.le_trans (Nat.le_max_left _ _) h),a _ (Nat.le_trans (Nat.le_max_right _ _) h)];rfl
def uV(N v:Nat):List Int:=(List.replicate N 0).set v 1
def S6(N v:Nat):(uV N v).length=N:=by simp[uV]
def QDc{v:Nat}(h:i<N):Qc (uV N v) i=if v=i then 1 else 0:=by
 unfold uV;rw[YL (by simpa using h),J8 (by simpa using h),List.getElem_set];split<;>simp
def QDb{v:Nat}:∀x∈uV N v,0<=x/\x<=1:=λx hx=>by
 unfold uV at hx;rcases List.mem_or_eq_of_mem_set hx with h | h
 ·rw[List.eq_of_mem_replicate h];omega
 omega
theorem p8{v:Nat}(h:N<=1000):PW (uV N v):=⟨λx hx=>wm<|QDb x hx,by rw[S6];exact h⟩
def QDa{v:Nat}(h:v<N):(uV N v).sum=1:=by
 unfold uV
 induction N generalizing v with
 |zero=>omega
 |succ N ih =>
  cases v with
  |zero=>simp[List.replicate_succ]
  |succ v=>rw[List.replicate_succ,List.set_cons_succ,List.sum_cons,ih O];rfl
def QFP(N:Nat):YM 0 [(1,uV (N+1) 0)]=[(1,List.replicate (N+1) (0:Int))]:=by
 unfold YM;rw[List.flatMap_cons,List.flatMap_nil,List.append_nil,MR,QDc O,if_pos rfl,if_pos wv];simp[uV,List.replicate_succ]
def QFO{v:Nat}(h:v<N):YM (v+1) [(1,uV (N+1) 0)]=[]:=by
 unfold YM;rw[List.flatMap_cons,List.flatMap_nil,List.append_nil,MR,QDc O,if_neg O]
theorem kq:∀(l:List Int),YA l (List.replicate l.length 0)=l
 |[]=>rfl
 |x::l=>by
  show(x+0)::YA l (List.replicate l.length 0)=x::l;rw[kq l,Int.add_zero]
def RQ{s:Sr}{ts:List Xp}(h:Jz F s ts [(y,k)]):∃t,ts=[t]/\t.t=(y,k):=by
 have h1:=h.2.2.1;have h2:ts.length=1:=by have:=congrArg List.length h1;simpa[Jy]using this
 obtain⟨t,rfl⟩:=List.length_eq_one_iff.1 h2;exact⟨t,rfl,by simpa[Jy]using h1⟩
def QHg{s:Sr}{ts:List Xp}(h:Jz F s ts []):ts=[]:=by
 have h1:=h.2.2.1;simpa[Jy]using h1
section
variable{w:World}{F:Gs}
theorem QB0{a:BB}{v:Nat}(hF:Fits F w)(hGl:JZ F)(hP:Jz F a.1 a.2 [(y,k)])(hk:PW k)(hv:v<k.length)(hy:XH y<=10000):
  QQ prog 155 [a.1.v,.int .i64 (v:Nat)] w F (λ(c:BB)=>c.1.v) (λc F=>Jz F c.1 c.2 (J3 (YM v [(y,k)]))):=by
 have h:=QEF (v:=v) hF hGl (p:=a) (by rw[hP.2.2.1];exact hP);obtain⟨t,e1,e2⟩:=RQ hP;rw[hP.2.2.1]at h;refine h (λu hu=>?_) ?_ (λu hu=>?_) ?_
 ·rw[e1]at hu;rw[List.mem_singleton.1 hu,e2];exact⟨hk,hv⟩
 ·rw[e1];simp
 ·rw[e1]at hu;rw[List.mem_singleton.1 hu,e2];exact Nat.le_trans hy wv
 unfold YM;rw[List.flatMap_cons,List.flatMap_nil,List.append_nil,MR];split
 ·have h1:=hk.el hv;have h2:=Zg y ((Qc k v:Int):Rat);have h3:=RL (Qc k v);have h4:sz (Qc k v)<=64:=Nat.le_trans (KA (b:=9223372036854775808) O) wv;show XH (y*((Qc k v:Int):Rat))+1+0<=_;omega
 exact Nat.zero_le _
theorem QFc{a b:BB}{z:Rat}{l:List Int}(hF:Fits F w)(hGl:JZ F)(hP:Jz F a.1 a.2 [(y,k)])(hQ:Jz F b.1 b.2 [(z,l)])(hk:PW k)(hl:PW l)(hkl:PW (YA k l))(h1:k.length=N)(h2:l.length=N)(hy:XH y<=10000)(hz:XH z<=10000)(h0:y*z≠0):
  QQ prog 87 [a.1.v,b.1.v] w F (λ(c:BB)=>c.1.v) (λc F=>Jz F c.1 c.2 [(y*z,YA k l)]):=by
 have h:=QD7 (N:=N) hF hGl (p:=a) (q:=b) (by rw[hP.2.2.1];exact hP) (by rw[hQ.2.2.1];exact hQ);obtain⟨t,e1,e2⟩:=RQ hP;obtain⟨u,e3,e4⟩:=RQ hQ;have hN:N<=1000:=by rw[<-h1];exact hk.2
 have ht:∀x∈a.2,x.t=(y,k):=λx hx=>by rw[e1]at hx;rw[List.mem_singleton.1 hx,e2]
 have hu:∀x∈b.2,x.t=(z,l):=λx hx=>by rw[e3]at hx;rw[List.mem_singleton.1 hx,e4]
 have hpr:XL [(y,k)] [(z,l)]=[(y*z,YA k l)]:=rfl;rw[hP.2.2.1,hQ.2.2.1,hpr,G7 (Fm h0)]at h;refine h ⟨λx hx=>by rw[ht x hx];exact h1,λx hx=>by rw[hu x hx];exact h2⟩ hN (by rw[e1,e3];simp) ⟨λx hx=>by rw[ht x hx];exact hk,λx hx=>by rw[hu x hx];exact hl,λx hx x2 hx2=>by rw[ht x hx,hu x2 hx2];exact hkl⟩ ⟨?_,?_⟩ ?_
 ·show XH y+1+0<=_;omega
 ·show XH z+1+0<=_;omega
 show XH (y*z)+1+0<=_;have:=Zg y z;omega
theorem QCx{a:BB}{x:Fr}{z:Rat}(hF:Fits F w)(hP:Jz F a.1 a.2 [(y,k)])(hA:Jl F x z)(hy:XH y<=10000)(hz:XH z<=10000)(h0:z≠0):
  QQ prog 52 [a.1.v,x.v] w F (λ(c:BB)=>c.1.v) (λc F=>Jz F c.1 c.2 [(y*z,k)]):=by
 have h:=Ly hF (p:=a) (by rw[hP.2.2.1];exact hP) hA;obtain⟨t,e1,e2⟩:=RQ hP;rw[hP.2.2.1,K4,if_neg h0]at h;refine h (by rw[e1];simp) O ?_;show XH y+1+0<=_;omega
theorem ue{a:BB}(hF:Fits F w)(hGl:JZ F)(hP:Jz F a.1 a.2 [(y,k)])(hk:PW k)(hy:XH y<=10000):
  QQ prog 43 [a.1.v] w F (λ(c:Y1)=>c.1.v) (λc F=>Z4 F c.1 c.2 [(Q6 y,k)]):=by
 have h:=qk hF hGl (p:=a) (by rw[hP.2.2.1];exact hP);obtain⟨t,e1,e2⟩:=RQ hP;rw[hP.2.2.1]at h;exact h (λu hu=>by rw[e1]at hu;rw[List.mem_singleton.1 hu,e2];exact hk) (by rw[e1];simp) λu hu=>by rw[e1]at hu;rw[List.mem_singleton.1 hu,e2];exact Nat.le_trans hy wv
theorem QFe{a:BB}(hF:Fits F w)(hP:Jz F a.1 a.2 [(y,k)])(hk:PW k):QY prog 89 [a.1.v] w F (.int .i64 k.sum):=by
 have h:=vu (q:=a.1.q) (n:=a.1.n) (cap:=a.1.cap) hF (ts:=a.2) (by rw[hP.2.2.1];exact hP);obtain⟨t,e1,e2⟩:=RQ hP;rw[hP.2.2.1]at h;exact h (λu hu=>by rw[e1]at hu;rw[List.mem_singleton.1 hu,e2];exact hk) (by rw[e1];simp)
theorem QCz{a:BB}(hF:Fits F w)(hGl:JZ F)(hP:Jz F a.1 a.2 [(y,k)])(hy:XH y<=1990):QY prog 90 [a.1.v] w F (.bool false):=by
 have h:=L0 (q:=a.1.q) (n:=a.1.n) (cap:=a.1.cap) hF (ts:=a.2) (by rw[hP.2.2.1];exact hP) hGl;obtain⟨t,e1,e2⟩:=RQ hP;rw[hP.2.2.1,show Gb [(y,k)]=false by show(Xo y||false)=false;rw[zM hy];rfl]at h;exact h (λu hu=>by rw[e1]at hu;rw[List.mem_singleton.1 hu,e2];exact Nat.le_trans hy wv) (by rw[e1];simp)
end
theorem QD3{v k:Nat}(hF:Fits F w)(hv:v<k)(hk:k<=1000):QQ prog 85 [.int .i64 (v:Nat),.int .i64 (k:Nat)] w F (λ(c:BB)=>c.1.v) (λc F=>Jz F c.1 c.2 [(1,uV k v)]):=by
 refine QQ.go (G:=λF=>True) func85 hF trivial ?_;refine wA 8 I<|Y8 (n:=k) (bytes:=8) rfl rfl Qd QZ Hj I Ws O O λb7=>?_
 rw[show JL [Value.int .i64 0] k=(List.replicate k (0:Int)).map Qs by rw[Zl];simp[Qs]];refine QLi 7 I<|QA (Qj (i:=v) rfl rfl Qd QZ O)<|QS (vs:=[_]) I I I QZ I .here (WY (by rw[List.length_replicate];omega) (1)) wT<|QJi<|QG<|Jf (b:=b7) .here<|QB<|QJ I (λ_ _ f k=>f_g (n:=1) f O O) λc11=>QJj I<|QA (Jr I U2 Kz (.cons (vs:=[_,_,_,_]) I I I .h4 (.cons (vs:=[_]) I I I (.skip (.skip (.skip (.skip .h1)))) .nil)))<|Qw I (JR ZI) XQ Kz I I λb14=>wR I<|QT ?_
 exact QM ((⟨some ⟨b14,0,none⟩,1,1⟩,[⟨c11,⟨some ⟨b7,0,none⟩,k,k⟩,(1,uV k v)⟩])) I (wO I) (rfl) (λF ⟨⟨⟨_,hz7⟩,h11⟩,hs14⟩=>⟨Qu.of hs14 rfl,λt ht=>by
   rw[List.mem_singleton.1 ht];exact⟨h11,Qu.of hz7 (by simp[S6]),S6 k v,Nat.le_refl _⟩,rfl,Nat.le_refl _,rfl⟩)
theorem QED{v:Nat}(hF:Fits F w)(hGl:JZ F)(hv:v<=1000000):QQ prog 42 [.int .i64 (v:Nat)] w F (λ(c:List UInt8)=>tx c) (λc _=>c.length<=1000):=by
 have hz64:sz ((v:Int)+1)<=64:=Nat.le_trans (KA (b:=9223372036854775808) O) wv;have hnl:=SI hz64;refine QQ.go (G:=λF=>JZ F) func42 hF hGl ?_;refine wA 8 I<|QA (Qk I I O)<|QJ I (λ_ _ f k=>Fv (n:=(v:Int)+1) f O O) λc5=>QJ I (λ_ _ f k=>BG f k.1 k.2 O) λ_=>QA (XP (a:=[122]) I I (by simp only[List.length_cons,List.length_nil];omega))<|wR I<|QT ?_
 exact QM (([122]++XZ ((v:Int)+1))) I (wO I) (rfl) λF _=>by simp only[List.length_append,List.length_cons,List.length_nil];omega
theorem QGh:Zd prog 26=some (false,1):=wu
theorem Ue:Ga prog 26=some 63:=wu
theorem LX:Zd prog 63=some (false,1):=wu
theorem QJv:J1 prog 63=some [.slice none 0 0]:=wu
theorem F3:Ga prog 63=some 66:=wu
theorem UQ:Zd prog 66=some (true,2):=wu
theorem pj:J1 prog 66=some [.int .i64 0,.int .i64 0]:=wu
theorem QEC:YV prog 66=some [(0,1),(1,1)]:=wu
theorem zj:Y4 prog 66 0=some (0,3):=wu
theorem zi:Y4 prog 66 1=some (1,3):=wu
theorem Pb.eq{F F' c':Nat}{d d':Int}{r:Int}{L:List Tm}(h:Pb N F c d V r L)(h1:F=F')(h2:c=c')(h3:d=d'):Pb N F' c' d' V r L:=by simp_all
theorem QHG{g1 g2 W dn E:Nat}(h1:j*dn<=E)(h2:1<=E)(h3:1<=dn):g2*(g1*W^dn)^j ∣ (W*(g1*g2))^E:=by
 have h4:j<=j*dn:=Nat.le_mul_of_pos_right _ h3;rw[Nat.mul_pow,Nat.mul_pow,Nat.mul_pow,<-Nat.pow_mul]
 grind[Nat.mul_comm,Nat.mul_assoc,Nat.mul_dvd_mul,Nat.pow_dvd_pow,QBM]
theorem QIt{M dn E:Nat}(hM:0<M)(hj:j<=3)(h1:j*dn<=E)(h2:1<=E)(h3:1<=dn):(j+1)*(1024*(1024*M^dn)^j)<=(2^30*M)^E:=by
 have h4:j<=j*dn:=Nat.le_mul_of_pos_right _ h3;rw[Nat.mul_pow,Nat.mul_pow,<-Nat.pow_mul,<-Nat.mul_assoc,<-Nat.mul_assoc];refine Nat.mul_le_mul ?_ (Nat.pow_le_pow_right hM (by grind));refine Nat.le_trans ?_ (Nat.pow_le_pow_right wv (show max 1 j<=E by omega));have:j=0\/j=1\/j=2\/j=3:=O
 grind
section
variable{p:ZL}{n:Nat}{D R:List Int}{k:Nat}{Sh:List (List Tm)}(hM:UH p n)(hn:n<=8)(hL:Ty p D R)(hk:k<p.ul.length)
def QCf(p:ZL)(k:Nat)(Sh:List (List Tm)):List Tm:=J3 (Ek (Jc (el (oU p k).fl 0).r) (el Sh (el (oU p k).fl 0).k.toNat))
def QAS(p:ZL)(D:List Int)(k:Nat):Nat:=gF (oU p k)*wK p k^(ZG D (el (oU p k).fl 0).k).toNat
def QAT(p:ZL)(D:List Int)(k:Nat):Nat:=1024*mK (K2 p k)^(ZG D (el (oU p k).fl 0).k).toNat
def jU:0<QAS p D k:=Nat.mul_pos (Da _) (Nat.pow_pos (MI p k))
structure TbS(p:ZL)(D R:List Int)(k j:Nat)(SL:List Tm):Prop where
 pb:Pb (Yq p.ul+1) (gC (oU p k)*QAS p D k^(j-1)) (j*(1024*QAT p D k^(j-1))) (((j-1:Nat):Int)*ZG D (el (oU p k).fl 0).k) (vF p R) (ZG R (oU p k).ou) SL
 cn:Canon SL
 z:j=0->SL=[]
def TbS.start:TbS p D R k 0 []:=⟨Pb.nil (Nat.mul_pos (Da _) (Nat.pow_pos jU)),Canon.nil,λ_=>rfl⟩
include hM hL hk
theorem QJ0(hT:(oU p k).kd=WR)(hS:Sv p D R k Sh):Pb (Yq p.ul+1) (QAS p D k) (QAT p D k) (ZG D (el (oU p k).fl 0).k) (vF p R) (ZG R (oU p k).ou) (QCf p k Sh):=by
 have hI:(oU p k).kd≠Vj:=by rw[hT];trivial
 have hf:=Ql (Z5 (hM.v.ok hk)).1;obtain⟨h1,_,_,_,h5⟩:=QCE hM hL hk hI hf;exact((Pb.scl (QEj (hM.us _ (hM.v.mem hk)) hf) (hS.pb _ h1.1 h1.2).1).norm).mono (Nat.le_refl _) (Int.le_refl _) h5
theorem TbS.prod(hT:(oU p k).kd=WR)(hS:Sv p D R k Sh){j:Nat}{SL:List Tm}(s:TbS p D R k j SL):Pb (Yq p.ul+1) (gC (oU p k)*QAS p D k^j) (j*(1024*QAT p D k^j)) ((j:Int)*ZG D (el (oU p k).fl 0).k) (vF p R) (ZG R (oU p k).ou) (XL SL (QCf p k Sh)):=by
 cases j with
 |zero =>
  rw[s.z I];exact Pb.nil (Nat.mul_pos (Da _) (Nat.pow_pos jU))
 |succ i =>
  refine(s.pb.prod (QJ0 hM hL hk hT hS)).eq ?_ ?_ ?_
  all_goals grind
theorem TbS.sum(hT:(oU p k).kd=WR)(hS:Sv p D R k Sh){j:Nat}{SL:List Tm}(s:TbS p D R k j SL){a:List UInt8}(ha:a∈(oU p k).cl):Pb (Yq p.ul+1) (gC (oU p k)*QAS p D k^j) ((j+1)*(1024*QAT p D k^j)) ((j:Int)*ZG D (el (oU p k).fl 0).k) (vF p R) (ZG R (oU p k).ou) (J3 (XL SL (QCf p k Sh))++Ha (Jc a) (Yq p.ul+1)):=by
 have hI:(oU p k).kd≠Vj:=by rw[hT];trivial
 have hf:=Ql (Z5 (hM.v.ok hk)).1;obtain⟨_,h2,_⟩:=QCE hM hL hk hI hf;have hB:0<QAT p D k:=Nat.mul_pos wv (Nat.pow_pos (AK _));have h1:=(s.prod hM hL hk hT hS).norm.app (Pb.const ((QKN (hM.us _ (hM.v.mem hk)) ha).dvd (Nat.dvd_mul_right _ _) (Nat.mul_pos (Da _) (Nat.pow_pos jU))) (Int.mul_nonneg O O));refine h1.mono ?_ (Int.le_refl _) (Int.le_refl _)
 grind
theorem TbS.next(hT:(oU p k).kd=WR)(hS:Sv p D R k Sh){j:Nat}{SL:List Tm}(s:TbS p D R k j SL){a:List UInt8}(ha:a∈(oU p k).cl):TbS p D R k (j+1) (J3 (J3 (XL SL (QCf p k Sh))++Ha (Jc a) (Yq p.ul+1))) :=
 ⟨(s.sum hM hL hk hT hS ha).norm,Z1 _,λh=>O⟩
theorem QDi(hT:(oU p k).kd=WR){j c:Nat}{L:List Tm}(hj:j<(oU p k).cl.length)(hc:c<=j+1)(h:Pb (Yq p.ul+1) (gC (oU p k)*QAS p D k^j) (c*(1024*QAT p D k^j)) ((j:Int)*ZG D (el (oU p k).fl 0).k) (vF p R) (ZG R (oU p k).ou) L):Pb (Yq p.ul+1) (wK p (k+1)^(ZG D (oU p k).ou).toNat) (mK (K2 p (k+1))^(ZG D (oU p k).ou).toNat) (ZG D (oU p k).ou) (vF p R) (ZG R (oU p k).ou) L:=by
 have hI:(oU p k).kd≠Vj:=by rw[hT];trivial
 have hf:=Ql (Z5 (hM.v.ok hk)).1;obtain⟨_,h2,h3,_,_⟩:=QCE hM hL hk hI hf;have hd:=dn1 hM hL hk;have hcn:=(hM.us _ (hM.v.mem hk)).cn;have htm:(j:Int)<=tm (oU p k):=by unfold tm;grind
 have hjd:(j:Int)*ZG D (el (oU p k).fl 0).k<=ZG D (oU p k).ou:=by
  refine Int.le_trans ?_ h3;rw[Int.mul_comm];exact Int.mul_le_mul_of_nonneg_left htm O
 have hjn:j*(ZG D (el (oU p k).fl 0).k).toNat<=(ZG D (oU p k).ou).toNat:=by
  grind
 refine(h.mono ?_ hjd (Int.le_refl _)).dvd ?_ (Nat.pow_pos (MI p _))
 ·rw[QFq hM.v hk (Ad hI)];exact Nat.le_trans (Nat.mul_le_mul_right _ hc) (QIt (AK _) O hjn hd.1 O)
 rw[QFM hM.v hk (Ad hI)];exact QHG hjn hd.1 O
end
theorem qZ(a E:Nat){x:Nat}(h:sz (a:Int)<=x):sz ((a^E:Nat):Int)<=E*x+1:=Nat.le_trans (QIu a E) (by simp_all[Nat.mul_le_mul_left])
def WX{a b y:Nat}(h:sz (a:Int)<=x)(k:sz (b:Int)<=y):sz ((a*b:Nat):Int)<=x+y:=Nat.le_trans (uE a b) (Nat.add_le_add h k)
structure Tw(N:Nat)(L:List Tm):Prop where
 pw:∀t∈L,t.2.length=N/\PW t.2
 w:FN L
 pD:∀l m,L=l++m->(J3 l).length<=900000000
theorem Tw.els{L:List Tm}(h:Tw N L):∀t∈L,t.2.length=N/\PW t.2/\XH t.1<=90000:=λt ht=>⟨(h.pw t ht).1,(h.pw t ht).2,h.w.2 t ht⟩
def Pb.tw{F c y:Nat}{d:Int}{r:Int}{L:List Tm}(h:Pb N F c d V r L)(hd:d<=6)(hN:N<=9)(hx:sz (F:Int)<=x)(hy:sz (c:Int)<=y)(hxy:x+y<=90000):Tw N L :=
 ⟨h.pw hd hN,h.wide hx hy hxy,h.QJU hd hN⟩
section
variable{p:ZL}{n:Nat}{D R:List Int}{k:Nat}(hM:UH p n)(hn:n<=8)(hL:Ty p D R)
include hM hn
theorem L7:Yq p.ul+1<=9:=by
 have:=hM.un
 grind[Yq,List.countP_le_length]
theorem QGd(hk:k<=p.ul.length):sz ((wK p k:Nat):Int)<=161+123*K2 p k:=by
 have:=hM.wsz hk;have:=hM.un;omega
theorem QDY(hk:k<=p.ul.length){E:Nat}(hE:E<=6):sz ((wK p k^E:Nat):Int)<=7000/\sz ((mK (K2 p k)^E:Nat):Int)<=1700:=by
 have h1:=QGd hM hn hk;have h2:=hM.K2 hk;have h3:=hM.un;have h4:=qZ (wK p k) E (x:=1145) O;have h5:=qZ (mK (K2 p k)) E (x:=281) (by grind[QGz,K2]);omega
include hL
theorem kT(hk:k<=p.ul.length){s:Int}(hs:0<=s/\s<p.sh){L:List Tm}(h:Pb (Yq p.ul+1) (wK p k^(ZG D s).toNat) (mK (K2 p k)^(ZG D s).toNat) (ZG D s) (vF p R) (ZG R s) L):Tw (Yq p.ul+1) L:=by
 have hd:=hL.yx s hs.1 hs.2;have h1:=QDY hM hn hk (E:=(ZG D s).toNat) O;exact h.tw hd.2 (L7 hM hn) h1.1 h1.2 wv
theorem ur(hk:k<=p.ul.length){s:Int}(hs:0<=s/\s<p.sh){L:List Tm}(h:Pb (Yq p.ul+1) (wK p k^(ZG D s).toNat) (mK (K2 p k)^(ZG D s).toNat) (ZG D s) (vF p R) (ZG R s) L)(hc:Canon L):L.length<=50000000 :=
 h.pD (hL.yx s hs.1 hs.2).2 (L7 hM hn) hc
end
def w6(p:ZL):Nat:=wK p p.ul.length^6
def m6(p:ZL):Nat:=mK (K2 p p.ul.length)^6
def eK(p:ZL):Nat->Nat
 |0=>1
 |k+1=>if P8 (oU p k)then(gF (oU p k)*gF (oU p k))*(w6 p*(w6 p*eK p k))else eK p k
def cK(p:ZL):Nat->Nat
 |0=>1
 |k+1=>if P8 (oU p k)then 1048576*(m6 p*(6*m6 p*(1+8*cK p k)))else cK p k
def QAM(p:ZL):0<w6 p:=Nat.pow_pos (MI p _)
def zD(p:ZL):0<m6 p:=Nat.pow_pos (AK _)
theorem dj(p:ZL):∀k,0<eK p k
 |0=>Nat.one_pos
 |k+1=>by
  have:=dj p k;rw[eK];split
  ·exact Nat.mul_pos (Nat.mul_pos (Da _) (Da _)) (Nat.mul_pos (QAM p) (Nat.mul_pos (QAM p) this))
  omega
def pI(p:ZL):∀k,0<cK p k
 |0=>Nat.one_pos
 |k+1=>by
  have:=pI p k;rw[cK];split
  ·exact Nat.mul_pos wv (Nat.mul_pos (zD p) (Nat.mul_pos (Nat.mul_pos wv (zD p)) O))
  omega
theorem QH7(p:ZL)(k:Nat):eK p k ∣ eK p (k+1):=by
 grind[eK,Nat.dvd_trans,Nat.dvd_mul_left,Nat.dvd_refl]
def QJX(p:ZL)(k:Nat):cK p k<=cK p (k+1):=by
 rw[cK];split
 ·refine Nat.le_trans (show cK p k<=1+8*cK p k by omega) ?_;refine Nat.le_trans (Nat.le_mul_of_pos_left _ (Nat.mul_pos (show 0<6 by decide) (zD p))) ?_;exact Nat.le_trans (Nat.le_mul_of_pos_left _ (zD p)) (Nat.le_mul_of_pos_left _ (show 0<1048576 by decide))
 omega
def QAV:sz ((6:Nat):Int)<=3:=wv
def QHK:sz ((1048576:Nat):Int)<=21:=by trivial
def QDm{c:Nat}(h:0<c):sz ((1+8*c:Nat):Int)<=sz (c:Int)+5:=by
 have h1:=QGk (show 1+8*c<=c*16 by omega);have h2:=uE c 16;have h3:sz ((16:Nat):Int)<=5:=wv;omega
theorem bud{a b:Nat}(h:a+b<=8):b*(1980+1476*a)<=32100/\b*(523+360*a)<=8100:=by
 have:a=0\/a=1\/a=2\/a=3\/a=4\/a=5\/a=6\/a=7\/a=8:=O
 grind
section
variable{p:ZL}{n:Nat}{D R:List Int}{k:Nat}{Sh:List (List Tm)}(hM:UH p n)(hn:n<=8)(hL:Ty p D R)
include hM hn
theorem QGe:sz ((w6 p:Nat):Int)<=967+738*K2 p p.ul.length:=by
 have h1:=qZ _ 6 (QGd hM hn (Nat.le_refl _))
 grind[w6]
theorem QG0:sz ((m6 p:Nat):Int)<=247+180*K2 p p.ul.length:=by
 have h1:=qZ (mK (K2 p p.ul.length)) 6 (QGz _)
 grind[m6]
theorem QJQ(hk:k<=p.ul.length):sz ((eK p k:Nat):Int)<=1+qR p k*(1980+1476*K2 p p.ul.length):=by
 induction k with
 |zero=>exact Nat.le_trans (show sz ((1:Nat):Int)<=1 by decide) (Nat.le_add_right _ _)
 |succ k ih =>
  have h1:=ih O;rw[Ck (by rw[hM.v.ord];omega),eK];split
  ·have h2:=QGe hM hn;have hkd:(oU p k).fl.length=2:=by
    have hs:=(hM.v.ok (show k<p.ul.length by omega)).shp;unfold EB at hs;rw[if_pos (show(oU p k).kd=Vj by grind[P8]),Bool.and_eq_true]at hs;simp_all
   have h3:=QG2 (hM.us _ (hM.v.mem (show k<p.ul.length by omega)));have h4:=WX (WX h3 h3) (WX h2 (WX h2 h1))
   grind
  omega
theorem QJW(hk:k<=p.ul.length):sz ((cK p k:Nat):Int)<=1+qR p k*(523+360*K2 p p.ul.length):=by
 induction k with
 |zero=>exact Nat.le_trans (show sz ((1:Nat):Int)<=1 by decide) (Nat.le_add_right _ _)
 |succ k ih =>
  have h1:=ih O;rw[Ck (by rw[hM.v.ord];omega),cK];split
  ·have h2:=QG0 hM hn;have h4:=WX QHK (WX h2 (WX (WX QAV h2) (Nat.le_trans (QDm (pI p k)) (Nat.add_le_add_right h1 5))))
   grind
  omega
theorem QGJ(hk:k<=p.ul.length):sz ((eK p k:Nat):Int)<=33000/\sz ((cK p k:Nat):Int)<=9000/\sz ((w6 p:Nat):Int)<=7000/\sz ((m6 p:Nat):Int)<=1700:=by
 have h1:=QJQ hM hn hk;have h2:=QJW hM hn hk;have h3:=QGe hM hn;have h4:=QG0 hM hn;have h5:=hM.qR hk;have h6:=hM.K2 (Nat.le_refl _);have h7:=hM.un;have h8:=bud (a:=K2 p p.ul.length) (b:=qR p k) O;omega
include hL
theorem QGn(hS:Sv p D R p.ul.length Sh){s:Int}(h0:0<=s)(h1:s<p.sh):Pb (Yq p.ul+1) (w6 p) (m6 p) (ZG D s) (vF p R) (ZG R s) (el Sh s.toNat)/\Canon (el Sh s.toNat):=by
 have hd:=hL.yx s h0 h1;obtain⟨g1,g2⟩:=hS.pb s h0 h1;exact⟨(g1.mono (Nat.pow_le_pow_right (AK _) O) (Int.le_refl _) (Int.le_refl _)).dvd (Nat.pow_dvd_pow _ O) (QAM p),g2⟩
end
structure kz(p:ZL)(R:List Int)(k:Nat)(Rs:List (List Tm)):Prop where
 len:Rs.length=Yq p.ul
 pb:∀j,j<Yq p.ul->Pb (Yq p.ul+1) (eK p k) (cK p k) (vF p R (j+1)) (vF p R) 6 (el Rs j)/\Canon (el Rs j)
theorem kz.start{p:ZL}:kz p R 0 (List.replicate (Yq p.ul) []):=⟨w9,λj hj=>by
 grind[J8,Pb.nil,dj,Canon.nil]⟩
theorem kz.up{p:ZL}{k:Nat}{Rs:List _}(h:kz p R k Rs):kz p R (k+1) Rs:=⟨h.len,λj hj=>⟨((h.pb j hj).1.mono (QJX p k) (Int.le_refl _) (Int.le_refl _)).dvd (QH7 p k) (dj p _),(h.pb j hj).2⟩⟩
section
variable{p:ZL}{n:Nat}{D R:List Int}{k:Nat}{Sh Rs:List (List Tm)}(hM:UH p n)(hn:n<=8)(hL:Ty p D R)(hk:k<p.ul.length)(hI:(oU p k).kd=Vj)(hS:Sv p D R p.ul.length Sh)(hR:kz p R k Rs)
include hM hn hL hk hI
omit hn in
theorem cI:(oU p k).fl.length=2/\((0<=(el (oU p k).fl 0).k/\(el (oU p k).fl 0).k<p.sh)/\(0<=(el (oU p k).fl 1).k/\(el (oU p k).fl 1).k<p.sh))/\ZG R (el (oU p k).fl 1).k+ZG D (el (oU p k).fl 1).k-1+ZG D (el (oU p k).fl 0).k<=ZG R (oU p k).ou:=by
 have hs:=(hM.v.ok hk).shp
 unfold EB at hs
 rw[if_pos hI,Bool.and_eq_true]at hs
 have hl:=QK8 hs.1
 have m0:el (oU p k).fl 0∈(oU p k).fl:=Ql O
 have m1:el (oU p k).fl 1∈(oU p k).fl:=Ql O
 have hm:el (oU p k).fl 1∈Vu (oU p k):=by
  unfold Vu;rw[if_pos hI,J8 O,List.drop_eq_getElem_cons O];grind
 have h1:=(hL.un k hk).2 _ hm
 have h2:xD D (oU p k)=ZG D (el (oU p k).fl 0).k:=by
  unfold xD;rw[if_neg (by rw[hI];trivial),if_pos hI]
 rw[h2]at h1
 exact⟨hl,⟨hM.v.fr hk m0,hM.v.fr hk m1⟩,h1⟩
theorem QII(hS:Sv p D R p.ul.length Sh)(hR:kz p R k Rs):AlH Rs (el Sh (el (oU p k).fl 1).k.toNat) (Yq p.ul+1) (w6 p) (m6 p) (eK p k) (cK p k) (ZG D (el (oU p k).fl 1).k) (vF p R) (ZG R (el (oU p k).fl 1).k) 40000 12000:=by
 obtain⟨hl,⟨h0,h1⟩,h2⟩:=cI hM hL hk hI;have d0:=hL.yx _ h0.1 h0.2;have d1:=hL.yx _ h1.1 h1.2;have r1:=hL.QCm _ h1.1 h1.2;have ho:=(hM.v.ok hk).ou;have ro:=hL.QCm (oU p k).ou O ho.2;have hb:=QGJ hM hn (show k<=p.ul.length by omega);have hp:=QGn hM hn hL hS h1.1 h1.2;exact
 { n:=by rw[hR.len]
   n9:=L7 hM hn
   d6:=d1.2
   d1:=d1.1
   r0:=r1.1
   dr:=O
   E0:=dj p k
   c0:=zD p
   p:=hp.1
   cn:=hp.2
   v6:=QDZ hM.v hL
   rt:=λj hj=>hR.pb j (by rw[<-hR.len];exact hj)
   sx:=Nat.le_trans (WX hb.2.2.1 hb.1) wv
   sy:=Nat.le_trans (WX (WX QAV hb.2.2.2) (Nat.le_trans (QDm (pI p k)) (Nat.add_le_add_right hb.2.1 5))) wv
   xy:=by decide }
def rtP(p:ZL)(k:Nat)(Sh Rs:List (List Tm)):List Tm:=XL (el Sh (el (oU p k).fl 0).k.toNat) (RD Rs (el Sh (el (oU p k).fl 1).k.toNat) Rs.length)
def rtY(p:ZL)(k:Nat):Rat:=Jc (el (oU p k).fl 0).r*Jc (el (oU p k).fl 1).r
theorem QDv(hS:Sv p D R p.ul.length Sh)(hR:kz p R k Rs):Pb (Yq p.ul+1) (w6 p*(w6 p*eK p k)) (m6 p*(6*m6 p*(1+8*cK p k))) (ZG R (oU p k).ou) (vF p R) 6 (rtP p k Sh Rs):=by
 obtain⟨hl,⟨h0,h1⟩,h2⟩:=cI hM hL hk hI;have ha:=QII hM hn hL hk hI hS hR;have g1:=(ha.RD _ (Nat.le_refl _)).1.mono (ha.k8 (Nat.le_refl _)) (Int.le_refl _) (Int.le_refl _);have g2:=(QGn hM hn hL hS h0.1 h0.2).1.mono (Nat.le_refl _) (Int.le_refl _) (hL.QCm _ h0.1 h0.2).2;exact(g2.prod g1).mono (Nat.le_refl _) O (Int.le_refl _)
theorem QHO:Rb (gF (oU p k)*gF (oU p k)) 1048576 (rtY p k):=by
 obtain⟨hl,_,_⟩:=cI hM hL hk hI;exact(QEj (hM.us _ (hM.v.mem hk)) (Ql (show 0<(oU p k).fl.length by omega))).mul (QEj (hM.us _ (hM.v.mem hk)) (Ql (show 1<(oU p k).fl.length by omega)))
theorem QGq(hS:Sv p D R p.ul.length Sh)(hR:kz p R k Rs):Pb (Yq p.ul+1) (eK p (k+1)) (cK p (k+1)) (ZG R (oU p k).ou) (vF p R) 6 (Ek (rtY p k) (J3 (rtP p k Sh Rs))):=by
 have h1:=Pb.scl (QHO hM hn hL hk hI) (QDv hM hn hL hk hI hS hR).norm;simp_all[eK,cK,if_pos,P8,oU]
def gO(p:ZL)(k:Nat):Nat:=Yq (p.ul.take (el (X9 p.ul) k).toNat)
theorem QCA:gO p k<Yq p.ul/\vF p R (gO p k+1)=ZG R (oU p k).ou:=by
 obtain⟨i,g1,g2,e,_⟩:=hM.v.unit hk;have hi:P8 (el p.ul i)=true:=by grind[P8]
 unfold gO;rw[g2,e,show((i:Nat):Int).toNat=i by omega];refine⟨?_,QGf g1 hi⟩;obtain⟨hh,_⟩:=Fg g1 hi;rw[<-List.countP_eq_length_filter]at hh;exact hh
theorem kz.next(hS:Sv p D R p.ul.length Sh)(hR:kz p R k Rs):kz p R (k+1) (Rs.set (gO p k) (J3 (Ek (rtY p k) (J3 (rtP p k Sh Rs))))):=by
 obtain⟨h1,h2⟩:=QCA hM hn hL hk hI;refine⟨by rw[List.length_set];exact hR.len,λj hj=>?_⟩;rw[Tj (by rw[hR.len];exact h1)];by_cases e:j=gO p k
 ·subst e;rw[if_pos rfl,h2];exact⟨(QGq hM hn hL hk hI hS hR).norm,Z1 _⟩
 rw[if_neg e];exact hR.up.pb j hj
theorem QIx(hS:Sv p D R p.ul.length Sh)(hR:kz p R k Rs):Tw (Yq p.ul+1) (rtP p k Sh Rs)/\Tw (Yq p.ul+1) (Ek (rtY p k) (J3 (rtP p k Sh Rs)))/\(J3 (rtP p k Sh Rs)).length<=50000000/\(∀t∈J3 (rtP p k Sh Rs),XH t.1<=90000):=by
 have hb:=QGJ hM hn (show k<=p.ul.length by omega);have hb2:=QGJ hM hn (show k+1<=p.ul.length by omega);have ho:=(hM.v.ok hk).ou;have ro:=hL.QCm (oU p k).ou O ho.2;have h1:=QDv hM hn hL hk hI hS hR;have h2:=QGq hM hn hL hk hI hS hR;have sx:sz ((w6 p*(w6 p*eK p k):Nat):Int)<=47000:=Nat.le_trans (WX hb.2.2.1 (WX hb.2.2.1 hb.1)) wv;have sy:sz ((m6 p*(6*m6 p*(1+8*cK p k)):Nat):Int)<=13000:=Nat.le_trans (WX hb.2.2.2 (WX (WX QAV hb.2.2.2) (Nat.le_trans (QDm (pI p k)) (Nat.add_le_add_right hb.2.1 5)))) wv;exact⟨h1.tw ro.2 (L7 hM hn) sx sy wv,h2.tw ro.2 (L7 hM hn) hb2.1 hb2.2.1 wv,h1.norm.pD ro.2 (L7 hM hn) (Z1 _),λt ht=>Nat.le_trans (h1.norm.db.XH sx sy t ht) wv⟩
end
section
variable{n s m:List (Nat×Obj)}{x y z t:Nat×Obj}
theorem QI7:(x::y::z::t::(n++(s++m))).Perm (m++(x::y::z::t::(n++s))):=by
 grind[List.append_assoc,List.perm_append_comm]
def QI6:(x::y::z::t::(n++(s++m))).Perm (n++(x::y::z::t::(s++m))) :=
 (List.perm_append_comm_assoc [x,y,z,t] n _)
theorem QI5:(x::y::z::t::(n++(s++m))).Perm (s++(x::y::z::t::(n++m))):=by
 grind[List.perm_append_comm_assoc]
def QJ7:(x::y::z::t::(n++(s++m))).Perm ((x::y::z::t::(n++s))++m):=w9
end
theorem kI{n:Nat}{L:List Tm}(hs:Q9 s=0)(hF:Fits F w)(hR:Z4 F ⟨q,n,cap⟩ ps (J2 L))(hw:Tw N (Ek (Jc s) L))(hz:∀t∈L,XH t.1<=90000)(hl:L.length<=50000000):
  QQ prog 118 [tx s,.slice q n cap] w F (λ(c:Y1)=>c.1.v) (λc F=>Z4 F c.1 c.2 (J2 (J3 (Ek (Jc s) L)))):=by
 have h1:=hR.OD;have h2:=kE (cap:=cap) hF hR.1 hR.2.1 hR.2.2.2.2 hR.2.2.1 (by grind[Xt]) (λt ht=>by grind) hw.pw hw.w (by grind)
 grind[Xa]
theorem QCs{k:Nat}(hs:Q9 s=0)(hF:Fits F w)(hk:k<=1000):QQ prog 121 [tx s,.int .i64 (k:Nat)] w F (λ(c:Y1)=>c.1.v) (λc F=>Z4 F c.1 c.2 (J2 (Ha (Jc s) (k+1)))):=by
 have h:=uX (y:=Jc s) hF hk
 grind[Xa]
theorem j8{a b:Y1}{A B:List Tm}(hF:Fits F w)(hA:Z4 F a.1 a.2 (J2 A))(hB:Z4 F b.1 b.2 (J2 B))(hw:Tw N (A++B))(hl:A.length<=50000000)(hm:B.length<=50000000):
  QQ prog 117 [a.1.v,b.1.v] w F (λ(c:Y1)=>c.1.v) (λc F=>Z4 F c.1 c.2 (J2 (J3 (A++B)))):=by
 have h1:=hA.OD;have h2:=hB.OD;exact QBy hF hA.1 hA.2.1 hA.2.2.2.2 hA.2.2.1 hB.1 hB.2.1 hB.2.2.2.2 hB.2.2.1 hw.pw hw.w ⟨O,O⟩
theorem uS{a b:Y1}{A B:List Tm}(hF:Fits F w)(hA:Z4 F a.1 a.2 (J2 A))(hB:Z4 F b.1 b.2 (J2 B))(ha:Tw N A)(hb:Tw N B)(hw:Tw N (XL A B))(hl:A.length<=50000000)(hm:B.length<=50000000):
  QQ prog 122 [a.1.v,b.1.v] w F (λ(c:Y1)=>c.1.v) (λc F=>Z4 F c.1 c.2 (J2 (J3 (XL A B)))):=by
 have h1:=hA.OD;have h2:=hB.OD;exact QBx hF hA.1 hA.2.1 hA.2.2.2.2 hA.2.2.1 hB.1 hB.2.1 hB.2.2.2.2 hB.2.2.1 ha.els hb.els (λt ht=>(hw.pw t ht).2) hw.w hw.pD ⟨O,O⟩
def qP(p:ZL)(i:Nat):List Int:=(List.range i).map λj=>((Yq (p.ul.take j):Nat):Int)
def QC4(p:ZL)(i:Nat):qP p (i+1)=qP p i++[((Yq (p.ul.take i):Nat):Int)]:=by
 unfold qP;rw[List.range_succ,List.map_append];rfl
theorem uz(p:ZL)(i:Nat):(qP p i).length=i:=by simp[qP]
theorem QFn{p:ZL}(h:j<i):el (qP p i) j=((Yq (p.ul.take j):Nat):Int):=by
 grind[J8,uz,qP]
def LN(F:Gs)(ps:List Y1)(Sh:List (List Tm)):Prop:=∀k,k<ps.length->Z4 F (el ps k).1 (el ps k).2 (J2 (el Sh k))
theorem LN.set{ps:List Y1}{Sh:List _}(h:LN F ps Sh)(hl:Sh.length=ps.length){i:Nat}{c:Y1}{L:List Tm}(hc:Z4 F c.1 c.2 (J2 L)):LN F (ps.set i c) (Sh.set i L):=λk hk=>by
 rw[List.length_set]at hk;by_cases hi:i<ps.length
 ·rw[Tj hi,Tj O];by_cases e:k=i
  ·simp_all
  rw[if_neg e,if_neg e];exact h k hk
 rw[List.set_eq_of_length_le O,List.set_eq_of_length_le O];exact h k hk
instance :Inhabited Y1:=⟨(⟨none,0,0⟩,[])⟩
def qS:Y1:=(⟨none,0,0⟩,[])
theorem LN.zero(F:Gs)(n:Nat):LN F (List.replicate n qS) (List.replicate n []):=λk hk=>by
 rw[J8 (by simp_all),J8 (by simp_all),List.getElem_replicate,List.getElem_replicate];exact⟨Qu.nil F none 2,λ_ h=>(by cases h),rfl,Nat.le_refl _,rfl⟩
def ph(n:Nat):JL [Value.slice none 0 0] n=(List.replicate n qS).map (λe:Y1=>e.1.v)++[]:=by simp[Zl,qS,Sr.v]
def uJ(a:List UInt8×List UInt8):∀v∈spC a,v.oneCell'=true:=by
 intro v hv;simp[spC]at hv;rcases hv with rfl | rfl<;>rfl
structure Rd1(p:ZL)(D R:List Int) where
 i:Nat
 ps:List Y1
 Sh:List (List Tm)
 nv:Value
 nob:List (Nat×Obj)
 nl:List (List UInt8)
 sv:Value
 sob:List (Nat×Obj)
 sl:List (List UInt8×List UInt8)
 mv:Value
 mob:List (Nat×Obj)
 le:i<=p.ul.length
 sh:Sv p D R 0 Sh
 pl:ps.length=p.sh.toNat
 hn:Qp 9 1 nv nl.length (nl.map tx) nob
 hs:Qp 54 2 sv sl.length (sl.flatMap spC) sob
 hm:Qp 3 1 mv i ((qP p i).map Qs) mob
 nn:nl.length=Yq (p.ul.take i)
 sn:sl.length=Yq (p.ul.take i)
def Rd1.lk{p:ZL}(s:Rd1 p D R):s.nl.length<=s.i/\s.sl.length<=s.i:=by
 have h:Yq _<=(p.ul.take s.i).length:=List.countP_le_length;rw[List.length_take]at h;have:=s.nn;have:=s.sn;omega
theorem QGx(h:i<us.length)(hI:P8 (el us i)=true):Yq (us.take (i+1))=Yq (us.take i)+1:=by simp_all[Yq,Hb,if_pos]
def QGy(h:i<us.length)(hI:¬P8 (el us i)=true):Yq (us.take (i+1))=Yq (us.take i):=by unfold Yq;rw[Hb h,if_neg hI];rfl
structure Rd2(p:ZL)(D R:List Int) where
 k:Nat
 le:k<=p.ul.length
 ps:List Y1
 Sh:List (List Tm)
 sh:Sv p D R k Sh
 pl:ps.length=p.sh.toNat
structure AdJ(p:ZL)(D R:List Int)(k m:Nat) where
 i:Nat
 c:Y1
 SL:List Tm
 q:Rat
 le:i<=m
 ok:Og p D R k i SL q
structure TbJ(p:ZL)(D R:List Int)(k m:Nat) where
 j:Nat
 c:Y1
 SL:List Tm
 le:j<=m
 ok:TbS p D R k j SL
structure Rd3(p:ZL)(R:List Int) where
 k:Nat
 le:k<=p.ul.length
 rl:List Y1
 Rs:List (List Tm)
 ok:kz p R k Rs
 pl:rl.length=Yq p.ul
structure ARd where
 nv:Value
 sv:Value
 rt:Sr
 rl:List Y1
 Rs:List (List Tm)
 sh:Sr
 ps:List Y1
 Sh:List (List Tm)
def yh(L:List Tm):Prop:=(∀t∈L,PW t.2/\XH t.1<=90000)/\L.length<=50000000
def pc(F:Gs)(c:ARd):Prop:=RwP F c.rt c.rl c.Rs/\RwP F c.sh c.ps c.Sh/\(∀L∈c.Rs,yh L)/\(∀L∈c.Sh,yh L)/\c.sh.n<=1000/\c.rt.n<=1000
section
variable{p:ZL}{n:Nat}{D R:List Int}{k:Nat}{Sh:List (List Tm)}(hM:UH p n)(hn:n<=8)(hL:Ty p D R)(hk:k<p.ul.length)
omit hM hn hL hk in
theorem QJG(h:i<p.ul.length)(hi:P8 (el p.ul i)=true):Yq (p.ul.take i)<Yq p.ul:=by
 obtain⟨hh,_⟩:=Fg h hi
 rw[<-List.countP_eq_length_filter]at hh;exact hh
include hM hL hk
theorem Og.QJ2(hI:(oU p k).kd≠Vj){e:Nat}{L:List Tm}(he:e<=9)(h:Pb (Yq p.ul+1) (wK p (k+1)^(ZG D (oU p k).ou).toNat) (e*(1024*mK (K2 p k)^(ZG D (oU p k).ou).toNat)) (ZG D (oU p k).ou) (vF p R) (ZG R (oU p k).ou) L):Pb (Yq p.ul+1) (wK p (k+1)^(ZG D (oU p k).ou).toNat) (mK (K2 p (k+1))^(ZG D (oU p k).ou).toNat) (ZG D (oU p k).ou) (vF p R) (ZG R (oU p k).ou) L:=by
 have hd:=dn1 hM hL hk;refine h.mono ?_ (Int.le_refl _) (Int.le_refl _);rw[QFq hM.v hk (Ad hI),Nat.mul_pow];have g3:2^30<=(2^30)^(ZG D (oU p k).ou).toNat:=Nat.le_trans O (Nat.pow_le_pow_right wv hd.1);have g4:=Nat.mul_le_mul_right (mK (K2 p k)^(ZG D (oU p k).ou).toNat) g3;have g5:e*(1024*mK _^(ZG D (oU p k).ou).toNat)<=9*(1024*mK (K2 p k)^(ZG D (oU p k).ou).toNat):=Nat.mul_le_mul_right _ he;omega
include hn
theorem Og.tw(hI:(oU p k).kd≠Vj){e:Nat}{L:List Tm}(he:e<=9)(h:Pb (Yq p.ul+1) (wK p (k+1)^(ZG D (oU p k).ou).toNat) (e*(1024*mK (K2 p k)^(ZG D (oU p k).ou).toNat)) (ZG D (oU p k).ou) (vF p R) (ZG R (oU p k).ou) L):Tw (Yq p.ul+1) L/\(Canon L->L.length<=50000000):=by
 have ho:=(hM.v.ok hk).ou;have h1:=Og.QJ2 hM hL hk hI he h;exact⟨kT hM hn hL (show k+1<=p.ul.length from hk) ⟨O,ho.2⟩ h1,λhc=>ur hM hn hL (show k+1<=p.ul.length from hk) ⟨O,ho.2⟩ h1 hc⟩
theorem Og.two(hI:(oU p k).kd≠Vj)(hS:Sv p D R k Sh){i:Nat}{SL:List Tm}{c:Rat}(s:Og p D R k i SL c)(hi:i<=8){f:F2}(hf:f∈(oU p k).fl):Tw (Yq p.ul+1) (Ek (Jc f.r) (el Sh f.k.toNat))/\Tw (Yq p.ul+1) (SL++J3 (Ek (Jc f.r) (el Sh f.k.toNat)))/\SL.length<=50000000/\(J3 (Ek (Jc f.r) (el Sh f.k.toNat))).length<=50000000:=by
 have h1:=QHN hM hL hk hI hS hf;have h2:Pb (Yq p.ul+1) (wK p (k+1)^(ZG D (oU p k).ou).toNat) (1*(1024*mK (K2 p k)^(ZG D (oU p k).ou).toNat)) (ZG D (oU p k).ou) (vF p R) (ZG R (oU p k).ou) (Ek (Jc f.r) (el Sh f.k.toNat)):=by simp_all
 have h3:=s.pb.app h1.norm;rw[<-Nat.succ_mul i]at h3;exact⟨(Og.tw hM hn hL hk hI wv h2).1,(Og.tw hM hn hL hk hI O h3).1,(Og.tw hM hn hL hk hI O s.pb).2 s.cn,(Og.tw hM hn hL hk hI wv h2.norm).2 (Z1 _)⟩
omit hL in
theorem Og.qsz{SL:List Tm}{c:Rat}(s:Og p D R k i SL c)(hi:i<=8):XH c<=90000:=by
 have h1:=(QDY hM hn (show k+1<=p.ul.length from hk) (E:=1) wv).1
 rw[Nat.pow_one]at h1
 have h2:sz ((1048576+i*1073741824:Nat):Int)<=35:=(XA _ _).2 O
 exact Nat.le_trans (s.cb.XH h1 h2) wv
theorem QGm(hS:Sv p D R k Sh){s:Int}(h:0<=s/\s<p.sh):Tw (Yq p.ul+1) (el Sh s.toNat)/\(el Sh s.toNat).length<=50000000 :=
 ⟨kT hM hn hL (Nat.le_of_lt hk) h (hS.pb s h.1 h.2).1,ur hM hn hL (Nat.le_of_lt hk) h (hS.pb s h.1 h.2).1 (hS.pb s h.1 h.2).2⟩
theorem QHH(hT:(oU p k).kd=WR)(hS:Sv p D R k Sh):Tw (Yq p.ul+1) (Ek (Jc (el (oU p k).fl 0).r) (el Sh (el (oU p k).fl 0).k.toNat))/\Tw (Yq p.ul+1) (QCf p k Sh)/\(QCf p k Sh).length<=50000000:=by
 have hI:(oU p k).kd≠Vj:=by rw[hT];trivial
 have hf:=Ql (Z5 (hM.v.ok hk)).1;have h2:Pb (Yq p.ul+1) (wK p (k+1)^(ZG D (oU p k).ou).toNat) (1*(1024*mK (K2 p k)^(ZG D (oU p k).ou).toNat)) (ZG D (oU p k).ou) (vF p R) (ZG R (oU p k).ou) (Ek (Jc (el (oU p k).fl 0).r) (el Sh (el (oU p k).fl 0).k.toNat)):=by grind[QHN]
 exact⟨(Og.tw hM hn hL hk hI wv h2).1,(Og.tw hM hn hL hk hI wv h2.norm).1,(Og.tw hM hn hL hk hI wv h2.norm).2 (Z1 _)⟩
theorem QBq(hT:(oU p k).kd=WR){j c:Nat}{L:List Tm}(hj:j<(oU p k).cl.length)(hc:c<=j+1)(h:Pb (Yq p.ul+1) (gC (oU p k)*QAS p D k^j) (c*(1024*QAT p D k^j)) ((j:Int)*ZG D (el (oU p k).fl 0).k) (vF p R) (ZG R (oU p k).ou) L):Tw (Yq p.ul+1) L/\(Canon L->L.length<=50000000):=by
 have ho:=(hM.v.ok hk).ou;have h1:=QDi hM hL hk hT hj hc h;exact⟨kT hM hn hL (show k+1<=p.ul.length from hk) ⟨O,ho.2⟩ h1,λhc=>ur hM hn hL (show k+1<=p.ul.length from hk) ⟨O,ho.2⟩ h1 hc⟩
end
theorem Tw.QDE{L:List Tm}(h:Tw N L)(hl:L.length<=50000000):yh L:=⟨λt ht=>⟨(h.pw t ht).2,h.w.2 t ht⟩,hl⟩
section
variable{p:ZL}{n:Nat}{D R:List Int}{Sh Rs:List (List Tm)}(hM:UH p n)(hn:n<=8)(hL:Ty p D R)
include hM hn
theorem Sv.QDE(hL:Ty p D R)(hS:Sv p D R p.ul.length Sh):∀L∈Sh,yh L:=λL hm=>by
 obtain⟨i,hi,rfl⟩:=List.getElem_of_mem hm;have hi2:(i:Int)<p.sh:=wm hS.len;have h1:=hS.pb (i:Int) O hi2;rw[show((i:Int)).toNat=i by omega,J8 hi]at h1;exact(kT hM hn hL (Nat.le_refl _) ⟨O,hi2⟩ h1.1).QDE (ur hM hn hL (Nat.le_refl _) ⟨O,hi2⟩ h1.1 h1.2)
theorem kz.QDE(hL:Ty p D R)(hR:kz p R p.ul.length Rs):∀L∈Rs,yh L:=λL hm=>by
 obtain⟨i,hi,rfl⟩:=List.getElem_of_mem hm;have h1:=hR.pb i (by rw[<-hR.len];exact hi);rw[J8 hi]at h1;have hb:=QGJ hM hn (Nat.le_refl _);have hv:=(QDZ hM.v hL (i+1)).2;exact(h1.1.tw hv (L7 hM hn) hb.1 hb.2.1 wv).QDE (h1.1.pD hv (L7 hM hn) h1.2)
end
def tL1(k:List Int):J2 [((1:Rat),k)]=[([49],k)]:=by
 have h:Q6 1=[49]:=wy;simp[J2,h]
theorem QHd{x:Int}(h:0<=x/\x<=1000000):(Q6 ((x:Int):Rat)).length<=1000:=by
 grind[Hq,RL,S9]
theorem kh(q:Rat)(k:Nat):(Ha q k).length<=50000000:=by grind[Ha]
theorem QHI(h:WV sh u)(hT:u.kd=WR):1<=u.cl.length:=by
 have hs:=h.shp;unfold EB at hs;simp_all
theorem QKG(h:WV sh u)(h1:u.kd≠Ab)(h2:u.kd≠WR):P8 u=true:=by
 rcases h.kd with e | e | e
 all_goals grind[P8,absurd]
section
variable{p:ZL}{n:Nat}{D R:List Int}{k:Nat}{Sh Rs:List (List Tm)}(hM:UH p n)(hn:n<=8)(hL:Ty p D R)
include hM hn hL
theorem QIy(hS:Sv p D R p.ul.length Sh){s:Int}(h:0<=s/\s<p.sh):Tw (Yq p.ul+1) (el Sh s.toNat)/\(el Sh s.toNat).length<=50000000 :=
 ⟨kT hM hn hL (Nat.le_refl _) h (hS.pb s h.1 h.2).1,ur hM hn hL (Nat.le_refl _) h (hS.pb s h.1 h.2).1 (hS.pb s h.1 h.2).2⟩
variable(hk:k<p.ul.length)(hI:(oU p k).kd=Vj)
include hk hI
theorem QIz(hS:Sv p D R p.ul.length Sh)(hR:kz p R k Rs):Tw (Yq p.ul+1) (RD Rs (el Sh (el (oU p k).fl 1).k.toNat) Rs.length)/\(RD Rs (el Sh (el (oU p k).fl 1).k.toNat) Rs.length).length<=50000000:=by
 have h:=QII hM hn hL hk hI hS hR;have h1:=h.RD _ (Nat.le_refl _);exact⟨h1.1.tw h.dr h.n9 h.sx (h.szc (h.k8 (Nat.le_refl _))) h.xy,h1.1.pD h.dr h.n9 h1.2⟩
theorem QJ6:XH (rtY p k)<=100000:=by
 obtain⟨hl,_,_⟩:=cI hM hL hk hI;have h1:=Zg (Jc (el (oU p k).fl 0).r) (Jc (el (oU p k).fl 1).r);have h2:=Xt ((hM.v.ok hk).fd _ (Ql (show 0<(oU p k).fl.length by omega))).2.1;have h3:=Xt ((hM.v.ok hk).fd _ (Ql (show 1<(oU p k).fl.length by omega))).2.1
 grind[rtY]
end
section
def uO(a b:Int):Instr.sameNow (.int .i64) (Qs a) (Qs b)=some (decide (a=b)):=by
 show some _=_;congr 1
theorem qJ(k:Int):∀(l:List (Int×Value)) (i n:Nat),Instr.findNow (.int .i64) (Qs k) (Xw Qs l n) i=some (Z0 l k i)
 |[],_,_=>rfl
 |x::l,i,n=>by
  simp only[Xw,Instr.findNow,uO,Z0];by_cases h:k=x.1
  ·simp[h]
  simp[h,qJ k l]
theorem Sw.int{P:Program}{kt:TypeId}(h:P.underlying kt=some (.int .i64)):Sw P kt Qs where
 chk:=λe w k=>MapKept.run_checkKey (k:=Qs k) h (by simp[MapKept.IsKey,Qs]) e 9999
 find:=λw k l=>MapKept.run_findKey h (qJ k l 0 0)
 same:=λk=>by simp[Instr.sameBits,Qs]
variable[Dr][df:Df]{P:Program}{N:Nat}{m:Sl}{w0:World}{F0:Gs}{bs:List (Nat×Obj)}{G:Gs->Prop}{ty:TypeId}{κ:Type}[DecidableEq κ]{K:κ->Value}{b:Nat}{kv:List (κ×Value)}{f:Obj->List (Nat×Obj)}
theorem uc{T kt et:TypeId}{x:Operand}(hx:ev m x=some (.map (some b)))(ht:Re P T kt et=true)(ho:Own bs b (ZA K kv) f):
  Qt P N m (St ⟨w0,F0,bs,G⟩) (.call ⟨.builtin .len,#[x],#[T]⟩) ty (.int .i64 (kv.length:Nat)):=λa w _ _ _ _ ha hw=>by
 have hb:=hw.own ho;unfold ZA at hb;rw[Z6];simp[builtin,Builtin.len_,ha.ev hx,run_underlying (PM ht),MapKept.run_getObj_map hb,goInt,B7]
end
def yu(i:Nat):List (Int×Value):=(List.range i).map λk:Nat=>((k:Int),.int .i64 (k:Int))
def u9(i:Nat):(yu i).length=i:=by simp[yu]
theorem QDF{k:Nat}(h:k<i):∀n,Z0 (yu i) (k:Int) n=some (n+k,.int .i64 (k:Int)):=by
 have key:∀(a j n:Nat),k<a+j->a<=k->Z0 ((List.range' a j).map λk:Nat=>((k:Int),Value.int .i64 (k:Int))) (k:Int) n=some (n+(k-a),.int .i64 (k:Int)):=by
  intro a j
  induction j generalizing a with
  |zero=>intro n h1 h2;omega
  |succ j ih =>
   intro n h1 h2;rw[List.range'_succ,List.map_cons,Z0];by_cases e:k=a
   ·subst e;rw[if_pos rfl];simp
   rw[if_neg O,ih (a+1) (n+1) O O];congr 2;omega
 intro n;have:=key 0 i n O (Nat.zero_le _);rw[<-List.range_eq_range']at this;exact this
theorem QBI{k:Nat}(h:i<=k):∀n,Z0 (yu i) (k:Int) n=none:=by
 have key:∀(l:List Nat) (n:Nat),(∀x∈l,x<k)->Z0 (l.map λk:Nat=>((k:Int),Value.int .i64 (k:Int))) (k:Int) n=none:=by
  intro l
  induction l with
  |nil=>intro n _;rfl
  |cons x l ih =>
   intro n hx;rw[List.map_cons,Z0,if_neg (wm<|hx x w9)];exact ih _ λy hy=>hx y (List.mem_cons_of_mem _ hy)
 intro n;exact key _ n λx hx=>wm<|List.mem_range.1 hx
def QEJ(i:Nat):Bl (yu i) (i:Int) (.int .i64 (i:Int))=yu (i+1):=by
 rw[Nb (QBI (Nat.le_refl i) 0)];unfold yu;rw[List.range_succ,List.map_append];rfl
def QEK{k:Nat}(h:k<i):cL (yu i) (k:Int) (.int .i64 0)=(.int .i64 (k:Int),true):=by
 unfold cL;rw[QDF h]
def yv:BB:=(⟨none,0,0⟩,[])
def BD(n:Nat):JL [Value.slice none 0 0] n=(List.replicate n yv).map (λe:BB=>e.1.v)++[]:=by simp[Zl,yv,Sr.v]
structure pS(F:Gs)(q:Option Addr)(n:Nat)(ps:List BB)(ms:List Tm):Prop where
 row:Qu F q n 1 (ps.map λe=>e.1.v)
 len:ps.length=n
 ln2:ms.length=n
 pl:∀k,k<n->Jz F (el ps k).1 (el ps k).2 [el ms k]
theorem pS.le{n:Nat}{ps:List BB}{ms:List Tm}(h:pS F q n ps ms)(k:Gs.le F F'):pS F' q n ps ms:=⟨h.row.le k,h.len,h.ln2,λi hi=>(h.pl i hi).le k⟩
instance{q:Option Addr}{n:Nat}{ps:List BB}{ms:List Tm}:Up (λF=>pS F q n ps ms):=⟨λk h=>pS.le h k⟩
def Jz.n0{s:Sr}{ts:List Xp}(h:Jz F s ts []):s.n=0:=by
 have h1:=QHg h;have h2:=h.2.2.2.2;rw[h1]at h2;exact h2.symm
theorem Jz.n1{s:Sr}{ts:List Xp}{t:Tm}(h:Jz F s ts [t]):s.n=1:=by
 obtain⟨u,e1,_⟩:=RQ (y:=t.1) (k:=t.2) h;have h2:=h.2.2.2.2;rw[e1]at h2;exact h2.symm
structure SmT(N:Nat)(t:Tm):Prop where
 y:XH t.1<=1990
 k:PW t.2
 s:t.2.sum<=12
 n:t.2.length=N
def lg3{n:Nat}(h:a<=12)(hn:n=1):Qz [if decide (a>12)=true then 4 else 0,if decide ((n:Int)>64)=true then 5 else 0,if false=true then 4 else 0]=0:=by
 subst hn;rw[if_neg tA];rfl
theorem QC1{bs:List (Nat×Obj)}{G:Gs->Prop}{b9:Nat}{xs:List BB}{a:BB}(hA:∀F,G F->JZ F/\Jz F a.1 a.2 [(1,uV (N+1) 0)])(hN:xs.length=N)(hN2:N<=100)(hcp:N<=cap):Jn prog 88 [a.1.v,.slice (some ⟨b9,0,none⟩) N cap] ⟨w0,F0,(b9,.cells (xs.map (λe:BB=>e.1.v)++[]).toArray 107 (0,0))::bs,G⟩ (λ(d:BB)=>d.1.v) (λd=>⟨w0,F0,(b9,.cells (xs.map (λe:BB=>e.1.v)++[]).toArray 107 (0,0))::bs,λF=>G F/\Jz F d.1 d.2 [(1,List.replicate (N+1) (0:Int))]⟩):=by
 have h1:XH 1<=10000:=wy;refine Jn.intro func88 rfl w8 rfl rfl<|QKt<|wR rfl<|wS rfl<|QJ rfl (λ_ F f k=>QB0 (v:=0) f (hA F k).1 (hA F k).2 (p8 O) (by rw[S6];omega) h1) λc10=>?_
 rw[QFP,G7 (Fm wv)];refine QLi 7 I<|QA (QW I K3)<|QLi 4 I<|Jo (ι:=IxJ N) [(0,_),(11,_),(12,_)] (λi=>[(5,.slice c10.1.q c10.1.n c10.1.cap),(13,.int .i64 ((i.i:Nat):Int))]) (λi=>N-i.i) (⟨0,Nat.zero_le _⟩) wV wU λi=>?_
 have hi:=i.le;refine wA 6 I ?_;refine QL I (λhc2=>?_) λhc2=>?_
 ·have hlt:i.i<N:=wm<|QK8 hc2
  refine QLj 7 I<|QA (Qj (i:=i.i) rfl rfl K3 Yr O)<|QA (Xm (c:=xs.map (λe:BB=>e.1.v)++[]) (T':=107) rfl Yr .here (Fl (f:=(λe:BB=>e.1.v)) O))<|QLi 8 I<|QA (Qk I I O) ?_
  rw[show(((i.i:Nat):Int)+1)=((i.i+1:Nat):Int)from rfl];refine QJ I (λ_ F f k=>QB0 (v:=i.i+1) f (hA F k.1).1 (hA F k.1).2 (p8 O) (by rw[S6];omega) h1) (λc21=>?_);rw[QFO hlt];refine JM _ (λ_ _ f k=>k.2.n0) (λhd21=>QLi 6 I<|QA (QW I ZI)<|QLi 3 I ?_);refine QL I (λhc2=>?_) λhc2=>?_
  ·exact absurd hc2 ((by rw[hd21];decide))
  refine QK<|Qa<|QC<|QB<|QA (Qk I I O)<|wB 2 I ?_
  exact Qb (⟨i.i+1,hlt⟩) (by show N-(i.i+1)<N-i.i;omega) wX QJ3 tD
 have hge:N<=i.i:=wm<|QK9 hc2
 refine Q7 ?_;refine wA 7 I ?_;exact ZN (c10) rfl (wO I) (rfl) λw hw=>hw.imp QJ3 tC
theorem kS{n:Nat}{ps:List BB}{ms:List Tm}(hF:Fits F w)(hGl:JZ F)(hM:pS F q n ps ms)(hn:n<=1000000)(hs:∀t∈ms,SmT N t):QY prog 41 [.slice q n c] w F (.int .i64 0):=by
 have hl:=hM.len;have hl2:=hM.ln2;refine QQ.go (G:=λF=>JZ F/\pS F q n ps ms) func41 hF ⟨hGl,hM⟩ ?_;refine wA 9 I<|QA (QW I K3)<|QLi 4 I<|Jo (ι:=IxJ n) [(6,_),(7,_)] (λi=>[(8,.int .i64 ((i.i:Nat):Int))]) (λi=>n-i.i) (⟨0,Nat.zero_le _⟩) wU wT λi=>?_
 have hi:=i.le;refine wA 6 I ?_;refine QL I (λhc2=>?_) λhc2=>?_
 ·have hlt:i.i<n:=wm<|QK8 hc2
  have hsm:=hs _ (Ql (show i.i<ms.length by omega));refine QLj 6 I<|QA (Qo (n:=n) i.i (λF h9=>h9.2.row) rfl rfl K3 Yr O)<|QA (Qg (n:=n) ((i.i)*1) (λF h9=>h9.2.row) O rfl Yr (ZF (f:=(λe:BB=>e.1.v)) (l:=ps) O))<|QLi 6 I<|QJ I (λ_ _ f h=>QFe f (h.2.pl _ hlt) hsm.k) λ_=>wB 1 I<|QJ I (λ_ _ f k=>G4 f) λ_=>QJj I<|QA (QW I ZI)<|wB 1 I<|QJ I (λ_ _ f k=>G4 f) λ_=>QJj I<|QJ I (λ_ _ f k=>QCz f k.1.1.1.1 (k.1.1.1.2.pl _ hlt) hsm.y) λ_=>QJ I (λ_ _ f k=>G4 f) λ_=>Qw I (JR Va) Gv UJ I I λb23=>QJ I (λ_ _ f k=>B4 (l:=[if decide ((el ms i.i).2.sum>12)=true then 4 else 0,if decide ((((el ps i.i).1.n:Nat):Int)>64)=true then 5 else 0,if false=true then 4 else 0]) f (Qu.of k.2 I) wv) λ_=>JM _ (λ_ _ f k=>(k.1.1.1.1.1.1.1.2.pl _ hlt).n1) λhn1=>?_
  rw[lg3 hsm.s hn1];refine QLi 9 I ?_;refine QL I (λhc2=>?_) λhc2=>?_
  ·exact absurd hc2 (wv)
  refine QK<|Qa<|QC<|QB<|QA (Qk I I O)<|wB 2 I ?_
  exact Qb (⟨i.i+1,hlt⟩) (by show n-(i.i+1)<n-i.i;omega) wV QJ3 λF h=>h.1.1.1.1.1.1.1
 refine Q7 ?_;refine wA 6 I ?_;exact QL3 I I (rfl) tB
def uf(p:Int×Int):List Value:=[.int .i64 p.1,.int .i64 p.2]
def ql(p:Int×Int):(uf p).length=2:=rfl
def Fx(p:Int×Int):Bool:=decide (p.1<1)||decide (p.1>400)||decide (p.2<1)||decide (p.2>400)
def jR(l:List (Int×Int)):Int:=if 4<l.length then 5 else if l.any Fx=true then 3 else 0
def QGi(h:4<l.length):jR l=5:=by unfold jR;rw[if_pos h]
def qE(h4:¬4<l.length)(h:l.any Fx=true):jR l=3:=by unfold jR;rw[if_neg h4,if_pos h]
def QGj(h4:¬4<l.length)(h:¬l.any Fx=true):jR l=0:=by unfold jR;rw[if_neg h4,if_neg h]
structure OW(l:List (Int×Int)):Prop where
 n:l.length<=4
 p:∀x∈l,(1<=x.1/\x.1<=400)/\1<=x.2/\x.2<=400
theorem OW.of(h:jR l=0):OW l:=by
 unfold jR at h;split at h
 ·cases h
 split at h
 ·cases h
 rename_i h1 h2;refine⟨O,λx hx=>?_⟩;have:=List.any_eq_false.1 (Bool.eq_false_iff.2 h2) x hx;unfold Fx at this;simp at this;omega
theorem qc{x:Int}(h:1<=x/\x<=400):sz x<=9:=Nat.le_trans (KA (b:=511) O) wv
def KV(l:List (Int×Int)):Rat:=l.foldl (λa p=>a*Rat.divInt p.1 p.2) 1
def qD(h:i<l.length):KV (l.take (i+1))=KV (l.take i)*Rat.divInt (el l i).1 (el l i).2:=by
 unfold KV;rw[XF h,List.foldl_append];rfl
theorem uC{p:Int×Int}(h:(1<=p.1/\p.1<=400)/\1<=p.2/\p.2<=400):XH (Rat.divInt p.1 p.2)<=18:=by
 have h1:=Ko (a:=p.1) (b:=p.2) O;have h2:=qc h.1;have h3:=qc h.2;omega
def Ov(h:OW l):∀i,i<=l.length->XH (KV (l.take i))<=1+18*i
 |0,_=>by rw[List.take_zero];show XH 1<=1;decide +kernel
 |i+1,hi=>by
  have h1:=Ov h i O;rw[qD hi];have h2:=uC (h.p _ (Ql hi));have h3:=Zg (KV (l.take i)) (Rat.divInt (el l i).1 (el l i).2);omega
def NX(h:OW l):XH (KV l)<=73:=by
 have h1:=Ov h l.length (Nat.le_refl _);rw[List.take_length]at h1;have:=h.n;omega
theorem Ou:∀ {l:List (Int×Int)} {a:Rat},0<a->(∀p∈l,1<=p.1/\1<=p.2)->0<l.foldl (λa p=>a*Rat.divInt p.1 p.2) a
 |[],_,h,_=>h
 |p::l,a,h,hl=>by
  rw[List.foldl_cons];obtain⟨h1,h2⟩:=hl p w9;refine Ou (Rat.mul_pos h ?_) λq hq=>hl q (List.mem_cons_of_mem _ hq);rw[Rat.divInt_eq_div,Rat.div_def];exact Rat.mul_pos (Rat.intCast_lt_intCast.2 (show(0:Int)<p.1 by omega)) (Rat.inv_pos.2 (Rat.intCast_lt_intCast.2 (show(0:Int)<p.2 by omega)))
structure TqI(l:List (Int×Int)) where
 i:Nat
 x:Fr
 le:i<=l.length
def B3(r:Rat):Rat:=if r<0 then -r else r
theorem FX{r:Rat}:Rt r.num<0↔r<0:=by
 rw[QBt];by_cases h:r<0
 ·rw[if_pos h];exact⟨λ_=>h,λ_=>wv⟩
 rw[if_neg h];refine⟨λk=>?_,λk=>absurd k h⟩;split at k<;>omega
theorem F7{n:Nat}(hF:Fits F w)(hR:Qu F q n 2 (l.flatMap uf))(hn:l.length=n)(hb:n<=9223372036854775807):QY prog 57 [.slice q n c] w F (.int .i64 (jR l)):=by
 refine QQ.go (G:=λF=>Qu F q n 2 (l.flatMap uf)) func57 hF hR ?_;refine wA 9 I<|QA (QW I F3)<|QLi 3 I ?_
 refine QL I (λhc2=>?_) λhc2=>?_
 ·have h4:4<l.length:=wm<|QK8 hc2
  refine wA 6 I ?_;exact QL3 I I (congrArg (Value.int .i64) (QGi h4)) tB
 have h4:¬4<l.length:=wm<|QK9 hc2
 refine QLj 6 I<|QA (QW I F3)<|QLi 4 I<|Jo (ι:=V4 l Fx) [(8,_),(9,_)] (λi=>[(10,.int .i64 ((i.i:Nat):Int))]) (λi=>l.length-i.i) (V4.start _ _) wU wT λi=>?_
 have hi:=i.le;refine wA 6 I ?_;refine QL I (λhc2=>?_) λhc2=>?_
 ·have hlt:i.i<l.length:=wm<|QK8 hc2
  refine QLj 6 I<|QA (Qo (n:=n) i.i tC rfl rfl F3 UQ O)<|QA (JG (n:=n) (vs:=[.int .i64 ((el l i.i).1),.int .i64 ((el l i.i).2)]) ((i.i)*2) tC O rfl UQ I λj v hv=>Q4 (f:=uf) (l:=l) ql O hv)<|Qe pj λb4=>QS (vs:=[_,_]) I I I UQ I .here .h2 wU<|QJi<|QKt<|QA (QH I zj QZ)<|QA (Qf I QZ .here .h1)<|wB 2 I ?_
  refine Qn (t:=17) rfl (λhb17=>?_) λhb17=>?_
  ·refine QLi 16 I<|ZB I<|wA 5 I<|X6 ?_
   exact QL3 I I (congrArg (Value.int .i64) (qE h4 (i.hit hlt (by unfold Fx;simp_all)))) tB
  refine QP I I<|QA (QH I zj QZ)<|QP I I<|QA (Qf I QZ .here .h1)<|wB 4 I ?_
  refine Qn (t:=22) rfl (λhb22=>?_) λhb22=>?_
  ·refine QLi 11 I<|ZB I<|wA 5 I<|X6 ?_
   exact QL3 I I (congrArg (Value.int .i64) (qE h4 (i.hit hlt (by unfold Fx;simp_all)))) tB
  refine QP I I<|QA (QH I zi QZ)<|QP I I<|QA (Qf I QZ .here (.skip .h1))<|wB 4 I ?_
  refine Qn (t:=27) rfl (λhb27=>?_) λhb27=>?_
  ·refine QLi 6 I<|ZB I<|wA 5 I<|X6 ?_
   exact QL3 I I (congrArg (Value.int .i64) (qE h4 (i.hit hlt (by unfold Fx;simp_all)))) tB
  refine QP I I<|QA (QH I zi QZ)<|QP I I<|QA (Qf I QZ .here (.skip .h1))<|QLi 5 I ?_
  refine QL I (λhc2=>?_) λhc2=>?_
  ·refine wA 5 I<|X6 ?_
   exact QL3 I I (congrArg (Value.int .i64) (qE h4 (i.hit hlt (by unfold Fx;simp_all)))) tB
  refine QK<|Qa<|QC<|QB<|QA (Qk I I O)<|wB 2 I ?_
  exact Qb (i.next hlt (by unfold Fx;simp_all)) (by show l.length-(i.i+1)<l.length-i.i;omega) wV ((.cons _ QJ3)) tC
 have hge:l.length<=i.i:=wm<|QK9 hc2
 refine Q7 ?_;refine wA 6 I ?_;exact QL3 I I (congrArg (Value.int .i64) (QGj h4 (i.stop hge))) tB
theorem vm{n:Nat}(hF:Fits F w)(hR:Qu F q n 2 (l.flatMap uf))(hn:l.length=n)(hb:n<=9223372036854775807):QY prog 16 [.slice q n c] w F (.int .i64 (jR l)):=by
 refine QQ.go (G:=λF=>Qu F q n 2 (l.flatMap uf)) func16 hF hR ?_;refine wA 9 I<|QA (QW I F3)<|QLi 3 I ?_
 refine QL I (λhc2=>?_) λhc2=>?_
 ·have h4:4<l.length:=wm<|QK8 hc2
  refine wA 6 I ?_;exact QL3 I I (congrArg (Value.int .i64) (QGi h4)) tB
 have h4:¬4<l.length:=wm<|QK9 hc2
 refine QLj 9 I<|Jo (ι:=V4 l Fx) [(0,_)] (λi=>[(3,.int .i64 ((i.i:Nat):Int))]) (λi=>l.length-i.i) (V4.start _ _) wT wT λi=>?_
 have hi:=i.le;refine wA 5 I<|QA (QW I F3)<|QLi 3 I ?_
 refine QL I (λhc2=>?_) λhc2=>?_
 ·have hlt:i.i<l.length:=wm<|QK8 hc2
  refine QLj 8 I<|QA (Qo (n:=n) i.i tC rfl rfl F3 UQ O)<|QA (JG (n:=n) (vs:=[.int .i64 ((el l i.i).1),.int .i64 ((el l i.i).2)]) ((i.i)*2) tC O rfl UQ I λj v hv=>Q4 (f:=uf) (l:=l) ql O hv)<|Qe pj λb4=>QS (vs:=[_,_]) I I I UQ I .here .h2 wU<|QJi<|QKt<|QA (QH I zj QZ)<|QA (Qf I QZ .here .h1)<|wB 2 I ?_
  refine Qn (t:=21) rfl (λhb21=>?_) λhb21=>?_
  ·refine QLi 16 I<|ZB I<|wA 5 I<|X6 ?_
   exact QL3 I I (congrArg (Value.int .i64) (qE h4 (i.hit hlt (by unfold Fx;simp_all)))) tB
  refine QP I I<|QA (QH I zj QZ)<|QP I I<|QA (Qf I QZ .here .h1)<|wB 4 I ?_
  refine Qn (t:=26) rfl (λhb26=>?_) λhb26=>?_
  ·refine QLi 11 I<|ZB I<|wA 5 I<|X6 ?_
   exact QL3 I I (congrArg (Value.int .i64) (qE h4 (i.hit hlt (by unfold Fx;simp_all)))) tB
  refine QP I I<|QA (QH I zi QZ)<|QP I I<|QA (Qf I QZ .here (.skip .h1))<|wB 4 I ?_
  refine Qn (t:=31) rfl (λhb31=>?_) λhb31=>?_
  ·refine QLi 6 I<|ZB I<|wA 5 I<|X6 ?_
   exact QL3 I I (congrArg (Value.int .i64) (qE h4 (i.hit hlt (by unfold Fx;simp_all)))) tB
  refine QP I I<|QA (QH I zi QZ)<|QP I I<|QA (Qf I QZ .here (.skip .h1))<|QLi 5 I ?_
  refine QL I (λhc2=>?_) λhc2=>?_
  ·refine wA 5 I<|X6 ?_
   exact QL3 I I (congrArg (Value.int .i64) (qE h4 (i.hit hlt (by unfold Fx;simp_all)))) tB
  refine QK<|Qa<|QLk 3 I<|QA (Qk I I O)<|wB 2 I ?_
  exact Qb (i.next hlt (by unfold Fx;simp_all)) (by show l.length-(i.i+1)<l.length-i.i;omega) wU ((.cons _ QJ3)) tC
 have hge:l.length<=i.i:=wm<|QK9 hc2
 refine Q7 ?_;refine wA 6 I ?_;exact QL3 I I (congrArg (Value.int .i64) (QGj h4 (i.stop hge))) tB
theorem zX{n:Nat}(hF:Fits F w)(hR:Qu F q n 2 (l.flatMap uf))(hn:l.length=n)(hO:OW l):ZQ prog 24 [.slice q n c] w F (KV l):=by
 have hb:=hO.n;refine QQ.go (G:=λF=>Qu F q n 2 (l.flatMap uf)) func24 hF hR ?_;refine QKt<|Qe VU λb2=>QJi<|QKt<|QJ I (λ_ _ f k=>f_g (n:=1) f O O) λc6=>Qe VU λb3=>QS (vs:=[_,_,_,_]) I I I JA I .here .h4 wW<|QLi 6 I<|QA (QW I F3)<|QLi 4 I<|Vv (ι:=TqI l) [(2,_),(3,_),(7,_),(8,_)] (λi=>[(9,.int .i64 ((i.i:Nat):Int))]) (λi=>[(b3,.cells (S2 i.x).toArray 77 (0,0)),(b2,.cells [.int .i64 0,.slice none 0 0,.int .i64 0,.slice none 0 0].toArray 77 (0,0))]) (λi F=>Jl F i.x (KV (l.take i.i))) (λi=>l.length-i.i) (⟨0,c6,Nat.zero_le _⟩) wW wT QJ3 tE λi=>?_
 have hi:=i.le;refine wA 6 I ?_;refine QL I (λhc2=>?_) λhc2=>?_
 ·have hlt:i.i<l.length:=wm<|QK8 hc2
  have hp:=hO.p _ (Ql hlt);have hs1:=qc hp.1;have hs2:=qc hp.2;have hs3:=uC hp;have hs4:=Ov hO i.i i.le;refine QLj 6 I<|QA (Qo (n:=n) i.i (λF h9=>h9.1.1) rfl rfl F3 UQ O)<|QA (JG (n:=n) (vs:=[.int .i64 ((el l i.i).1),.int .i64 ((el l i.i).2)]) ((i.i)*2) (λF h9=>h9.1.1) O rfl UQ I λj v hv=>Q4 (f:=uf) (l:=l) ql O hv)<|Qe pj λb5=>QS (vs:=[_,_]) I I I UQ I .here .h2 wU<|QJi<|JY 9 QJ3 mixed wu wu ?_
  simp only[List.take_succ_cons,List.take_zero,List.drop_succ_cons,List.drop_zero];refine QI (wJ I JA .u1)<|QI (QH I zj QZ)<|QI (Qf I QZ .here .h1)<|QV I (λ_ _ f k=>Fv (n:=(el l i.i).1) f O O) λc16=>QI (QH I zi QZ)<|QI (Qf I QZ .here (.skip .h1))<|QV I (λ_ _ f k=>Fv (n:=(el l i.i).2) f O O) λc19=>QV I (λ_ _ f k=>AJ f k.1.2 k.2 O O O) λc20=>QV I (λ_ _ f k=>HH f k.1.1.1.2 k.2 O O) λc21=>X1<|QS (vs:=[_,_,_,_]) I I I JA I .u1 .h4 wW<|QF<|Qa<|QC<|QB<|QA (Qk I I O)<|wB 2 I ?_
  exact Qb (⟨i.i+1,c21,hlt⟩) (by show l.length-(i.i+1)<l.length-i.i;omega) wX ((.cons _ QJ3)) λF h9=>⟨⟨h9.1.1.1.1.1.1,h9.1.1.1.1.1.2⟩,(by rw[qD hlt];exact h9.2)⟩
 have hge:l.take i.i=l:=List.take_of_length_le (wm<|QK9 hc2);refine Q7 ?_;refine QKt<|QA (wJ I JA .here)<|QS (vs:=[_,_,_,_]) I I I JA I .u1 .h4 wW<|QJi<|QT ?_
 exact QM (i.x) rfl (.J4 (c:=[_,_,_,_]) I JA .u1 .nil) (rfl) λF ⟨⟨hR,h6⟩,hX⟩=>by rw[hge]at hX;exact hX
theorem QEX{n:Nat}(hF:Fits F w)(hGl:JZ F)(hR:Qu F q n 2 (l.flatMap uf))(hn:l.length=n)(hO:jR l=0):QY prog 17 [.slice q n c] w F (.tuple #[tx (Q6 (KV l)),.int .i64 0]):=by
 have hO2:=OW.of hO;have hb:=hO2.n;have hz:=NX hO2;refine QQ.go (G:=λF=>JZ F/\Qu F q n 2 (l.flatMap uf)) func17 hF ⟨hGl,hR⟩ ?_;refine wA 10 I<|QJ I (λ_ _ f k=>F7 f k.2 hn O) λ_=>QLi 9 I ?_
 refine QL I (λhc2=>?_) λhc2=>?_
 ·exact absurd hc2 ((by rw[hO];decide))
 refine QLj 5 I<|QJ I (λ_ _ f k=>zX f k.1.2 hn hO2) λc11=>QJ I (λ_ _ f k=>Mu f k.1.1.1 k.2 O) λ_=>QLi 5 I ?_
 exact J7 (()) I (wP I I) (rfl) tB
theorem QF9{a:List UInt8}(hF:Fits F w)(hGl:JZ F)(ha:Q9 a=0)(hl:a.length<=1000000):ZQ prog 35 [tx a] w F (B3 (Jc a)):=by
 have hz:=Xt ha;refine QQ.go (G:=λF=>JZ F) func35 hF hGl ?_;refine QKt<|Qe VU λb2=>QLi 5 I<|QJ I (λ_ _ f k=>WS (r:=Jc a) f k (Xa ha).1 O) λc5=>Qe VU λb3=>QS (vs:=[_,_,_,_]) I I I JA I .here .h4 wW<|QLi 5 I<|QA (wJ I JA .here)<|QJ I (λ_ _ f k=>Tg f k.2) λ_=>QLi 3 I ?_
 refine QL I (λhc2=>?_) λhc2=>?_
 ·have hlt:Jc a<0:=FX.1 (QK8 hc2);refine QKt<|QA (wJ I JA .here)<|QJ I (λ_ _ f k=>QBF f k.1.2) λc10=>QS (vs:=[_,_,_,_]) I I I JA I .u1 .h4 wW<|QJi<|QT ?_
  exact QM (c10) rfl (.J4 (c:=[_,_,_,_]) I JA .u1 .nil) (rfl) λF h9=>by unfold B3;rw[if_pos hlt];exact h9.2
 have hge:¬Jc a<0:=λh=>(QK9 hc2) (FX.2 h);refine QLj 4 I<|QA (wJ I JA .here)<|QS (vs:=[_,_,_,_]) I I I JA I .u1 .h4 wW<|QJi<|QT ?_
 exact QM (c5) rfl (.J4 (c:=[_,_,_,_]) I JA .u1 .nil) (rfl) λF h9=>by unfold B3;rw[if_neg hge];exact h9.1.2
def D3(us:List Xe)(i:Nat):Nat:=((us.take i).map λu=>u.fl.length).sum
def Nf(h:i<us.length):D3 us (i+1)=D3 us i+(el us i).fl.length:=by
 unfold D3;rw[XF h];simp
def Dp(us:List Xe):List F2:=us.flatMap Xe.fl
def OT(us:List Xe):(Dp us).length=D3 us us.length:=by
 unfold Dp D3;rw[List.take_length,List.length_flatMap]
theorem pM:∀ {us:List Xe} {i k:Nat},i<us.length->k<(el us i).fl.length->el (Dp us) (D3 us i+k)=el (el us i).fl k
 |u::us,0,k,h,hk=>by
  have e:el (u::us) 0=u:=rfl;rw[e]at hk ⊢;unfold Dp D3;rw[List.take_zero,List.map_nil,List.sum_nil,Nat.zero_add,List.flatMap_cons,J8 (by rw[List.length_append];omega),List.getElem_append_left hk,J8 hk]
 |u::us,i+1,k,h,hk=>by
  have e:el (u::us) (i+1)=el us i:=by unfold el;simp
  rw[e]at hk ⊢;have ih:=pM (us:=us) (i:=i) (k:=k) (by simpa using h) hk;rw[<-ih];unfold Dp D3;rw[List.take_succ_cons,List.map_cons,List.sum_cons,List.flatMap_cons];unfold el;rw[List.getD_eq_getElem?_getD,List.getD_eq_getElem?_getD,List.getElem?_append_right O,show u.fl.length+(List.map (λu:Xe=>u.fl.length) (List.take i us)).sum+k-u.fl.length=(List.map (λu:Xe=>u.fl.length) (List.take i us)).sum+k by omega]
def QFg(h:i<=us.length):D3 us i<=D3 us us.length:=by
 unfold D3;rw[List.take_length]
 conv=>rhs;rw[<-List.take_append_drop i us,List.map_append,List.sum_append]
 omega
structure ItF{ι:Type}(P:Nat->ι->Prop)(us:List Xe) where
 i:Nat
 s:ι
 le:i<=us.length
 ok:P (D3 us i) s
structure ItG{ι:Type}(P:Nat->ι->Prop)(us:List Xe)(i:Nat) where
 k:Nat
 s:ι
 le:k<=(el us i).fl.length
 ok:P (D3 us i+k) s
def ItF.fin{ι:Type}{P:Nat->ι->Prop}(q:ItF P us)(h:us.length<=q.i):P (D3 us us.length) q.s:=by
 obtain⟨i,s,le,ok⟩:=q;obtain rfl:i=us.length:=Nat.le_antisymm le h;exact ok
theorem kZ{ι:Type}{B:ι->List (Nat×Obj)}{H:ι->Gs->Prop}{P:Nat->ι->Prop}{p:ZL}{b1 L:Nat} 
  (hH:∀s F,H s F->F b1=some (#[Qs p.sh,.slice p.un.q p.un.n p.un.cap,.slice p.ot.q p.ot.n p.ot.cap],25)/\KO F p) (LU:p.ul.length=p.un.n) (hun:p.un.n<=1000000) (hfn:∀u∈p.ul,u.fl.length=u.fd.n/\u.fd.n<=1000000)
  (hround:∀(G:Gs->Prop) (s:ι) (j:Nat) (f:F2) (W:World),el (Dp p.ul) j=f->j<(Dp p.ul).length->P j s->St ⟨w0,F0,B s,λF=>G F/\H s F⟩ W->YieldAt Fence.wide 0 prog L #[.agg #[.int .i64 f.k,tx f.r]] W λe W'=>e = .returned (.bool true)/\∃s',P (j+1) s'/\St ⟨w0,F0,B s',λF=>G F/\H s' F⟩ W')
  (s0:ι) (h0:P 0 s0) :
  Jn prog 73 [.func (.yield L) #[] #[],.pointer (some ⟨b1,0,none⟩)] ⟨w0,F0,B s0,H s0⟩ (λ(_:{ s:ι // P (Dp p.ul).length s })=>.tuple #[]) (λs=>⟨w0,F0,B s.1,H s.1⟩):=by
 refine Jn.intro func73 rfl w8 rfl rfl<|J_G (G':=λF=>H s0 F/\H s0 F) (λF h=>And.intro h h)<|QKt<|QA (QH rfl XS Jj)<|QA (Qg (n:=1) ((0)*3+1) (λF h9=>(Qu.of (n:=1) (sz:=3) (hH _ _ h9.1).1 rfl)) O rfl Jj rfl)<|QA (QW rfl Xr)<|QJj rfl<|QJi<|QO<|Vv (ι:=ItF P p.ul) [(0,_),(8,_),(9,_)] (λi=>[(10,.int .i64 ((i.i:Nat):Int))]) (λi=>B i.s) (λi F=>H i.s F) (λi=>p.ul.length-i.i) (⟨0,s0,Nat.zero_le _,h0⟩) wV wT QJ3 tD λi=>?_
 have hi:=i.le;refine wA 6 I ?_;refine QL I (λhc2=>?_) λhc2=>?_
 ·have hlt:i.i<p.ul.length:=wm<|QK8 hc2
  have hum:=Ql hlt;have hfu:=hfn _ hum;refine QLj 6 I<|QA (Qo (n:=p.un.n) i.i (λF h9=>(hH _ _ h9.1.1).2.un) rfl rfl Xr XJ O)<|QA (JG (n:=p.un.n) (vs:=[tx (el p.ul i.i).kd,.slice (el p.ul i.i).fd.q (el p.ul i.i).fd.n (el p.ul i.i).fd.cap,Qs ((el p.ul i.i).ou),tx (el p.ul i.i).st,.slice (el p.ul i.i).cv.q (el p.ul i.i).cv.n (el p.ul i.i).cv.cap]) ((i.i)*5) (λF h9=>(hH _ _ h9.1.1).2.un) O rfl XJ I λj v hv=>Q4 (f:=MJ) (l:=p.ul) ZO O hv)<|Qe Ni λb4=>QS (vs:=[_,_,_,_,_]) I I I XJ I .here .h5 wX<|QJi<|QKt<|QA (QH I ZV XK)<|QA (Qf I XK .here (.skip .h1))<|QA (QW I Zz)<|QLi 4 I<|Vv (ι:=ItG P p.ul i.i) [(0,_),(8,_),(9,_),(10,_),(15,_),(16,_)] (λk=>[(17,.int .i64 ((k.k:Nat):Int))]) (λk=>B k.s) (λk F=>H k.s F) (λk=>(el p.ul i.i).fl.length-k.k) (⟨0,i.s,Nat.zero_le _,i.ok⟩) wY wT (.cons _ QJ3) tE λk=>?_
  have hk:=k.le;refine wA 6 I ?_;refine QL I (λhc2=>?_) λhc2=>?_
  ·have hlk:k.k<(el p.ul i.i).fl.length:=wm<|QK8 hc2
   refine QLj 6 I<|QA (Qo (n:=(el p.ul i.i).fd.n) (k.k) (λF h9=>(((hH _ _ h9.1.1.1).2.us _ (Ql (show i.i<p.ul.length from O)))).fd) rfl rfl Zz YC O)<|QA (JG (n:=(el p.ul i.i).fd.n) (vs:=[.int .i64 ((el (el p.ul i.i).fl (k.k)).k),tx (el (el p.ul i.i).fl (k.k)).r]) ((k.k)*2) (λF h9=>(((hH _ _ h9.1.1.1).2.us _ (Ql (show i.i<p.ul.length from O)))).fd) O rfl YC I λj v hv=>Q4 (f:=BV) (l:=(el p.ul i.i).fl) Zw O hv)<|Qe yi λb6=>QS (vs:=[_,_]) I I I YC I .here .h2 wU<|QF<|QC ?_
   refine Ba (ι:={ s:ι // P (D3 p.ul i.i+(k.k+1)) s }) [(0,_),(8,_),(9,_),(10,_),(15,_),(16,_),(17,_)] (λs23=>[(24,.bool (false))]) (λs23=>B s23.1) (λs23 F=>H s23.1 F) wZ ?_ ?_
   ·refine C3 2 rfl ?_;simp only[List.take_succ_cons,List.take_zero,List.drop_succ_cons,List.drop_zero];refine QJj I<|QA (wH I YC .here)<|QF<|jK ?_
    refine C7 (E':=λs':{ s:ι // P (D3 p.ul i.i+(k.k+1)) s }=>⟨w0,F0,B s'.1,λF=>(((H s0 F/\H s0 F)/\H i.s F)/\H k.s F)/\H s'.1 F⟩) I I (λW hW=>?_) λs23=>?_
    ·obtain⟨fn,tmps,assign,body,e1,e2⟩:=hround (λF=>((H s0 F/\H s0 F)/\H i.s F)/\H k.s F) k.s (D3 p.ul i.i+k.k) (el (el p.ul i.i).fl k.k) W (by rw[pM hlt hlk]) (by have:=Nf hlt;have:=QFg (us:=p.ul) (show i.i+1<=p.ul.length by omega);rw[OT];omega) k.ok (hW.imp (List.sublist_append_right [_] _) λF h=>⟨h,h.2⟩);exact⟨fn,tmps,assign,body,e1,e2.mono λe w' ⟨h2,s',h3,h4⟩=>⟨h2,⟨s',h3⟩,h4⟩⟩
    refine yf (λ⟨_,_,h⟩=>h) rfl<|QA (YD I)<|QF ?_
    exact XG (s23) (by repeat first | exact trivial | refine⟨rfl,?_⟩) QJ3 λF h=>⟨h.1,h.2⟩
   intro s23;refine QL I (λhc2=>?_) λhc2=>?_
   ·exact absurd hc2 (by cases hc2)
   refine QK<|Qa<|QC<|QB<|QA (Qk I I O)<|wB 2 I ?_
   exact Qb (⟨k.k+1,s23.1,hlk,s23.2⟩) (by show(el p.ul i.i).fl.length-(k.k+1)<(el p.ul i.i).fl.length-k.k;omega) wZ QJ3 λF h=>⟨h.1.1,h.2⟩
  have hgk:(el p.ul i.i).fl.length<=k.k:=wm<|QK9 hc2
  refine Q7 ?_;refine QB<|QA (Qk I I O)<|wB 2 I ?_
  exact Qb (⟨i.i+1,k.s,hlt,by rw[Nf hlt];have:=k.ok;rwa [show k.k=(el p.ul i.i).fl.length from wm k.le]at this⟩) (by show p.ul.length-(i.i+1)<p.ul.length-i.i;omega) wW QJ3 λF h=>⟨h.1.1,h.2⟩
 have hge:p.ul.length<=i.i:=wm<|QK9 hc2
 refine Y5 ?_
 repeat first|refine XD ?_|refine J0 w8 ?_
 refine XE<|Dv ?_
 exact ZN (⟨i.s,by rw[OT];exact i.fin hge⟩) I .nil (rfl) λw h=>h.imp QJ3 tE
theorem cJ{p:ZL}(hF:Fits F w):QQ prog 33 [p.v] w F (λ(c:Nat)=>.func (.func 73) #[] #[.pointer (some ⟨c,0,none⟩)]) (λc F=>F c=some (#[Qs p.sh,.slice p.un.q p.un.n p.un.cap,.slice p.ot.q p.ot.n p.ot.cap],25)):=by
 refine QQ.go (G:=λF=>True) func33 hF trivial ?_;refine QKt<|Q8 I (vs:=[_,_,_]) I λb1=>QLi 5 I<|B8 (b:=b1) .here<|QA (EF I)<|wR I<|QT ?_
 exact QM (b1) rfl (wO I) (rfl) tE
abbrev FU:=Sr×List (Int×Int)
variable{ts:List FU}
structure Tu(F:Gs)(q:Option Addr)(n:Nat)(ts:List FU):Prop where
 row:Qu F q n 1 (ts.map λe=>e.1.v)
 len:ts.length=n
 tr:∀e∈ts,Qu F e.1.q e.1.n 2 (e.2.flatMap uf)/\e.2.length=e.1.n
theorem Tu.le{n:Nat}(h:Tu F q n ts)(k:Gs.le F F'):Tu F' q n ts:=⟨h.row.le k,h.len,λe he=>⟨(h.tr e he).1.le k,(h.tr e he).2⟩⟩
instance{q:Option Addr}{n:Nat}{ts:List FU}:Up (λF=>Tu F q n ts):=⟨λk h=>Tu.le h k⟩
section
variable{w0:World}{F0:Gs}{bs:List (Nat×Obj)}{G:Gs->Prop}
theorem QDM{r:Sr}{l:List F2}(hG:∀F,G F->Qu F r.q r.n 2 (l.flatMap BV))(hl:r.n<=1000000):
  Jn prog 22 [r.v] ⟨w0,F0,bs,G⟩ (λ(c:Value×List (Nat×Obj))=>c.1) (λc=>⟨w0,F0,bs++c.2,λF=>G F/\Qp 61 2 c.1 r.n (l.flatMap BV) c.2⟩):=by
 obtain⟨q,n,c⟩:=r;dsimp only[Sr.v]at hl ⊢;refine Jn.intro func22 rfl w8 rfl rfl<|MY hG<|QKt<|wR rfl<|QG<|wS rfl<|QA (FZ rfl rfl Zz)<|QF<|QC ?_
 refine QL I (λhc=>?_) λhc=>?_
 ·obtain rfl:q=none:=by
   cases q with
   |none=>rfl
   |some a=>cases hc
  refine wA 6 I ?_;exact ZN (⟨.slice none 0 0,[]⟩) I (wO I) (rfl) λw h=>St.imp h w9 λF h9=>⟨h9.1,CH h9.2⟩
 refine Xy _ (λ_ F _ h=>h.2.1) (λhcl=>?_);obtain⟨a,rfl⟩:∃a,q=some a:=by
  cases q with
  |none=>cases hc
  |some a=>exact⟨a,rfl⟩
 refine QLj 4 I<|Zv (JR Zz) YC λb5=>QJj rfl<|Xu (bs':=bs++[(b5,.cells ([]++[]:List Value).toArray 61 (0,0))]) (List.perm_append_comm (l₁:=[_]))<|Zj (ob:=[(b5,.cells ([]++[]:List Value).toArray 61 (0,0))]) (n:=0) (k:=n) (sz:=2) (news:=l.flatMap BV) rfl rfl Zz YC yi rfl QJY (.some rfl rfl (Nat.le_refl _) wv) (Src.O3 (λe=>by cases e) tE hcl) O O (λv hv=>QGD l v hv) λv7 ob7 hr7=>?_
 rw[Nat.zero_add,List.nil_append]at hr7;refine wR I<|QT ?_
 exact ZN (⟨v7,ob7⟩) I (wO I) (rfl) λw h=>St.imp h QJ3 λF h9=>⟨h9.1,hr7⟩
theorem QDJ{r:Sr}{l:List (List UInt8)}(hG:∀F,G F->Qu F r.q r.n 1 (l.map tx))(hl:r.n<=1000000):
  Jn prog 23 [r.v] ⟨w0,F0,bs,G⟩ (λ(c:Value×List (Nat×Obj))=>c.1) (λc=>⟨w0,F0,bs++c.2,λF=>G F/\Qp 45 1 c.1 r.n (l.map tx) c.2⟩):=by
 obtain⟨q,n,c⟩:=r;dsimp only[Sr.v]at hl ⊢;refine Jn.intro func23 rfl w8 rfl rfl<|MY hG<|QKt<|wR rfl<|QG<|wS rfl<|QA (FZ rfl rfl YI)<|QF<|QC ?_
 refine QL I (λhc=>?_) λhc=>?_
 ·obtain rfl:q=none:=by
   cases q with
   |none=>rfl
   |some a=>cases hc
  refine wA 6 I ?_;exact ZN (⟨.slice none 0 0,[]⟩) I (wO I) (rfl) λw h=>St.imp h w9 λF h9=>⟨h9.1,CH h9.2⟩
 refine Xy _ (λ_ F _ h=>h.2.1) (λhcl=>?_);obtain⟨a,rfl⟩:∃a,q=some a:=by
  cases q with
  |none=>cases hc
  |some a=>exact⟨a,rfl⟩
 refine QLj 4 I<|Zv (JR YI) JP λb5=>QJj rfl<|Xu (bs':=bs++[(b5,.cells ([]++[]:List Value).toArray 45 (0,0))]) (List.perm_append_comm (l₁:=[_]))<|Zj (ob:=[(b5,.cells ([]++[]:List Value).toArray 45 (0,0))]) (n:=0) (k:=n) (sz:=1) (news:=l.map tx) rfl rfl YI JP yk rfl kj (.some rfl rfl (Nat.le_refl _) wv) (Src.O3 (λe=>by cases e) tE hcl) O O (λv hv=>by obtain⟨s,_,rfl⟩:=List.mem_map.1 hv;rfl) λv7 ob7 hr7=>?_
 rw[Nat.zero_add,List.nil_append]at hr7;refine wR I<|QT ?_
 exact ZN (⟨v7,ob7⟩) I (wO I) (rfl) λw h=>St.imp h QJ3 λF h9=>⟨h9.1,hr7⟩
theorem QDL{r:Sr}{l:List Int}(hG:∀F,G F->Qu F r.q r.n 1 (l.map Qs))(hl:r.n<=1000000):
  Jn prog 20 [r.v] ⟨w0,F0,bs,G⟩ (λ(c:Value×List (Nat×Obj))=>c.1) (λc=>⟨w0,F0,bs++c.2,λF=>G F/\Qp 3 1 c.1 r.n (l.map Qs) c.2⟩):=by
 obtain⟨q,n,c⟩:=r;dsimp only[Sr.v]at hl ⊢;refine Jn.intro func20 rfl w8 rfl rfl<|MY hG<|QKt<|wR rfl<|QG<|wS rfl<|QA (FZ rfl rfl Qd)<|QF<|QC ?_
 refine QL I (λhc=>?_) λhc=>?_
 ·obtain rfl:q=none:=by
   cases q with
   |none=>rfl
   |some a=>cases hc
  refine wA 6 I ?_;exact ZN (⟨.slice none 0 0,[]⟩) I (wO I) (rfl) λw h=>St.imp h w9 λF h9=>⟨h9.1,CH h9.2⟩
 refine Xy _ (λ_ F _ h=>h.2.1) (λhcl=>?_);obtain⟨a,rfl⟩:∃a,q=some a:=by
  cases q with
  |none=>cases hc
  |some a=>exact⟨a,rfl⟩
 refine QLj 4 I<|Zv (JR Qd) QZ λb5=>QJj rfl<|Xu (bs':=bs++[(b5,.cells ([]++[]:List Value).toArray 3 (0,0))]) (List.perm_append_comm (l₁:=[_]))<|Zj (ob:=[(b5,.cells ([]++[]:List Value).toArray 3 (0,0))]) (n:=0) (k:=n) (sz:=1) (news:=l.map Qs) rfl rfl Qd QZ Hj rfl Ws (.some rfl rfl (Nat.le_refl _) wv) (Src.O3 (λe=>by cases e) tE hcl) O O (Td l) λv7 ob7 hr7=>?_
 rw[Nat.zero_add,List.nil_append]at hr7;refine wR I<|QT ?_
 exact ZN (⟨v7,ob7⟩) I (wO I) (rfl) λw h=>St.imp h QJ3 λF h9=>⟨h9.1,hr7⟩
theorem QBR{r:Sr}{l:List F2}(hG:∀F,G F->Qu F r.q r.n 2 (l.flatMap BV))(hl:r.n<=1000000)(h0:0<r.n):
  Jn prog 22 [r.v] ⟨w0,F0,bs,G⟩ (λ(c:Nat×Nat×{ rest:List Value // (l.flatMap BV).length=r.n*2 })=>.slice (some ⟨c.1,0,none⟩) r.n c.2.1)
   (λc=>⟨w0,F0,(c.1,.cells (l.flatMap BV++c.2.2.1).toArray 61 (0,0))::bs,λF=>G F/\r.n<=c.2.1⟩):=by
 have h:=QDM (w0:=w0) (F0:=F0) (bs:=bs) hG hl;refine⟨h.1,λw hw=>(h.2 w hw).mono ?_⟩;rintro e w' ⟨⟨v,ob⟩,rfl,hst⟩;obtain⟨F1,h1⟩:=id hst;obtain⟨b,cap,rest,e1,e2,e3,e4,e5,e6⟩:=(h1.hG).2.pos h0;dsimp only at e1 e2 hst;subst e1 e2;exact⟨⟨b,cap,rest,e3⟩,rfl,(hst.perm List.perm_append_comm).Bs λF h=>⟨h.1,e5⟩⟩
end
section
variable{w:World}{F:Gs}
theorem QDI{r:Sr}{l:List (List UInt8)}(hF:Fits F w)(hR:Qu F r.q r.n 1 (l.map tx))(hl:r.n<=1000000):QQ prog 23 [r.v] w F (λ(c:Sr)=>c.v) (λc F=>Qu F c.q c.n 1 (l.map tx)/\c.n=r.n):=by
 have h:=QDJ (w0:=w) (F0:=F) (bs:=[]) (G:=λF'=>Gs.le F F') (r:=r) (l:=l) (λF' h=>hR.le h) hl;refine⟨h.1,(h.2 w (St.start hF λ_ h=>h)).mono ?_⟩;rintro e w' ⟨⟨v,ob⟩,rfl,hw⟩;obtain⟨F1,h1⟩:=id hw;have ho:=(h1.hG).2;dsimp only at ho hw;obtain⟨s,hv,hsn,hsc,hfix⟩:=Qp.fix (w0:=w) (F0:=F) (bs1:=[]) ho;obtain⟨F',h'⟩:=hfix w' hw;exact⟨s,F',by rw[hv],h'.ext,h'.le,h'.old,h'.fits,λF'' hle=>⟨by rw[hsn];exact(h'.g F'' hle).2,hsn⟩⟩
theorem QDK{r:Sr}{l:List Int}(hF:Fits F w)(hR:Qu F r.q r.n 1 (l.map Qs))(hl:r.n<=1000000):QQ prog 20 [r.v] w F (λ(c:Sr)=>c.v) (λc F=>Qu F c.q c.n 1 (l.map Qs)/\c.n=r.n):=by
 have h:=QDL (w0:=w) (F0:=F) (bs:=[]) (G:=λF'=>Gs.le F F') (r:=r) (l:=l) (λF' h=>hR.le h) hl;refine⟨h.1,(h.2 w (St.start hF λ_ h=>h)).mono ?_⟩;rintro e w' ⟨⟨v,ob⟩,rfl,hw⟩;obtain⟨F1,h1⟩:=id hw;have ho:=(h1.hG).2;dsimp only at ho hw;obtain⟨s,hv,hsn,hsc,hfix⟩:=Qp.fix (w0:=w) (F0:=F) (bs1:=[]) ho;obtain⟨F',h'⟩:=hfix w' hw;exact⟨s,F',by rw[hv],h'.ext,h'.le,h'.old,h'.fits,λF'' hle=>⟨by rw[hsn];exact(h'.g F'' hle).2,hsn⟩⟩
end
theorem Ao{p:ZL}{n:Nat}(hF:Fits F w)(hGl:JZ F)(hP:KO F p)(hL:qB p)(h0:KL p=0)(hT:Tu F q n ts)(hok:∀e∈ts,jR e.2=0)(hn:(Dp p.ul).length=ts.length)(hnb:n<=1000000)(hfn:∀u∈p.ul,u.fl.length=u.fd.n/\u.fd.n<=1000000):QY prog 19 [p.v,.slice q n c] w F (.int .i64 0):=by
 have LU:=hP.MK;have hun:=hL.un;have hlen:=hT.len;refine QQ.zQ (G:=λF=>JZ F/\KO F p/\Tu F q n ts) func19 I w8 rfl rfl hF (λF' hF'=>⟨hGl.le hF',hP.le hF',hT.le hF'⟩)<|QKt<|Q8 I (vs:=[_,_,_]) I λb2=>QLi 5 I<|Jf (b:=b2) .here<|QB<|QA (JG (n:=1) (vs:=[Qs p.sh,.slice p.un.q p.un.n p.un.cap,.slice p.ot.q p.ot.n p.ot.cap]) ((0)*3) (λF h9=>(Qu.of (n:=1) (sz:=3) h9.2 I)) O rfl Zf I λj v hv=>by simpa using hv)<|QJ I (λ_ _ f k=>Rc f k.1.1 k.1.2.1 hL) λ_=>QLi 9 I ?_
 refine QL I (λhc2=>?_) λhc2=>?_
 ·exact absurd hc2 ((by rw[h0];decide))
 refine QLj 4 I<|Qe Hj λb6=>QS (vs:=[_]) I I I QZ I .here .h1 wT<|QLi 5 I<|QA (JG (n:=1) (vs:=[Qs p.sh,.slice p.un.q p.un.n p.un.cap,.slice p.ot.q p.ot.n p.ot.cap]) ((0)*3) (λF h9=>(Qu.of (n:=1) (sz:=3) h9.1.2 I)) O rfl Zf I λj v hv=>by simpa using hv)<|QJ I (λ_ _ f k=>cJ (p:=p) f) λc16=>QJi<|QO<|QAC (λG hG=>?_)
 have hfa:∀F,G F->F c16=some (#[Qs p.sh,.slice p.un.q p.un.n p.un.cap,.slice p.ot.q p.ot.n p.ot.cap],25)/\KO F p:=λF h=>by
  obtain⟨⟨⟨⟨hGl,hP,hT⟩,hz2⟩,_⟩,h16⟩:=hG F h;exact⟨h16,hP⟩
 have hfb:∀F,G F->Tu F q n ts:=λF h=>by
  obtain⟨⟨⟨⟨hGl,hP,hT⟩,hz2⟩,_⟩,h16⟩:=hG F h;exact hT
 refine RV (ι:=Nat) (λs=>[(b6,.cells [.int .i64 ((s:Nat):Int)].toArray 3 (0,0))]) (λs F=>True) (λs=>s=(Dp p.ul).length) rfl (enters_of func73 w8 rfl) (λL D rr W hrec hst=>?_) λD s hs=>?_
 ·have hm:=kZ (ι:=Nat) (w0:=w) (F0:=F) (B:=λs=>(L,.loop rr)::(D,.deferred (some []))::[(b6,.cells [.int .i64 ((s:Nat):Int)].toArray 3 (0,0))]) (H:=λs F=>G F/\True) (P:=λj s=>s=j) (p:=p) (b1:=c16) (L:=L) (λs F h=>hfa F h.1) LU hun hfn (λG' s j f W hf hj hp hst=>?_) 0 rfl
  ·refine(hm.2 W (hst.Bs λF h=>⟨h,trivial⟩)).mono ?_;rintro e w' ⟨s,rfl,h⟩;exact⟨⟨_,rfl⟩,s.1,s.2,h⟩
  letI:Df:=KB;refine Nj hst .here (by rw[hrec.params];rfl) (RO hrec _ wv) ?_;rw[hrec.assign,hrec.body];refine pX<|Oe .here hrec.state<|FR<|DB (W7 L) (λ⟨_,_,h⟩=>h) rfl<|QA (Qf I QZ .u2 .h1)<|QA (Qk I I O)<|QS (vs:=[_]) I I I QZ I .u2 .h1 wT<|QF<|Qa ?_
  refine Od .here (λw1 hw1=>⟨rfl,s+1,by rw[hp],?_⟩);rw[N4 hrec]at hw1;refine St.imp hw1 QJ3 λF h9=>⟨h9.1,h9.2.1,trivial⟩
 letI:Df:=Vz D;have hsn:n=s:=O;subst hsn;refine Qa<|QLk 4 I<|QA (Qf I QZ .u1 .h1)<|QJj I<|QA (QW I Ue)<|QLi 3 I ?_
 refine QL I (λhc2=>?_) λhc2=>?_
 ·exact absurd hc2 (w9)
 refine QLj 6 I<|QA (QW I Ue)<|QLi 4 I<|Jo (ι:=IxJ ts.length) [(24,_),(25,_)] (λi=>[(26,.int .i64 ((i.i:Nat):Int))]) (λi=>ts.length-i.i) (⟨0,Nat.zero_le _⟩) wU wT λi=>?_
 have hi:=i.le;refine wA 6 I ?_;refine QL I (λhc2=>?_) λhc2=>?_
 ·have hlt:i.i<ts.length:=wm<|QK8 hc2
  have hem:=Ql hlt;refine QLj 6 I<|QA (Qo (n:=n) i.i (λF h9=>(hfb _ h9.1).row) rfl rfl Ue LX O)<|QA (Qg (n:=n) ((i.i)*1) (λF h9=>(hfb _ h9.1).row) O rfl LX (ZF (f:=λe:FU=>e.1.v) (l:=ts) O))<|QLi 6 I<|QJ I (λ_ _ f k=>F7 f ((hfb _ k.1).tr _ hem).1 ((hfb _ k.1).tr _ hem).2 (by have:=(OW.of (hok _ hem)).n;have:=(hT.tr _ hem).2;omega)) λ_=>QLi 9 I ?_
  refine QL I (λhc2=>?_) λhc2=>?_
  ·exact absurd hc2 ((by rw[hok _ hem];decide))
  refine QK<|Qa<|QC<|QB<|QA (Qk I I O)<|wB 2 I ?_
  exact Qb (⟨i.i+1,hlt⟩) (by show ts.length-(i.i+1)<ts.length-i.i;omega) wV QJ3 tD
 refine Q7 ?_;refine wA 6 I<|C8 .here ?_
 letI:Df:=KB;exact QL3 I I (rfl) tB
theorem QFV{p:ZL}{n:Nat}(hF:Fits F w)(hP:KO F p)(hM:UH p n)(hn:n<=8)(hL:Ty p D R)(hb:p.un.n<=1000000):QQ prog 56 [p.v] w F (λ(c:ARd)=>.tuple #[.agg #[c.nv,c.rt.v,c.sv],c.sh.v]) (λc F=>pc F c):=by
 have LU:=hP.MK;have hV:=hM.v;have hs1:=hV.sh;have hon:=hV.ord;have hN9:=L7 hM hn;have hl8:=Nat.le_trans hM.un hn;have hub:UnB p.ul:=λu hu=>by have h1:=Z5 (hV.us u hu);have h2:=(hP.us u hu).MQ;omega
 have hou:∀u∈p.ul,0<=u.ou/\u.ou<p.sh:=λu hu=>wm<|(hV.us u hu).ou
 refine QQ.go (G:=λF=>KO F p) func56 hF hP ?_;refine QKt<|Q8 I (vs:=[_,_,_]) I λb1=>Qe vC λb2=>wR I<|QG<|Jf (b:=b1) .u1<|QB<|QA (Z7 tE rfl Zf I)<|QJ I (λ_ _ f k=>Ut f k.1 O) λ_=>QLi 5 I<|QA (QH I WT QZ)<|QA (Qy 0 (λF h9=>h9.1.2) rfl QZ I)<|Y8 (n:=p.sh.toNat) (bytes:=24) wN wN KW YY vB I yJ O O λb28=>?_
 rw[ph];refine QLi 7 I<|QJ I (λ_ _ f h=>Un (v:=0) (k:=(Yq p.ul)) f O O) λc31=>QA (Qj (i:=0) rfl wN KW YY O)<|QS (vs:=[_]) I I I YY I .here (BI (f:=(λe:Y1=>e.1.v)) (l:=List.replicate p.sh.toNat qS) (i:=0) tA c31) wT<|QJi<|QKt<|QA (Z7 (λF h9=>h9.1.1.2) rfl Zf I)<|QJ I (λ_ _ f k=>kD f k.1.1.1 hb O hou) λc34=>JM _ (λ_ _ f k=>k.2.2.1) λhn34=>QLi 6 I<|Y8 (n:=(Yq p.ul)) (bytes:=24) wN wN KW YY vB I yJ O O λb36=>?_
 rw[ph];refine QA (Jr I QGs vC (.cons (vs:=[_]) I I I (.skip .h1) .nil))<|Qe vC λb7=>QS (vs:=[_,_,_]) I I I UR I .here .h3 wV<|QLi 14 I<|ZH (ι:=Rd1 p D R) [(1,_),(2,_),(4,_),(5,_),(6,_),(7,_)] (λi=>[(8,i.mv),(9,.int .i64 ((i.i:Nat):Int))]) (λi=>(b7,.cells [i.nv,.slice (some ⟨b36,0,none⟩) (Yq p.ul) (Yq p.ul),i.sv].toArray 41 (0,0))::(b36,.cells ((List.replicate (Yq p.ul) qS).map (λe:Y1=>e.1.v)++[]).toArray 49 (0,0))::(b28,.cells ((i.ps).map (λe:Y1=>e.1.v)++[]).toArray 49 (0,0))::(b2,.cells [.slice none 0 0,.slice none 0 0,.slice none 0 0].toArray 41 (0,0))::(i.nob++(i.sob++i.mob))) (λi F=>LN F i.ps i.Sh) (λi=>p.ul.length-i.i) (⟨0,(List.replicate p.sh.toNat qS).set 0 c31,(List.replicate p.sh.toNat []).set 0 [(1,(List.replicate ((Yq p.ul)+1) (0:Int)).set 0 1)],.slice none 0 0,[],[],.slice none 0 0,[],[],.slice none 0 0,[],Nat.zero_le _,Sv.start hL hs1.1,w9,.nil,.nil,.nil,rfl,rfl⟩) wY wU (hg:=λF h=>LN.set (LN.zero F _) w9 (by rw[tL1];exact h.1.2)) λi=>wA 4 I<|QA (QH I XS Jj)<|QA (Qy 1 (λF h9=>h9.1.1.1.1.2) rfl Jj I)<|QA (QW I Xr)<|QLi 3 I ?_
 refine QL I (λhc2=>?_) λhc2=>?_
 ·have hlt:i.i<p.ul.length:=wm<|QK8 hc2
  have ho1:=hV.ou hlt;have hlk:=i.lk;have hll:=i.le;refine QLj 7 I<|QA (QH I Av Nr)<|QA (Qf I Nr .here .h1) ?_
  obtain⟨q48,c48,hv48⟩:=i.hn.Jh;refine QA (QW (q:=q48) (n:=i.nl.length) (c:=c48) (by show some i.nv=_;rw[hv48]) Ma)<|Qw I (JR Qd) QZ Hj I I λb49=>Xu QI7 ?_
  refine DA (n:=i.i) (k:=1) (sz:=1) (news:=[.int .i64 ((i.nl.length:Nat):Int)]) I I Qd QZ Hj I Ws i.hm (Src.row (off:=0) tE (λj q hq=>by rw[Nat.zero_add];rw[List.getElem?_toArray];exact hq) rfl) O O (by intro v hv;rw[List.mem_singleton.1 hv];rfl) (λv50 ob50 hr50=>?_);refine Xu QI7.symm ?_;rw[show(qP p i.i).map Qs++[.int .i64 ((i.nl.length:Nat):Int)]=(qP p (i.i+1)).map Qs by rw[QC4,List.map_append,i.nn];rfl]at hr50;refine QLi 5 I<|QA (QH I XS Jj)<|QA (Qy 1 (λF h9=>h9.1.1.1.1.1.2) rfl Jj I)<|QJj I<|QA (Qo (n:=p.un.n) i.i (λF h9=>h9.1.1.1.1.1.1.un) rfl rfl Xr XJ O)<|QA (JG (n:=p.un.n) (vs:=[tx (el p.ul i.i).kd,.slice (el p.ul i.i).fd.q (el p.ul i.i).fd.n (el p.ul i.i).fd.cap,Qs ((el p.ul i.i).ou),tx (el p.ul i.i).st,.slice (el p.ul i.i).cv.q (el p.ul i.i).cv.n (el p.ul i.i).cv.cap]) ((i.i)*5) (λF h9=>h9.1.1.1.1.1.1.un) O rfl XJ I λj v hv=>Q4 (f:=MJ) (l:=p.ul) ZO O hv)<|Qe Ni λb10=>QS (vs:=[_,_,_,_,_]) I I I XJ I .here .h5 wX<|QJi<|QG<|Jf (b:=b10) .here<|QB<|QA (QH I Ks YZ)<|QA (Qy 0 tE rfl YZ I)<|QA (ZD I I)<|QF<|QC ?_
  refine QL I (λhc2=>?_) λhc2=>?_
  ·have hI1:P8 (el p.ul i.i)=true:=by simpa[P8,Vj]using hc2
   have hlI:=QJG hlt hI1;have hnn:=i.nn;have hrl:=QHd (x:=((i.nl.length:Nat):Int)+1) O;refine QG<|JY 11 (.cons₂ _ (.cons₂ _ (.cons₂ _ (.cons₂ _ (List.sublist_append_right _ _))))) mixed wu wu ?_
   simp only[List.take_succ_cons,List.take_zero,List.drop_succ_cons,List.drop_zero];refine QI (QH I Av Nr)<|QI (Qf I Nr .here .h1)<|QI (QH I Av Nr)<|QI (Qf I Nr .here .h1) ?_
   obtain⟨q63,c63,hv63⟩:=i.hn.Jh;refine QI (QW (q:=q63) (n:=i.nl.length) (c:=c63) (by show some i.nv=_;rw[hv63]) Ma)<|QI (Qk I I O)<|QV I (λ_ _ f k=>IS f O) λ_=>QI (XP (a:=[122]) I I (by simp only[List.length_cons,List.length_nil];omega)) ?_
   refine Jp I (JR Ma) YZ z_9 I I (λb67=>?_) (λw h=>h.imp (.cons_cons _ (.cons_cons _ (.cons_cons _ (.cons_cons _ (List.sublist_append_right _ _))))) tD);refine Km QI6 ?_;refine Kn (n:=i.nl.length) (k:=1) (sz:=1) (news:=[tx ([122]++Q6 ((((i.nl.length:Nat):Int)+1:Int):Rat))]) I I Ma YZ z_9 I QEp i.hn (Src.row (off:=0) tE (λj q hq=>by rw[Nat.zero_add];rw[List.getElem?_toArray];exact hq) rfl) O O (by intro v hv;rw[List.mem_singleton.1 hv];rfl) QJ3 (λ_ h=>h.1.1) (λv68 ob68 hr68=>?_);refine Km QI6.symm ?_;obtain⟨q68,c68,rfl⟩:=hr68.Jh;refine QI (QH I Av Nr)<|X1<|QS (vs:=[_]) I I I Nr I .here .h1 wT<|QJi<|QG<|JY 8 (.cons₂ _ (.cons₂ _ (.cons₂ _ (.cons₂ _ (List.Sublist.append_left (List.sublist_append_right _ _) _))))) mixed wu wu ?_
   simp only[List.take_succ_cons,List.take_zero,List.drop_succ_cons,List.drop_zero];refine QI (QH I I6 Rz)<|QI (Qf I Rz .here (.skip (.skip .h1)))<|QI (QH I Bv JP)<|QI (Qy 3 (λF h9=>h9.1.1.2) rfl JP I)<|QV I (λ_ _ f k=>kJ f) λ_=>?_
   refine Jp I (JR je) Ry yj I I (λb75=>?_) (λw h=>h.imp (.cons_cons _ (.cons_cons _ (.cons_cons _ (.cons_cons _ (List.Sublist.append_left (List.sublist_append_right _ _) _))))) tD);refine Km QI5 ?_;refine Kn (n:=i.sl.length) (k:=1) (sz:=2) (news:=spC ((el p.ul i.i).st,(el p.ul i.i).st)) I I je Ry yj I QEq i.hs (Src.row (off:=0) tE (λj q hq=>by rw[Nat.zero_add];rw[List.getElem?_toArray];exact hq) rfl) O O (uJ _) QJ3 (λ_ h=>h.1.1) (λv76 ob76 hr76=>?_);refine Km QI5.symm ?_;obtain⟨q76,c76,rfl⟩:=hr76.Jh;refine QI (QH I I6 Rz)<|X1<|QS (vs:=[_]) I I I Rz I .here (.skip (.skip .h1)) wT<|QJi<|JY 9 QJ3 mixed wu wu ?_
   simp only[List.take_succ_cons,List.take_zero,List.drop_succ_cons,List.drop_zero];refine QI (QD I)<|QI (QH I KI QZ)<|QI (Qy 2 (λF h9=>h9.1.1.1.1.2) rfl QZ I)<|QI (QH I Av Nr)<|QI (Qf I Nr .here .h1)<|QI (QW I Ma)<|QI (QD I)<|QV I (λ_ _ f h=>Un (v:=i.nl.length+1) (k:=(Yq p.ul)) f O O) λc85=>QI (Qj (i:=(el p.ul i.i).ou.toNat) rfl wN KW YY O)<|X1<|QS (vs:=[_]) I I I YY I .u2 (BI (f:=(λe:Y1=>e.1.v)) (l:=i.ps) (i:=(el p.ul i.i).ou.toNat) (by rw[i.pl];omega) c85) wT<|QF<|Qa<|QLk 3 I<|QA (Qk I I O)<|wB 2 I ?_
   exact Qb (⟨i.i+1,i.ps.set (el p.ul i.i).ou.toNat c85,i.Sh.set (el p.ul i.i).ou.toNat [(1,(List.replicate ((Yq p.ul)+1) (0:Int)).set (Yq (p.ul.take i.i)+1) 1)],.slice q68 (i.nl.length+1) c68,ob68,i.nl++[[122]++Q6 ((((i.nl.length:Nat):Int)+1:Int):Rat)],.slice q76 (i.sl.length+1) c76,ob76,i.sl++[((el p.ul i.i).st,(el p.ul i.i).st)],v50,ob50,hlt,i.sh.var hV hL hlt hI1,by rw[List.length_set];exact i.pl,by rw[List.length_append,List.map_append];exact hr68,by rw[List.length_append,List.flatMap_append];simpa using hr76,hr50,by rw[List.length_append,QGx hlt hI1,i.nn];rfl,by rw[List.length_append,QGx hlt hI1,i.sn];rfl⟩) (hg:=λF ⟨⟨⟨⟨⟨⟨⟨⟨⟨⟨⟨⟨hP,hz1⟩,_⟩,h31⟩,h34⟩,hPl1⟩,hs49⟩,hz10⟩,_⟩,hs67⟩,_⟩,hs75⟩,h85⟩=>⟨⟨⟨⟨⟨hP,hz1⟩,trivial⟩,h31⟩,h34⟩,LN.set hPl1 (by rw[i.sh.len,i.pl]) (by rw[tL1];rw[hnn]at h85;exact h85)⟩)
  have hI1:¬P8 (el p.ul i.i)=true:=by simpa[P8,Vj]using hc2
  refine QK<|Qa<|QLk 3 I<|QA (Qk I I O)<|wB 2 I ?_
  exact Qb (⟨i.i+1,i.ps,i.Sh,i.nv,i.nob,i.nl,i.sv,i.sob,i.sl,v50,ob50,hlt,i.sh,i.pl,i.hn,i.hs,hr50,by rw[QGy hlt hI1];exact i.nn,by rw[QGy hlt hI1];exact i.sn⟩)
 have hge:i.i=p.ul.length:=by have:=QK9 hc2;have:=i.le;omega
 refine Q7 ?_;refine QG<|QE4 QJ7 ?_
 obtain⟨rm,hvm,hnm,hcm,hfixm⟩:=Qp.fix (w0:=w) (F0:=F) (bs1:=_::_::_::_::(i.nob++i.sob)) (G:=_) i.hm;refine Hh hfixm ?_;rw[hvm];refine QB<|QA (Z7 (λF h9=>h9.1.1.1.1.1.2) rfl Zf I)<|QJ I (λ_ _ f k=>js f k.1.1.1.1.1.1 hb hub) λc88=>JM _ (λ_ _ f k=>k.2.2.1) λhn88=>QLi 5 I<|Jf (b:=b7) .here<|QLj 5 I<|ZH (ι:=Rd2 p D R) [(1,_),(2,_),(4,_),(5,_),(6,_),(7,_),(8,_),(11,_)] (λi2=>[(12,.int .i64 ((i2.k:Nat):Int))]) (λi2=>(b36,.cells ((List.replicate (Yq p.ul) qS).map (λe:Y1=>e.1.v)++[]).toArray 49 (0,0))::(b28,.cells ((i2.ps).map (λe:Y1=>e.1.v)++[]).toArray 49 (0,0))::(b2,.cells [.slice none 0 0,.slice none 0 0,.slice none 0 0].toArray 41 (0,0))::[]) (λi2 F=>LN F i2.ps i2.Sh) (λi2=>p.ul.length-i2.k) (⟨0,Nat.zero_le _,i.ps,i.Sh,i.sh,i.pl⟩) we wT λi2=>wA 5 I<|QA (QW I Qd)<|QLi 3 I ?_
 refine QL I (λhc2=>?_) λhc2=>?_
 ·have hlt2:i2.k<p.ul.length:=wm<|QK8 hc2
  obtain⟨j9,hj9,hje,_,_⟩:=hV.unit hlt2;have hiu:(el (X9 p.ul) i2.k).toNat<p.ul.length:=by rw[hje];omega
  have hok:WV p.sh (oU p i2.k):=hV.ok hlt2;have hum:(oU p i2.k)∈p.ul:=Ql hiu;have ho:=hok.ou;have hfu:=(hP.us _ hum).MQ;have hcu:=(hP.us _ hum).RA;have hf8:=Z5 hok;have hc13:=Hm hok;refine QLj 5 I<|JY 9 QJ3 mixed wu wu ?_
  simp only[List.take_succ_cons,List.take_zero,List.drop_succ_cons,List.drop_zero];refine QI (QH I XS Jj)<|QI (Qy 1 (λF h9=>h9.1.1.1.1.1.1.1.1.2) rfl Jj I)<|QI (QD I)<|QI (QD I)<|QI (Qo (n:=c88.n) (i2.k) (λF h9=>h9.1.1.2.1) rfl rfl Qd QZ O)<|QI (Qg (n:=c88.n) ((i2.k)*1) (λF h9=>h9.1.1.2.1) O rfl QZ (ZF (f:=Qs) (l:=(X9 p.ul)) O))<|QI (Qo (n:=p.un.n) ((el (X9 p.ul) i2.k).toNat) (λF h9=>h9.1.1.1.1.1.1.1.1.1.un) rfl wN Xr XJ O)<|QI (JG (n:=p.un.n) (vs:=[tx (oU p i2.k).kd,.slice (oU p i2.k).fd.q (oU p i2.k).fd.n (oU p i2.k).fd.cap,Qs ((oU p i2.k).ou),tx (oU p i2.k).st,.slice (oU p i2.k).cv.q (oU p i2.k).cv.n (oU p i2.k).cv.cap]) (((el (X9 p.ul) i2.k).toNat)*5) (λF h9=>h9.1.1.1.1.1.1.1.1.1.un) O rfl XJ I λj v hv=>Q4 (f:=MJ) (l:=p.ul) ZO O hv)<|BU Ni λb13=>X1<|QS (vs:=[_,_,_,_,_]) I I I XJ I .here .h5 wX<|QJi<|QG<|Jf (b:=b13) .here<|QB<|QA (QH I Ks YZ)<|QA (Qy 0 tE rfl YZ I)<|QLi 5 I<|QA (ZD I I)<|QLi 3 I ?_
  refine QL I (λhc2=>?_) λhc2=>?_
  ·have hkA:(oU p i2.k).kd=Ab:=by simpa[Ab]using hc2
   have hkN:(oU p i2.k).kd≠Vj:=by show(oU p i2.k).kd≠Vj;rw[hkA];exact λe=>PR.1 e.symm
   refine QKt<|QA (QH rfl Bv JP)<|QA (Qy 3 tE rfl JP rfl)<|wR rfl<|QKt<|wR rfl<|QG<|QKt<|wR rfl<|QO<|ZH (ι:=AdJ p D R i2.k (oU p i2.k).fl.length) [(1,_),(2,_),(4,_),(5,_),(6,_),(7,_),(8,_),(11,_),(12,_),(13,_)] (λi3=>[(14,tx (Q6 i3.q)),(15,.slice i3.c.1.q i3.c.1.n i3.c.1.cap),(16,.int .i64 ((i3.i:Nat):Int))]) (λi3=>(b36,.cells ((List.replicate (Yq p.ul) qS).map (λe:Y1=>e.1.v)++[]).toArray 49 (0,0))::(b28,.cells ((i2.ps).map (λe:Y1=>e.1.v)++[]).toArray 49 (0,0))::(b2,.cells [.slice none 0 0,.slice none 0 0,.slice none 0 0].toArray 41 (0,0))::[]) (λi3 F=>Z4 F i3.c.1 i3.c.2 (J2 i3.SL)) (λi3=>(oU p i2.k).fl.length-i3.i) (⟨0,qS,[],Jc (oU p i2.k).st,Nat.zero_le _,Og.start hM hL hlt2 hkN⟩) wi ⟨(congrArg (λl=>some (tx l)) (Xa hok.st).1),rfl,rfl,trivial⟩ (hg:=λF _=>⟨Qu.nil F none 2,λ_ h=>(by cases h),rfl,Nat.le_refl _,rfl⟩) λi3=>QG<|wS rfl<|QA (QH rfl ZV XK)<|QA (Qy 1 (λF h9=>h9.1.2) rfl XK rfl)<|QA (QW rfl Zz)<|QA (QR rfl rfl rfl)<|QF<|QC ?_
   refine QL I (λhc2=>?_) λhc2=>?_
   ·have hlt3:i3.i<(oU p i2.k).fl.length:=wm<|QK8 hc2
    have hf3:(el (oU p i2.k).fl i3.i)∈(oU p i2.k).fl:=Ql hlt3;have hfr:=hok.fd _ hf3;have htw:=Og.two hM hn hL hlt2 hkN i2.sh i3.ok O hf3;have hsh:=QGm hM hn hL hlt2 i2.sh hfr.1;have hqs:=Og.qsz hM hn hlt2 i3.ok O;have hst3:el (UE p.sh p.ul) (el (oU p i2.k).fl i3.i).k.toNat∈UE p.sh p.ul:=Ql (by rw[TA];omega);have hss:Q9 (el (UE p.sh p.ul) (el (oU p i2.k).fl i3.i).k.toNat)=0:=QAW (λu hu=>(hV.us u hu).st) _ hst3;have hsl:=TA p.sh p.ul;refine QLj 6 I<|QA (QH I ZV XK)<|QA (Qy 1 (λF h9=>h9.1.2) rfl XK I)<|QJj I<|QA (Qo (n:=(oU p i2.k).fd.n) (i3.i) (λF h9=>((h9.1.1.1.1.1.1.1.1.1.1.1.us _ (Ql (show(el (X9 p.ul) i2.k).toNat<p.ul.length from O)))).fd) rfl rfl Zz YC O)<|QA (JG (n:=(oU p i2.k).fd.n) (vs:=[.int .i64 ((el (oU p i2.k).fl (i3.i)).k),tx (el (oU p i2.k).fl (i3.i)).r]) ((i3.i)*2) (λF h9=>((h9.1.1.1.1.1.1.1.1.1.1.1.us _ (Ql (show(el (X9 p.ul) i2.k).toNat<p.ul.length from O)))).fd) O rfl YC I λj v hv=>Q4 (f:=BV) (l:=(oU p i2.k).fl) Zw O hv)<|Qe yi λb17=>QS (vs:=[_,_]) I I I YC I .here .h2 wU<|QJi<|QG<|Jf (b:=b17) .here<|JC QJ3 mixed wu<|QI (QD I)<|QI (QH I Gc JP)<|QI (Qy 1 tE rfl JP I)<|QI (QD I)<|QI (QH I GB QZ)<|QI (Qy 0 tE rfl QZ I)<|QI (Qj (i:=(el (oU p i2.k).fl i3.i).k.toNat) rfl wN KW YY O)<|QI (Xm (c:=(i2.ps).map (λe:Y1=>e.1.v)++[]) (T':=49) rfl YY .u1 (Fl (f:=(λe:Y1=>e.1.v)) (by rw[i2.pl];omega)))<|QV I (λw _ f k=>kI (N:=(Yq p.ul)+1) hfr.2.1 f (k.1.1.1.2 _ (by rw[i2.pl];omega)) htw.1 hsh.1.w.2 hsh.2) λc129=>QV I (λ_ _ f k=>j8 (a:=i3.c) (b:=c129) (N:=(Yq p.ul)+1) f k.1.1.2 k.2 htw.2.1 htw.2.2.1 htw.2.2.2) λc130=>QI (QE I)<|Qv<|QC<|JC QJ3 mixed wu<|QI (QD I)<|QI (QH I Gc JP)<|QI (Qy 1 (λF h9=>h9.1.1.2) rfl JP I)<|QI (QD I)<|QI (QH I GB QZ)<|QI (Qy 0 (λF h9=>h9.1.1.2) rfl QZ I)<|QI (Qo (n:=c34.n) ((el (oU p i2.k).fl i3.i).k.toNat) (λF h9=>h9.1.1.1.1.1.1.1.1.1.1.2.1) rfl wN YI JP O)<|QI (Qg (n:=c34.n) (((el (oU p i2.k).fl i3.i).k.toNat)*1) (λF h9=>h9.1.1.1.1.1.1.1.1.1.1.2.1) O rfl JP (ZF (f:=tx) (l:=(UE p.sh p.ul)) O))<|QV I (λ_ _ f k=>qg f hfr.2.1 hss) λ_=>?_
    refine QV I (λ_ _ f h=>QDw f O (by have:=Zg (Jc (el (oU p i2.k).fl i3.i).r) (Jc (el (UE p.sh p.ul) (el (oU p i2.k).fl i3.i).k.toNat));have:=Xt hfr.2.1;have:=Xt hss;omega)) (λ_=>QI (QE I)<|Qv<|Qa<|QLk 3 I<|QA (Qk I I O)<|wB 2 I ?_);exact Qb (⟨i3.i+1,c130,_,_,hlt3,i3.ok.next hM hL hlt2 hkN i2.sh hf3 hst3⟩)
   have hge3:(oU p i2.k).fl.length<=i3.i:=wm<|QK9 hc2
   have hle3:=i3.le;have hsum:=Og.sum hM hL hlt2 hkN i3.ok O;have hfin:Tw ((Yq p.ul)+1) (i3.SL++Ha i3.q ((Yq p.ul)+1))/\i3.SL.length<=50000000/\(Ha i3.q ((Yq p.ul)+1)).length<=50000000:=⟨kT hM hn hL (show i2.k+1<=p.ul.length from hlt2) ⟨O,ho.2⟩ hsum,(Og.tw hM hn hL hlt2 hkN O i3.ok.pb).2 i3.ok.cn,kh _ _⟩;refine Q7 ?_;refine JY 9 QJ3 mixed wu wu ?_;simp only[List.take_succ_cons,List.take_zero,List.drop_succ_cons,List.drop_zero];refine QI (QD I)<|QI (QH I KI QZ)<|QI (Qy 2 (λF h9=>h9.1.2) rfl QZ I)<|QI (QD I)<|QI (QD I)<|QI (QD I)<|QV I (λ_ _ f h=>uX (y:=i3.q) (k:=(Yq p.ul)) f O) λc147=>QV I (λ_ _ f k=>j8 (a:=i3.c) (b:=c147) (N:=(Yq p.ul)+1) f k.1.2 k.2 hfin.1 hfin.2.1 hfin.2.2) λc148=>QI (Qj (i:=(oU p i2.k).ou.toNat) rfl wN KW YY O)<|X1<|QS (vs:=[_]) I I I YY I .u1 (BI (f:=(λe:Y1=>e.1.v)) (l:=i2.ps) (i:=(oU p i2.k).ou.toNat) (by rw[i2.pl];omega) c148) wT<|QF<|Qa<|Qa<|QLk 3 I<|QA (Qk I I O)<|wB 2 I ?_
   exact Qb (⟨i2.k+1,hlt2,i2.ps.set (oU p i2.k).ou.toNat c148,_,i2.sh.next hV hlt2 (Ad hkN) hsum.norm (Z1 _),by rw[List.length_set];exact i2.pl⟩) (hg:=λF ⟨⟨⟨⟨⟨⟨⟨⟨⟨⟨⟨⟨⟨hP,hz1⟩,_⟩,h31⟩,h34⟩,hPl1⟩,hnum⟩,h88⟩,hz7⟩,hPl2⟩,hz13⟩,hC3⟩,h147⟩,h148⟩=>⟨⟨⟨⟨⟨⟨⟨⟨⟨hP,hz1⟩,trivial⟩,h31⟩,h34⟩,hPl1⟩,hnum⟩,h88⟩,hz7⟩,LN.set hPl2 (by rw[i2.sh.len,i2.pl]) h148⟩)
  have hkA:(oU p i2.k).kd≠Ab:=by simpa[Ab]using hc2
  refine QKt<|QA (ZD I I)<|QLi 3 I ?_
  refine QL I (λhc2=>?_) λhc2=>?_
  ·have hkT:(oU p i2.k).kd=WR:=by show(oU p i2.k).kd=WR;simpa[WR]using hc2
   have hkN:(oU p i2.k).kd≠Vj:=by rw[hkT];exact λe=>PR.2.1 e.symm
   have hf3:el (oU p i2.k).fl 0∈(oU p i2.k).fl:=(Ql (show 0<(oU p i2.k).fl.length by omega):el (oU p i2.k).fl 0∈(oU p i2.k).fl);have hfr:=hok.fd _ hf3;have htx:=QHH hM hn hL hlt2 hkT i2.sh;have hsh:=QGm hM hn hL hlt2 i2.sh hfr.1;have hcl1:1<=(oU p i2.k).cl.length:=QHI hok hkT;refine QG<|JC QJ3 mixed wu<|QI (QH I ZV XK)<|QI (Qy 1 tE rfl XK I)<|QI (Qo (n:=(oU p i2.k).fd.n) (0) (λF h9=>((h9.1.1.1.1.1.1.1.1.1.1.us _ (Ql (show(el (X9 p.ul) i2.k).toNat<p.ul.length from O)))).fd) rfl wN Zz YC O)<|QI (QH I Gc JP)<|QI (Qg (n:=(oU p i2.k).fd.n) ((0)*2+1) (λF h9=>((h9.1.1.1.1.1.1.1.1.1.1.us _ (Ql (show(el (X9 p.ul) i2.k).toNat<p.ul.length from O)))).fd) O rfl JP (Q4 (f:=BV) (l:=(oU p i2.k).fl) Zw O rfl))<|QI (QD I)<|QI (QH I ZV XK)<|QI (Qy 1 tE rfl XK I)<|QI (Qo (n:=(oU p i2.k).fd.n) (0) (λF h9=>((h9.1.1.1.1.1.1.1.1.1.1.us _ (Ql (show(el (X9 p.ul) i2.k).toNat<p.ul.length from O)))).fd) rfl wN Zz YC O)<|QI (QH I GB QZ)<|QI (Qg (n:=(oU p i2.k).fd.n) ((0)*2+0) (λF h9=>((h9.1.1.1.1.1.1.1.1.1.1.us _ (Ql (show(el (X9 p.ul) i2.k).toNat<p.ul.length from O)))).fd) O rfl QZ (Q4 (f:=BV) (l:=(oU p i2.k).fl) Zw O rfl))<|QI (Qj (i:=(el (oU p i2.k).fl 0).k.toNat) rfl wN KW YY O)<|QI (Xm (c:=(i2.ps).map (λe:Y1=>e.1.v)++[]) (T':=49) rfl YY .u1 (Fl (f:=(λe:Y1=>e.1.v)) (by rw[i2.pl];omega)))<|QV I (λw _ f k=>kI (N:=(Yq p.ul)+1) hfr.2.1 f (k.1.2 _ (by rw[i2.pl];omega)) htx.1 hsh.1.w.2 hsh.2) λc165=>QI (QE I)<|Qv<|QLk 9 I<|QA (QH I H8 KR)<|QA (Qy 4 (λF h9=>h9.1.2) rfl KR I)<|QA (QW I YI)<|QA (Jk I I O)<|wR I<|QO<|ZH (ι:=TbJ p D R i2.k (oU p i2.k).cl.length) [(1,_),(2,_),(4,_),(5,_),(6,_),(7,_),(8,_),(11,_),(12,_),(13,_),(18,_)] (λi4=>[(19,.slice i4.c.1.q i4.c.1.n i4.c.1.cap),(20,.int .i64 (((((oU p i2.k).cv.n:Nat):Int)-1-((i4.j:Nat):Int))))]) (λi4=>(b36,.cells ((List.replicate (Yq p.ul) qS).map (λe:Y1=>e.1.v)++[]).toArray 49 (0,0))::(b28,.cells ((i2.ps).map (λe:Y1=>e.1.v)++[]).toArray 49 (0,0))::(b2,.cells [.slice none 0 0,.slice none 0 0,.slice none 0 0].toArray 41 (0,0))::[]) (λi4 F=>Z4 F i4.c.1 i4.c.2 (J2 i4.SL)) (λi4=>(oU p i2.k).cl.length-i4.j) (⟨0,qS,[],Nat.zero_le _,TbS.start⟩) wj ⟨rfl,(congrArg (λz:Int=>some (Value.int .i64 z)) (by dsimp only;omega)),trivial⟩ (hg:=λF _=>⟨Qu.nil F none 2,λ_ h=>(by cases h),rfl,Nat.le_refl _,rfl⟩) λi4=>QG<|wS rfl<|QA (QR rfl rfl rfl) ?_
   refine QF<|QC ?_
   refine QL I (λhc2=>?_) λhc2=>?_
   ·have hlt4:i4.j<(oU p i2.k).cl.length:=wm<|QK8 hc2
    have hma:el (oU p i2.k).cl ((oU p i2.k).cl.length-1-i4.j)∈(oU p i2.k).cl:=(Ql (show(oU p i2.k).cl.length-1-i4.j<(oU p i2.k).cl.length by omega):_∈(oU p i2.k).cl);have hca:=hok.cv _ hma;have ht1:=QBq hM hn hL hlt2 hkT (j:=i4.j-1) (c:=i4.j) (show i4.j-1<(oU p i2.k).cl.length by omega) O i4.ok.pb;have ht2:=QBq hM hn hL hlt2 hkT (j:=i4.j) (c:=i4.j) hlt4 O (i4.ok.prod hM hL hlt2 hkT i2.sh);have ht2n:=QBq hM hn hL hlt2 hkT (j:=i4.j) (c:=i4.j) hlt4 O (i4.ok.prod hM hL hlt2 hkT i2.sh).norm;have ht3:=QBq hM hn hL hlt2 hkT (j:=i4.j) (c:=i4.j+1) hlt4 O (i4.ok.sum hM hL hlt2 hkT i2.sh hma);refine QLj 4 I<|JC QJ3 mixed wu<|QI (QD I)<|QI (QD I)<|QV I (λ_ _ f k=>uS (a:=i4.c) (b:=c165) (N:=(Yq p.ul)+1) f k.2 k.1.2 ht1.1 htx.2.1 ht2.1 (ht1.2 i4.ok.cn) htx.2.2) λc176=>QI (QH I H8 KR)<|QI (Qy 4 (λF h9=>h9.1.1.2) rfl KR I)<|QI (QD I)<|QI (Qo (n:=(oU p i2.k).cv.n) (((oU p i2.k).cl.length-1-i4.j)) (λF h9=>((h9.1.1.1.1.1.1.1.1.1.1.1.1.us _ (Ql (show(el (X9 p.ul) i2.k).toNat<p.ul.length from O)))).cv) rfl wN YI JP O)<|QI (Qg (n:=(oU p i2.k).cv.n) ((((oU p i2.k).cl.length-1-i4.j))*1) (λF h9=>((h9.1.1.1.1.1.1.1.1.1.1.1.1.us _ (Ql (show(el (X9 p.ul) i2.k).toNat<p.ul.length from O)))).cv) O rfl JP (ZF (f:=tx) (l:=(oU p i2.k).cl) O))<|QI (QD I)<|QV I (λ_ _ f h=>QCs (k:=(Yq p.ul)) hca f O) λc183=>QV I (λ_ _ f k=>j8 (a:=c176) (b:=c183) (N:=(Yq p.ul)+1) f k.1.2 k.2 ht3.1 (ht2n.2 (Z1 _)) (kh _ _)) λc184=>QI (QE I)<|Qv<|Qa<|QLk 3 I<|QA (Jk I I O)<|wB 2 I ?_
    exact Qb (⟨i4.j+1,c184,_,hlt4,i4.ok.next hM hL hlt2 hkT i2.sh hma⟩) (hm:=⟨rfl,rfl,rfl,rfl,rfl,rfl,rfl,rfl,rfl,rfl,rfl,rfl,(congrArg (λz:Int=>some (Value.int .i64 z)) (by dsimp only;omega)),trivial⟩)
   have hge4:(oU p i2.k).cl.length=i4.j:=by have:=QK9 hc2;have:=i4.le;omega
   refine Q7 ?_;refine wA 2 I<|QA (QH I KI QZ)<|QA (Qy 2 (λF h9=>h9.1.1.2) rfl QZ I)<|QJj I<|QA (Qj (i:=(oU p i2.k).ou.toNat) rfl wN KW YY O)<|QS (vs:=[_]) I I I YY I .u1 (BI (f:=(λe:Y1=>e.1.v)) (l:=i2.ps) (i:=(oU p i2.k).ou.toNat) (by rw[i2.pl];omega) i4.c) wT<|QF<|Qa<|Qa<|QLk 3 I<|QA (Qk I I O)<|wB 2 I ?_
   exact Qb (⟨i2.k+1,hlt2,i2.ps.set (oU p i2.k).ou.toNat i4.c,_,i2.sh.next hV hlt2 (Ad hkN) (QDi hM hL hlt2 hkT (j:=i4.j-1) (c:=i4.j) (show i4.j-1<(oU p i2.k).cl.length by omega) O i4.ok.pb) i4.ok.cn,by rw[List.length_set];exact i2.pl⟩) (hg:=λF ⟨⟨⟨⟨⟨⟨⟨⟨⟨⟨⟨⟨hP,hz1⟩,_⟩,h31⟩,h34⟩,hPl1⟩,hnum⟩,h88⟩,hz7⟩,hPl2⟩,hz13⟩,h165⟩,hC4⟩=>⟨⟨⟨⟨⟨⟨⟨⟨⟨hP,hz1⟩,trivial⟩,h31⟩,h34⟩,hPl1⟩,hnum⟩,h88⟩,hz7⟩,LN.set hPl2 (by rw[i2.sh.len,i2.pl]) hC4⟩)
  have hkT:(oU p i2.k).kd≠WR:=by simpa[WR]using hc2
  refine QK<|Qa<|Qa<|QLk 3 I<|QA (Qk I I O)<|wB 2 I ?_
  exact Qb (⟨i2.k+1,hlt2,i2.ps,i2.Sh,i2.sh.skip hV hlt2 (QKG hok hkA hkT),i2.pl⟩)
 have hge2:p.ul.length<=i2.k:=wm<|QK9 hc2
 refine Q7 ?_;refine QG<|QG<|Jf (b:=b28) .u1<|QLj 5 I<|ZH (ι:=Rd3 p R) [(1,_),(2,_),(5,_),(7,_),(8,_),(11,_)] (λi5=>[(21,.int .i64 ((i5.k:Nat):Int))]) (λi5=>(b36,.cells ((i5.rl).map (λe:Y1=>e.1.v)++[]).toArray 49 (0,0))::(b2,.cells [.slice none 0 0,.slice none 0 0,.slice none 0 0].toArray 41 (0,0))::[]) (λi5 F=>LN F i5.rl i5.Rs) (λi5=>p.ul.length-i5.k) (⟨0,Nat.zero_le _,List.replicate (Yq p.ul) qS,List.replicate (Yq p.ul) [],kz.start,w9⟩) wY wT (hg:=λF _=>LN.zero F _) λi5=>?_
 have hSh:Sv p D R p.ul.length i2.Sh:=by have e:i2.k=p.ul.length:=Nat.le_antisymm i2.le hge2;rw[<-e];exact i2.sh
 refine wA 5 I<|QA (QW I Qd)<|QLi 3 I ?_
 refine QL I (λhc2=>?_) λhc2=>?_
 ·have hlt5:i5.k<p.ul.length:=wm<|QK8 hc2
  obtain⟨j9,hj9,hje,_,_⟩:=hV.unit hlt5;have hiu:(el (X9 p.ul) i5.k).toNat<p.ul.length:=by rw[hje];omega
  have hok:WV p.sh (oU p i5.k):=hV.ok hlt5;have hum:(oU p i5.k)∈p.ul:=Ql hiu;have ho:=hok.ou;have hfu:=(hP.us _ hum).MQ;have hcu:=(hP.us _ hum).RA;have hf8:=Z5 hok;have hc13:=Hm hok;refine QLj 5 I<|JY 9 QJ3 mixed wu wu ?_
  simp only[List.take_succ_cons,List.take_zero,List.drop_succ_cons,List.drop_zero];refine QI (QH I XS Jj)<|QI (Qy 1 (λF h9=>h9.1.1.1.1.1.1.1.1.1.1.2) rfl Jj I)<|QI (QD I)<|QI (QD I)<|QI (Qo (n:=c88.n) (i5.k) (λF h9=>h9.1.1.1.1.2.1) rfl rfl Qd QZ O)<|QI (Qg (n:=c88.n) ((i5.k)*1) (λF h9=>h9.1.1.1.1.2.1) O rfl QZ (ZF (f:=Qs) (l:=(X9 p.ul)) O))<|QI (Qo (n:=p.un.n) ((el (X9 p.ul) i5.k).toNat) (λF h9=>h9.1.1.1.1.1.1.1.1.1.1.1.un) rfl wN Xr XJ O)<|QI (JG (n:=p.un.n) (vs:=[tx (oU p i5.k).kd,.slice (oU p i5.k).fd.q (oU p i5.k).fd.n (oU p i5.k).fd.cap,Qs ((oU p i5.k).ou),tx (oU p i5.k).st,.slice (oU p i5.k).cv.q (oU p i5.k).cv.n (oU p i5.k).cv.cap]) (((el (X9 p.ul) i5.k).toNat)*5) (λF h9=>h9.1.1.1.1.1.1.1.1.1.1.1.un) O rfl XJ I λj v hv=>Q4 (f:=MJ) (l:=p.ul) ZO O hv)<|BU Ni λb22=>X1<|QS (vs:=[_,_,_,_,_]) I I I XJ I .here .h5 wX<|QJi<|QG<|Jf (b:=b22) .here<|QB<|QA (QH I Ks YZ)<|QA (Qy 0 tE rfl YZ I)<|QA (ZD I I)<|QF<|QC ?_
  refine QL I (λhc2=>?_) λhc2=>?_
  ·have hkI5:(oU p i5.k).kd=Vj:=by show(oU p i5.k).kd=Vj;simpa[Vj]using hc2
   have hfd:(oU p i5.k).fl.length=2:=(cI hM hL hlt5 hkI5).1;have hm0:el (oU p i5.k).fl 0∈(oU p i5.k).fl:=Ql O;have hm1:el (oU p i5.k).fl 1∈(oU p i5.k).fl:=Ql O;have hk0:=(hok.fd _ hm0).1;have hk1:=(hok.fd _ hm1).1;have hr0:=(hok.fd _ hm0).2.1;have hr1:=(hok.fd _ hm1).2.1;have hnum5:=QCA (R:=R) hM hn hL hlt5 hkI5;have hne5:el (qP p i.i) (el (X9 p.ul) i5.k).toNat=((gO p i5.k:Nat):Int):=QFn O;have hg0:=QIy hM hn hL hSh hk0;have hga:=QIz hM hn hL hlt5 hkI5 hSh i5.ok;have hgt:=QIx hM hn hL hlt5 hkI5 hSh i5.ok;have hyz:=QJ6 hM hn hL hlt5 hkI5;refine Xy _ (λ_ _ f h=>(h.1.1.1.2 (el (oU p i5.k).fl 1).k.toNat (by rw[i2.pl];omega)).OD) (λhal=>QG<|JC QJ3 mixed wu<|QI (QH I ZV XK)<|QI (Qy 1 tE rfl XK I)<|QI (Qo (n:=(oU p i5.k).fd.n) (0) (λF h9=>((h9.1.1.1.1.1.1.1.1.1.1.1.1.us _ (Ql (show(el (X9 p.ul) i5.k).toNat<p.ul.length from O)))).fd) rfl wN Zz YC O)<|QI (QH I Gc JP)<|QI (Qg (n:=(oU p i5.k).fd.n) ((0)*2+1) (λF h9=>((h9.1.1.1.1.1.1.1.1.1.1.1.1.us _ (Ql (show(el (X9 p.ul) i5.k).toNat<p.ul.length from O)))).fd) O rfl JP (Q4 (f:=BV) (l:=(oU p i5.k).fl) Zw O rfl))<|QI (QH I ZV XK)<|QI (Qy 1 tE rfl XK I)<|QI (Qo (n:=(oU p i5.k).fd.n) (1) (λF h9=>((h9.1.1.1.1.1.1.1.1.1.1.1.1.us _ (Ql (show(el (X9 p.ul) i5.k).toNat<p.ul.length from O)))).fd) rfl wN Zz YC O)<|QI (QH I Gc JP)<|QI (Qg (n:=(oU p i5.k).fd.n) ((1)*2+1) (λF h9=>((h9.1.1.1.1.1.1.1.1.1.1.1.1.us _ (Ql (show(el (X9 p.ul) i5.k).toNat<p.ul.length from O)))).fd) O rfl JP (Q4 (f:=BV) (l:=(oU p i5.k).fl) Zw O rfl))<|QV I (λ_ _ f k=>qg f hr0 hr1) λ_=>QI (QE I)<|Qv<|QC<|JY 32 QJ3 mixed wu wu ?_);simp only[List.take_succ_cons,List.take_zero,List.drop_succ_cons,List.drop_zero];refine QI (QH I EN GM)<|QI (Qy 1 (λF h9=>h9.1.1.1.1.1.2) rfl GM I)<|QI (QD I)<|QI (QD I)<|QI (QD I)<|QI (Qo (n:=c88.n) (i5.k) (λF h9=>h9.1.1.1.1.1.1.2.1) rfl rfl Qd QZ O)<|QI (Qg (n:=c88.n) ((i5.k)*1) (λF h9=>h9.1.1.1.1.1.1.2.1) O rfl QZ (ZF (f:=Qs) (l:=(X9 p.ul)) O))<|QI (Qo (n:=rm.n) ((el (X9 p.ul) i5.k).toNat) (λF h9=>(by rw[hnm];exact h9.1.1.1.1.1.1.1.2)) I wN Qd QZ O)<|QI (Qg (n:=rm.n) (((el (X9 p.ul) i5.k).toNat)*1) (λF h9=>(by rw[hnm];exact h9.1.1.1.1.1.1.1.2)) O rfl QZ (ZF (f:=Qs) (l:=qP p i.i) (by rw[uz];omega)))<|QI (QD I)<|QI (QD I)<|QI (QH I ZV XK)<|QI (Qy 1 (λF h9=>h9.1.2) rfl XK I)<|QI (Qo (n:=(oU p i5.k).fd.n) (0) (λF h9=>((h9.1.1.1.1.1.1.1.1.1.1.1.1.1.us _ (Ql (show(el (X9 p.ul) i5.k).toNat<p.ul.length from O)))).fd) rfl wN Zz YC O)<|QI (QH I GB QZ)<|QI (Qg (n:=(oU p i5.k).fd.n) ((0)*2+0) (λF h9=>((h9.1.1.1.1.1.1.1.1.1.1.1.1.1.us _ (Ql (show(el (X9 p.ul) i5.k).toNat<p.ul.length from O)))).fd) O rfl QZ (Q4 (f:=BV) (l:=(oU p i5.k).fl) Zw O rfl))<|QI (Qo (n:=p.sh.toNat) ((el (oU p i5.k).fl 0).k.toNat) (λF h9=>(Qu.of (n:=p.sh.toNat) (sz:=1) (cs:=i2.ps.map λe:Y1=>e.1.v) (by have:=h9.1.1.1.2;rw[List.append_nil]at this;exact this) (by rw[List.length_map,i2.pl];omega))) I wN KW YY O)<|QI (Qg (n:=p.sh.toNat) (((el (oU p i5.k).fl 0).k.toNat)*1) (λF h9=>(Qu.of (n:=p.sh.toNat) (sz:=1) (cs:=i2.ps.map λe:Y1=>e.1.v) (by have:=h9.1.1.1.2;rw[List.append_nil]at this;exact this) (by rw[List.length_map,i2.pl];omega))) O rfl YY (ZF (f:=(λe:Y1=>e.1.v)) (l:=i2.ps) (by rw[i2.pl];omega)))<|QI (QH I EN GM)<|QI (Qy 1 (λF h9=>h9.1.1.1.1.1.2) rfl GM I)<|QI (QD I)<|QI (QH I ZV XK)<|QI (Qy 1 (λF h9=>h9.1.2) rfl XK I)<|QI (Qo (n:=(oU p i5.k).fd.n) (1) (λF h9=>((h9.1.1.1.1.1.1.1.1.1.1.1.1.1.us _ (Ql (show(el (X9 p.ul) i5.k).toNat<p.ul.length from O)))).fd) rfl wN Zz YC O)<|QI (QH I GB QZ)<|QI (Qg (n:=(oU p i5.k).fd.n) ((1)*2+0) (λF h9=>((h9.1.1.1.1.1.1.1.1.1.1.1.1.1.us _ (Ql (show(el (X9 p.ul) i5.k).toNat<p.ul.length from O)))).fd) O rfl QZ (Q4 (f:=BV) (l:=(oU p i5.k).fl) Zw O rfl))<|QI (Qo (n:=p.sh.toNat) ((el (oU p i5.k).fl 1).k.toNat) (λF h9=>(Qu.of (n:=p.sh.toNat) (sz:=1) (cs:=i2.ps.map λe:Y1=>e.1.v) (by have:=h9.1.1.1.2;rw[List.append_nil]at this;exact this) (by rw[List.length_map,i2.pl];omega))) I wN KW YY O)<|QI (Qg (n:=p.sh.toNat) (((el (oU p i5.k).fl 1).k.toNat)*1) (λF h9=>(Qu.of (n:=p.sh.toNat) (sz:=1) (cs:=i2.ps.map λe:Y1=>e.1.v) (by have:=h9.1.1.1.2;rw[List.append_nil]at this;exact this) (by rw[List.length_map,i2.pl];omega))) O rfl YY (ZF (f:=(λe:Y1=>e.1.v)) (l:=i2.ps) (by rw[i2.pl];omega)))<|Wt (bs1:=_) (by rw[i5.pl];rfl) (List.Perm.refl _) (QCu (N:=(Yq p.ul)+1) (rl:=i5.rl) (rest:=[]) (rs:=i5.Rs) (L:=el i2.Sh (el (oU p i5.k).fl 1).k.toNat) (a:=el i2.ps (el (oU p i5.k).fl 1).k.toNat) (cap:=(Yq p.ul)) (λF ⟨⟨⟨⟨⟨⟨⟨⟨⟨⟨⟨⟨⟨hP,hz1⟩,_⟩,h31⟩,h34⟩,hPl1⟩,hnum⟩,h88⟩,hz7⟩,hPl2⟩,hz28⟩,hPl5⟩,hz22⟩,_⟩ k hk=>hPl5 k hk) (by rw[i5.ok.len,i5.pl]) (λF h9=>h9.1.1.1.1.2 _ (by rw[i2.pl];omega)) hal (QII hM hn hL hlt5 hkI5 hSh i5.ok).wok (by rw[i5.pl];exact Nat.le_refl _)) (λ_ _ h=>h.imp QJ3 tD) λc246=>QV I (λ_ _ f h=>uS (a:=el i2.ps (el (oU p i5.k).fl 0).k.toNat) (b:=c246) (N:=(Yq p.ul)+1) f (h.1.1.1.1.1.2 _ (by rw[i2.pl];omega)) h.2 hg0.1 hga.1 hgt.1 hg0.2 hga.2) λc247=>QV I (λw _ f h=>kE (N:=(Yq p.ul)+1) (y:=rtY p i5.k) (ps:=c247.2) f h.2.1 h.2.2.1 h.2.2.2.2.2 h.2.2.2.1 hyz (λt ht=>Nat.le_trans (hgt.2.2.2 t ht) wv) hgt.2.1.pw hgt.2.1.w (by rw[h.2.OD];exact Nat.le_trans hgt.2.2.1 wv)) λc248=>QI (Qj (i:=(gO p i5.k)) I wN KW YY O)<|X1<|QS (vs:=[_]) I I I YY I .here (BI (f:=(λe:Y1=>e.1.v)) (l:=i5.rl) (i:=(gO p i5.k)) (by rw[i5.pl];exact hnum5.1) c248) wT<|QF<|Qa<|QLk 3 I<|QA (Qk I I O)<|QJk I ?_
   refine QF ?_;exact Qb (⟨i5.k+1,hlt5,i5.rl.set (gO p i5.k) c248,_,kz.next hM hn hL hlt5 hkI5 hSh i5.ok,by rw[List.length_set];exact i5.pl⟩) (hg:=λF ⟨⟨⟨⟨⟨⟨⟨⟨⟨⟨⟨⟨⟨⟨⟨⟨hP,hz1⟩,_⟩,h31⟩,h34⟩,hPl1⟩,hnum⟩,h88⟩,hz7⟩,hPl2⟩,hz28⟩,hPl5⟩,hz22⟩,_⟩,h246⟩,h247⟩,h248⟩=>⟨⟨⟨⟨⟨⟨⟨⟨⟨⟨⟨hP,hz1⟩,trivial⟩,h31⟩,h34⟩,hPl1⟩,hnum⟩,h88⟩,hz7⟩,hPl2⟩,hz28⟩,LN.set hPl5 (by rw[i5.ok.len,i5.pl]) h248⟩)
  refine QK<|Qa<|QLk 3 I<|QA (Qk I I O)<|wB 2 I ?_
  exact Qb (⟨i5.k+1,hlt5,i5.rl,i5.Rs,i5.ok.up,i5.pl⟩)
 have hge5:p.ul.length<=i5.k:=wm<|QK9 hc2
 refine Q7 ?_;refine QG<|Jf (b:=b36) .here ?_
 obtain⟨qn,cn,hvn⟩:=i.hn.Jh;obtain⟨qs,cs,hvs⟩:=i.hs.Jh;refine QB<|QA (Z7 (λF h9=>h9.1.1.1.1.2) rfl UR I)<|QJj I<|QS (vs:=[_,_,_]) I I I UR I .here .h3 ⟨by rw[hvn];rfl,rfl,by rw[hvs];rfl,trivial⟩<|wR I<|QT ?_
 exact J7 (⟨i.nv,i.sv,⟨some ⟨b36,0,none⟩,Yq p.ul,Yq p.ul⟩,i5.rl,i5.Rs,⟨some ⟨b28,0,none⟩,p.sh.toNat,p.sh.toNat⟩,i2.ps,i2.Sh⟩) I (.J4 (c:=[_,_,_]) I UR .here (wO I)) (rfl) λF h9=>⟨⟨Qu.of (n:=Yq p.ul) (sz:=1) (cs:=i5.rl.map λe:Y1=>e.1.v) (by have:=h9.2;rw[List.append_nil]at this;exact this) (by rw[List.length_map,i5.pl];omega),i5.pl,by rw[i5.ok.len,i5.pl],h9.1.2⟩,⟨Qu.of (n:=p.sh.toNat) (sz:=1) (cs:=i2.ps.map λe:Y1=>e.1.v) (by have:=h9.1.1.2;rw[List.append_nil]at this;exact this) (by rw[List.length_map,i2.pl];omega),i2.pl,by rw[i2.sh.len,i2.pl],h9.1.1.1.2⟩,kz.QDE hM hn hL (by have e:i5.k=p.ul.length:=Nat.le_antisymm i5.le hge5;rw[<-e];exact i5.ok),Sv.QDE hM hn hL hSh,by show p.sh.toNat<=1000;omega,by show Yq p.ul<=1000;omega⟩
theorem QCo{n:Nat}(hF:Fits F w)(hR:Qu F q n 2 (ps.flatMap Y2))(hP:Yk F ps)(hln:ps.length=n)(hf:∀t∈ps,t.f.length<=1000000000/\PW t.k)(hl:ps.length<=1000000000):QY prog 110 [.slice q n cap] w F (.int .i64 (QAc (Y7 ps))):=by
 have hal:(Y7 ps).length=n:=by rw[GF];exact hln
 refine QQ.go (G:=λF=>Qu F q n 2 (ps.flatMap Y2)/\Yk F ps) func110 hF ⟨hR,hP⟩ ?_;refine wA 12 I<|Jo (ι:=V4 ps λt=>decide (t.k.sum>12)) [(0,_)] (λi=>[(3,.int .i64 ((i.i:Nat):Int))]) (λi=>ps.length-i.i) (V4.start _ _) wT wT λi=>?_
 have hi:=i.le;refine wA 5 I<|QA (QW I Xk)<|QLi 3 I ?_
 refine QL I (λhc=>?_) λhc=>?_
 ·have hlt:i.i<ps.length:=wm<|QK8 hc
  have htm:=Ql hlt;refine QLj 8 I<|QA (Qo (n:=n) i.i tD rfl rfl Xk Xq O)<|QA (QH I Ka Q5)<|QA (Qg (n:=n) ((i.i)*2+1) tD O rfl Q5 (Q4 (f:=Y2) (l:=ps) Zh O rfl))<|QJ I (λ_ _ f k=>GY f (r:=(el ps i.i).r) (k.2 _ htm) ((hf _ htm).2)) λ_=>QLi 3 I ?_
  refine QL I (λhc=>?_) λhc=>?_
  ·have h17:=hc;refine wA 5 I<|X6 ?_
   exact QL3 I I (congrArg (Value.int .i64) (by unfold QAc;rw[Ts,if_pos (i.hit hlt h17)])) tB
  have h17:=hc;refine QK<|Qa<|QLk 3 I<|QA (Qk I I O)<|wB 2 I ?_
  exact Qb (i.next hlt h17) (by show ps.length-(i.i+1)<ps.length-i.i;omega)
 have hge:ps.length<=i.i:=wm<|QK9 hc
 have hn1:=i.stop hge;refine Q7 ?_;refine wA 4 I<|QA (QW I Xk)<|QLi 3 I ?_
 refine QL I (λhc=>?_) λhc=>?_
 ·have h20:=hc;refine wA 6 I ?_;exact QL3 I I (congrArg (Value.int .i64) (by unfold QAc;rw[Ts,if_neg hn1,hal,if_pos h20])) tB
 have h20:=hc;refine QLj 9 I<|Jo (ι:=V4 ps λt=>MP t.f != 0) [(0,_)] (λi2=>[(4,.int .i64 ((i2.i:Nat):Int))]) (λi2=>ps.length-i2.i) (V4.start _ _) wT wT λi2=>?_
 have hi2:=i2.le;refine wA 5 I<|QA (QW I Xk)<|QLi 3 I ?_
 refine QL I (λhc=>?_) λhc=>?_
 ·have hlt:i2.i<ps.length:=wm<|QK8 hc
  have htm:=Ql hlt;refine QLj 8 I<|QA (Qo (n:=n) (i2.i) tD rfl rfl Xk Xq O)<|QA (QH I GA JP)<|QA (Qg (n:=n) ((i2.i)*2+0) tD O rfl JP (Q4 (f:=Y2) (l:=ps) Zh O rfl))<|QJ I (λ_ _ f k=>uT f ((hf _ htm).1)) λ_=>QLi 3 I ?_
  refine QL I (λhc=>?_) λhc=>?_
  ·have h33:=hc;refine wA 5 I<|X6 ?_
   exact QL3 I I (congrArg (Value.int .i64) (by unfold QAc;rw[Ts,if_neg hn1,hal,if_neg (by rw[h20];decide),Ts,if_pos (i2.hit hlt h33)])) tB
  have h33:=hc;refine QK<|Qa<|QLk 3 I<|QA (Qk I I O)<|wB 2 I ?_
  exact Qb (i2.next hlt h33) (by show ps.length-(i2.i+1)<ps.length-i2.i;omega)
 have hge2:ps.length<=i2.i:=wm<|QK9 hc
 have hn2:=i2.stop hge2;refine Q7 ?_;refine wA 6 I ?_;exact QL3 I I (congrArg (Value.int .i64) (by unfold QAc;rw[Ts,if_neg hn1,hal,if_neg (by rw[h20];decide),Ts,if_neg hn2])) tB
theorem QGA{e:Y1}{L:List Tm}(h:Z4 F e.1 e.2 (J2 L))(g:yh L):(∀t∈e.2,t.f.length<=1000000000/\PW t.k)/\e.2.length<=1000000000:=by
 have hl:=h.OD;have hn:=h.2.2.2.2;have hg:=g.2;refine⟨λt ht=>?_,O⟩;obtain⟨i,hi,rfl⟩:=List.getElem_of_mem ht;obtain⟨e1,e2⟩:=UT h.2.2.1 hi;rw[J8 hi]at e1 e2;have hm:el L i∈L:=Ql O;obtain⟨p1,p2⟩:=g.1 _ hm;rw[e1,e2];have:=Hq (el L i).1;exact⟨O,p1⟩
def F5(c:ARd):List Y1:=c.ps++c.rl
theorem Uv{c:ARd}(h:pc F c){e:Y1}(he:e∈F5 c):(Qu F e.1.q e.1.n 2 (e.2.flatMap Y2)/\Yk F e.2/\e.2.length=e.1.n)/\(∀t∈e.2,t.f.length<=1000000000/\PW t.k)/\e.2.length<=1000000000:=by
 obtain⟨h1,h2,h3,h4,_⟩:=h;have key:∀ {r:Sr} {rl:List Y1} {rs:List (List Tm)},RwP F r rl rs->(∀L∈rs,yh L)->e∈rl->(Qu F e.1.q e.1.n 2 (e.2.flatMap Y2)/\Yk F e.2/\e.2.length=e.1.n)/\(∀t∈e.2,t.f.length<=1000000000/\PW t.k)/\e.2.length<=1000000000:=λ{r rl rs} g1 g2 g3=>by
  obtain⟨i,hi,rfl⟩:=List.getElem_of_mem g3;have hp:=g1.pl i hi;rw[J8 hi]at hp;have hm:el rs i∈rs:=Ql (by rw[g1.ln2];exact hi);exact⟨⟨hp.1,hp.2.1,hp.2.2.2.2⟩,QGA hp (g2 _ hm)⟩
 rcases List.mem_append.1 he with g | g
 ·exact key h2 h4 g
 exact key h1 h3 g
def pc.le{c:ARd}(h:pc F c)(k:Gs.le F F'):pc F' c:=⟨h.1.le k,h.2.1.le k,h.2.2⟩
instance{c:ARd}: Up (λF=>pc F c):=⟨λk h=>pc.le h k⟩
def QBr(l:List Y1):∀v∈l.map (λe:Y1=>e.1.v),v.oneCell'=true:=λv hv=>by
 obtain⟨e,_,rfl⟩:=List.mem_map.1 hv;rfl
theorem QCp{c:ARd}(hF:Fits F w)(hC:pc F c)(hl:c.sh.n<=1000/\c.rt.n<=1000):QQ prog 55 [.agg #[c.nv,c.rt.v,c.sv],c.sh.v] w F (λ(x:Int)=>.int .i64 x) (λ_ _=>True):=by
 have hA0:=hC.2.1.row.F6;have hB0:=hC.1.row.F6;have hAl:=hC.2.1.len;have hBl:=hC.1.len;refine QQ.go (G:=λF=>pc F c) func55 hF hC ?_;refine QKt<|Q8 I (vs:=[_,_,_]) I λb2=>wR I<|QG<|Jf (b:=b2) .here<|JC QJ3 mixed wu<|yg (JR KW) YY λb8=>QI (QD I)<|Kn (ob:=[(b8,.cells ([]++[]:List Value).toArray 49 (0,0))]) (n:=0) (k:=c.sh.n) (sz:=1) (news:=c.ps.map λe:Y1=>e.1.v) I I KW YY vB I yJ (.some rfl rfl (Nat.le_refl _) wv) (Src.O3 hA0 (λF h9=>h9.1.2.1.row) (by rw[List.length_map,hC.2.1.len];omega)) O O (QBr _) QJ3 tC λv10 ob10 hr10=>?_
 rw[Nat.zero_add,List.nil_append]at hr10;refine QI (QH I EN GM)<|QI (Qy 1 tE rfl GM I)<|Kn (ob:=ob10) (n:=c.sh.n) (k:=c.rt.n) (sz:=1) (news:=c.rl.map λe:Y1=>e.1.v) I I KW YY vB I yJ hr10 (Src.O3 hB0 (λF h9=>h9.1.1.row) (by rw[List.length_map,hC.1.len];omega)) O O (QBr _) QJ3 tC λv13 ob13 hr13=>QI (QE I)<|Qv<|QLk 3 I ?_
 rw[List.append_nil];obtain⟨rr,hvr,hnr,hcr,hfix⟩:=Qp.fix (w0:=w) (F0:=F) (bs1:=[]) (G:=_) hr13;refine Hh hfix ?_;rw[hvr];have hal:(F5 c).length=c.sh.n+c.rt.n:=by rw[F5,List.length_append,hAl,hBl]
 refine QLj 5 I<|Jo (ι:=IxJ (F5 c).length) [(5,_)] (λi=>[(6,.int .i64 ((i.i:Nat):Int))]) (λi=>(F5 c).length-i.i) (⟨0,Nat.zero_le _⟩) wT wT λi=>wA 5 I<|QA (QW I KW)<|QLi 3 I ?_
 refine QL I (λhc2=>?_) λhc2=>?_
 ·have hlt:i.i<(F5 c).length:=wm<|QK8 hc2
  have hem:=Ql hlt;refine QLj 8 I<|QA (Qo (n:=rr.n) i.i (λF h9=>(by rw[hnr];show Qu F _ _ 1 ((c.ps++c.rl).map λe:Y1=>e.1.v);rw[List.map_append];exact h9.2)) I I KW YY O)<|QA (Qg (n:=rr.n) ((i.i)*1) (λF h9=>(by rw[hnr];show Qu F _ _ 1 ((c.ps++c.rl).map λe:Y1=>e.1.v);rw[List.map_append];exact h9.2)) O rfl YY (ZF (f:=(λe:Y1=>e.1.v)) (l:=F5 c) O))<|QJ I (λw F hF ⟨⟨hC,hz2⟩,hrow⟩=>QCo (cap:=(el (F5 c) i.i).1.cap) hF (Uv hC hem).1.1 (Uv hC hem).1.2.1 (Uv hC hem).1.2.2 (Uv hC hem).2.1 (Uv hC hem).2.2) λ_=>QLi 9 I ?_
  refine QL I (λhc2=>?_) λhc2=>?_
  ·refine wA 6 I<|X6 ?_
   exact QM ((QAc (Y7 (el (F5 c) i.i).2))) I (wO I) (rfl) tB
  refine QK<|Qa<|QLk 3 I<|QA (Qk I I O)<|wB 2 I ?_
  exact Qb (⟨i.i+1,hlt⟩)
 have hge:(F5 c).length<=i.i:=wm<|QK9 hc2
 refine Q7 ?_;refine wA 6 I ?_;exact QM (0) rfl (wO I) (rfl) tB
theorem QDy{p:ZL}{n:Nat}(hF:Fits F w)(hP:KO F p)(hL:k6 p)(hn:n<=8):QQ prog 15 [p.v,.int .i64 (n:Nat)] w F (λ(b:Bool)=>.bool b) (λb _=>b=true->UH p n):=by
 refine QQ.go (G:=λF=>KO F p) func15 hF hP ?_;refine QKt<|Q8 I (vs:=[_,_,_]) I λb2=>wR I<|QG<|Jf (b:=b2) .here<|QB<|QA (Z7 tE rfl Zf I)<|QJj I<|QJ I (λ_ _ f k=>QCn f k.1 hL O) λc7=>JM _ (λ_ _ f k=>k.2) λhm7=>QJj I ?_
 refine Qn (t:=8) rfl (λhb8=>?_) λhb8=>?_
 ·refine QP I I<|QA (Z7 (λF h9=>h9.1.2) rfl Zf I)<|QP I I ?_
  have hMF:=hm7 hb8;obtain⟨D,R,hlw⟩:=hMF.lw;refine QJ I (λ_ _ f k=>QFV f k.1.1 hMF hn hlw (by have:=hMF.un;have:=k.1.1.MK;omega)) (λc10=>JM _ (λ_ _ f k=>(k.2.2.2.2.2:c10.sh.n<=1000/\c10.rt.n<=1000)) λhl10=>wB 5 I<|QJ I (λ_ _ f k=>QCp f k.2 hl10) λc13=>QLi 7 I ?_);exact QM (_) rfl (wO I) (rfl) λ_ _ _=>hMF
 refine QLi 11 I ?_;exact QM (_) rfl (wO rfl) (rfl) λ_ _ h=>by cases h
structure BxG(m:Nat)(v:List SpQ):Prop where
 len:v.length=m
 ord:QJC v
 sz:∀a∈v,Szs a 1800
structure TbG(m:Nat)(es:List Rat)(T:List TbQ):Prop where
 len:T.length=es.length
 e:∀i,i<es.length->(el T i).1=el es i
 w:∀i,i<es.length->BxG m (el T i).2.1
 l:∀i,i<es.length->BxG m (el T i).2.2
def QI4(es:List Rat)(i:Nat):Rat:=if i=0 then((0:Int):Rat)else el es (i-1)
structure EsG(es:List Rat):Prop where
 asc:∀i,i<es.length->QI4 es i<el es i
 sz:∀i,i<es.length->XH (el es i)<=1800
 le:es.length<=1000
theorem QC2{p:ZL}(hF:Fits F w)(hGl:JZ F)(hP:KO F p)(hL:qB p)(h0:KL p=0):QQ prog 29 [p.v] w F (λ(c:Sr)=>.tuple #[c.v,.int .i64 0]) (λc F=>Qu F c.q c.n 1 ((X9 p.ul).map Qs)/\c.n=(X9 p.ul).length/\c.n<=c.cap):=by
 have LU:=hP.MK;have hun:=hL.un;have hV:=RE.of h0;have hsh:1<=p.sh/\p.sh<=1000000:=wm hV.sh;have hdr:=hV.dr;have hob:L1 p.ul=true:=by unfold L1;exact decide_eq_true (wm hV.ord)
 refine QQ.intro (G:=λF=>JZ F/\KO F p) func29 rfl w8 rfl rfl hF (λF' hF'=>⟨hGl.le hF',hP.le hF'⟩)<|QKt<|Q8 rfl (vs:=[_,_,_]) rfl λb1=>QJk rfl<|wR rfl<|QG<|QG<|Jf (b:=b1) .here<|QB<|QA (JG (n:=1) (vs:=[Qs p.sh,.slice p.un.q p.un.n p.un.cap,.slice p.ot.q p.ot.n p.ot.cap]) ((0)*3) (λF h9=>(Qu.of (n:=1) (sz:=3) h9.2 rfl)) O rfl Zf rfl λj v hv=>by simpa using hv)<|QJ rfl (λ_ _ f k=>Rc f k.1.1 k.1.2 hL) λ_=>wR rfl<|wS rfl<|QA (QR rfl rfl rfl)<|QF<|QC ?_
 refine QL I (λhc2=>?_) λhc2=>?_
 ·exact absurd hc2 ((by rw[h0];decide))
 refine QLj 4 I<|QA (JG (n:=1) (vs:=[Qs p.sh,.slice p.un.q p.un.n p.un.cap,.slice p.ot.q p.ot.n p.ot.cap]) ((0)*3) (λF h9=>(Qu.of (n:=1) (sz:=3) h9.1.2 I)) O rfl Zf I λj v hv=>by simpa using hv)<|QJ I (λ_ _ f k=>Cd f k.1.1.2 hun hsh λu hu=>(hV.us u hu).ou) λc16=>JM _ (λ_ _ f k=>(k.2 hdr).2.1) λn16=>QLi 9 I<|QA (JG (n:=1) (vs:=[Qs p.sh,.slice p.un.q p.un.n p.un.cap,.slice p.ot.q p.ot.n p.ot.cap]) ((0)*3) (λF h9=>(Qu.of (n:=1) (sz:=3) h9.1.1.2 I)) O rfl Zf I λj v hv=>by simpa using hv)<|QJj I<|QJ I (λ_ _ g k=>gE (N:=c16.n) g k.1.1.1.2 (by rw[n16];have:=(k.2 hdr).1;rwa [n16]at this) hun (λu hu=>by have h1:=Z5 (hV.us u hu);have h2:=(k.1.1.1.2.us _ hu).MQ;omega) (λu hu=>(hV.us u hu).kd) λu hu f hf=>wm<|((hV.us u hu).fd f (gP hf)).1) λc22=>QLi 15 I ?_
 exact J7 (c22) rfl (wP I I) (rfl) λF h9=>h9.2 hob
def WV.two(h:WV sh u)(hk:u.kd=Vj):u.fl.length=2/\u.cl=[]:=by
 have h1:=h.shp;unfold EB at h1;rw[if_pos hk,if_neg (by rw[hk];exact PR.2.1),Bool.and_eq_true,decide_eq_true_eq,decide_eq_true_eq]at h1;exact⟨h1.1,List.length_eq_zero_iff.1 h1.2⟩
def Ui(r x:Rat):Rat:=if r<0 then -x else x
def uB(r x:Rat):XH (Ui r x)=XH x:=by unfold Ui;split<;>simp[RJ]
def kW(ts:List FU)(u:Xe)(j k:Nat):List F2:=(List.range 2).map λm=>if m<k then⟨(el u.fl m).k,Q6 (Ui (Jc (el u.fl m).r) (KV (el ts (j+m)).2))⟩else el u.fl m
def Ef(ts:List FU)(u:Xe)(j k:Nat):(kW ts u j k).length=2:=by simp[kW]
def QJE(h:u.fl.length=2):kW ts u j 0=u.fl:=by
 unfold kW;refine List.ext_getElem (by simp[h]) λm h1 h2=>?_;rw[List.getElem_map,List.getElem_range,if_neg O,J8 h2]
def xh{k m:Nat}(h:m<2):el (kW ts u j k) m=if m<k then⟨(el u.fl m).k,Q6 (Ui (Jc (el u.fl m).r) (KV (el ts (j+m)).2))⟩else el u.fl m:=by
 rw[J8 (by rw[Ef];exact h)];unfold kW;rw[List.getElem_map,List.getElem_range]
theorem QFm{k:Nat}(h:k<2):(kW ts u j k).set k ⟨(el (kW ts u j k) k).k,Q6 (Ui (Jc (el u.fl k).r) (KV (el ts (j+k)).2))⟩=kW ts u j (k+1):=by
 rw[xh h,if_neg O];refine List.ext_getElem (by rw[List.length_set,Ef,Ef]) λm h1 h2=>?_;have e1:=J8 h2;have h3:m<(kW ts u j k).length:=by rw[List.length_set]at h1;exact h1
 have e2:=J8 h3;rw[Ef]at h3;rw[List.getElem_set,<-e1,<-e2,xh h3,xh h3];by_cases e:k=m
 ·subst e;rw[if_pos rfl,if_pos O]
 rw[if_neg e];by_cases g:m<k
 ·rw[if_pos g,if_pos O]
 rw[if_neg g,if_neg O]
theorem dc:∀l:List F2,(l.flatMap BV).length=l.length*2
 |[]=>rfl
 |x::l=>by rw[List.flatMap_cons,List.length_append,dc l,Zw,List.length_cons];omega
theorem QGC{l:List F2}{k:Nat}(h:k<l.length):(l.flatMap BV++rest)[0+k*2+1]?=some (tx (el l k).r):=by
 have h1:=Q4 (f:=BV) (l:=l) (i:=k) (j:=1) Zw h (u:=tx (el l k).r) rfl;rw[Nat.zero_add,List.getElem?_append_left]
 ·exact h1
 exact(List.getElem?_eq_some_iff.1 h1).1
theorem QHV{l:List F2}(hi:i<l.length)(r:List UInt8):KC (l.flatMap BV++rest) (0+i*2+1) [tx r] ((l.set i ⟨(el l i).k,r⟩).flatMap BV++rest):=by
 have e0:l=l.take i++l[i]::l.drop (i+1):=w9;have e1:l.set i ⟨(el l i).k,r⟩=l.take i++⟨l[i].k,r⟩::l.drop (i+1):=by rw[J8 hi];grind
 have a1:l.flatMap BV++rest=((l.take i).flatMap BV++[Qs l[i].k])++([tx l[i].r]++((l.drop (i+1)).flatMap BV++rest)):=by
  rw[show l.flatMap BV=(l.take i++l[i]::l.drop (i+1)).flatMap BV from congrArg _ e0,List.flatMap_append,List.flatMap_cons];simp only[BV,List.append_assoc,List.cons_append,List.nil_append]
 have a2:(l.set i ⟨(el l i).k,r⟩).flatMap BV++rest=((l.take i).flatMap BV++[Qs l[i].k])++([tx r]++((l.drop (i+1)).flatMap BV++rest)):=by
  rw[e1];simp[BV]
 have a3:((l.take i).flatMap BV).length=i*2:=by
  rw[dc,List.length_take];omega
 rw[a1,a2,show 0+i*2+1=((l.take i).flatMap BV++[Qs l[i].k]).length by rw[List.length_append,a3];simp];exact Fb I
theorem Qu.ofR{b n sz:Nat}{cs:List Value}{T:TypeId}(h:F b=some ((cs++rest).toArray,T))(hl:cs.length=n*sz):Qu F (some ⟨b,0,none⟩) n sz cs :=
 ⟨hl,λ_=>⟨b,0,_,T,rfl,h,λj u hu=>by
  rw[Nat.zero_add,List.getElem?_toArray,List.getElem?_append_left (List.getElem?_eq_some_iff.1 hu).1];exact hu⟩⟩
structure QJf(ts:List FU)(u v:Xe)(j:Nat):Prop where
 kd:v.kd=u.kd
 fl:v.fl=kW ts u j 2
 ou:v.ou=u.ou
 st:v.st=u.st
 cl:v.cl=u.cl
 fn:v.fd.n=u.fd.n
 cn:v.cv.n=u.cv.n
structure RpI(p:ZL)(ts:List FU) where
 i:Nat
 us:List Xe
 uv:Value
 uob:List (Nat×Obj)
 xs:List (Fr×Rat)
 le:i<=p.ul.length
 len:us.length=i
 xl:xs.length=p.sh.toNat
 hr:Qp 59 5 uv i (us.flatMap MJ) uob
 rel:∀k,k<i->QJf ts (el p.ul k) (el us k) (2*k)
structure QCR(p:ZL)(ts:List FU)(q:ZL):Prop where
 sh:q.sh=p.sh
 ol:q.ol=p.ol
 on:q.ot.n=p.ot.n
 len:q.ul.length=p.ul.length
 us:∀k,k<p.ul.length->QJf ts (el p.ul k) (el q.ul k) (2*k)
def zrF:Fr:=⟨⟨0,none,0,0⟩,⟨0,none,0,0⟩⟩
def QCF[Inhabited α]{l:List α}{x:α}{k:Nat}(h:k<=l.length):el (l++[x]) k=if k<l.length then el l k else x:=by
 unfold el;rw[List.getD_eq_getElem?_getD,List.getD_eq_getElem?_getD];split
 ·rename_i g;rw[List.getElem?_append_left g]
 rename_i g;rw[List.getElem?_append_right O,show k-l.length=0 by omega];rfl
theorem zV{p:ZL}{n:Nat}(hF:Fits F w)(hGl:JZ F)(hP:KO F p)(hL:qB p)(h0:KL p=0)(hT:Tu F q n ts)(hok:∀e∈ts,jR e.2=0)(hn:(Dp p.ul).length=ts.length)(hn2:ts.length=2*p.ul.length)(hnb:n<=1000000)(hpl:∀u∈p.ul,u.kd=Vj)
  : QQ prog 8 [p.v,.slice q n c] w F (λ(r:ZL)=>.tuple #[r.v,.int .i64 0]) (λr F=>KO F r/\QCR p ts r):=by
 have LU:=hP.MK;have hun:=hL.un;have hot:=hL.ot;have hlen:=hT.len;have hV:=RE.of h0;have hsh:=hV.sh;have hord:=hV.ord;have hf2:∀u∈p.ul,u.fl.length=2/\u.fl.length=u.fd.n:=λu hu=>⟨((hV.us u hu).two (hpl u hu)).1,(hP.us _ hu).MQ⟩;have hfn:∀u∈p.ul,u.fl.length=u.fd.n/\u.fd.n<=1000000:=λu hu=>wm<|hf2 u hu
 refine QQ.go (G:=λF=>JZ F/\KO F p/\Tu F q n ts) func8 hF ⟨hGl,hP,hT⟩ ?_;refine QKt<|Q8 I (vs:=[_,_,_]) I λb2=>Qe QAK λb4=>QLi 5 I<|Jf (b:=b2) .u1<|QB<|QA (JG (n:=1) (vs:=[Qs p.sh,.slice p.un.q p.un.n p.un.cap,.slice p.ot.q p.ot.n p.ot.cap]) ((0)*3) (λF h9=>(Qu.of (n:=1) (sz:=3) h9.2 I)) O rfl Zf I λj v hv=>by simpa using hv)<|QJj I<|QJ I (λ_ _ f k=>Ao f k.1.1 k.1.2.1 hL h0 k.1.2.2 hok hn hnb hfn) λ_=>QLi 9 I ?_
 refine QL I (λhc2=>?_) λhc2=>?_
 ·exact absurd hc2 (wv)
 refine QLj 3 I<|yZ (r:=[0,1,2,3,4,5,6,7]) tF mixed wu rfl<|Y6 0 wu rfl rfl<|QI (QH I WT QZ)<|XX<|Y6 1 wu rfl rfl<|QI (Qg (n:=1) ((0)*3+0) (λF h9=>(Qu.of (n:=1) (sz:=3) h9.1.2 I)) O rfl QZ I)<|XX<|Y6 2 wu rfl rfl<|QI (QH I I7 Q5)<|XX<|Y6 3 wu rfl rfl<|QI (Qg (n:=1) ((0)*3+2) (λF h9=>(Qu.of (n:=1) (sz:=3) h9.1.2 I)) O rfl Q5 I)<|XX<|yW (A:=[6]) (r:=[4,5,7]) wu<|OZ 4 wu wu w8 tF tC rfl rfl rfl (λ_=>rfl) (λ_ _ f k=>QDK (r:=p.ot) (l:=p.ol) f k.1.1.2.1.ot O) λc32=>QJg 5 wu wu w8 tF tD rfl w8 (λ_=>Jr I QGt QAK (.cons (vs:=[_]) I I I .h1 (.cons (vs:=[_]) I I I (.skip (.skip .h1)) .nil)))<|QBh 6 (d:=7) (T:=25) wu wu w8 tF tD wu wu QAK λb7=>yV (vs:=[_,_,_]) 7 wu wu w8 (.cons _ tF) tD rfl rfl (λ_=>rfl) (λ_=>rfl) rfl Zf I .here tF .h3 wV ?_
 refine pT ?_ wu;refine QC<|QKt<|QA (QH I WT QZ)<|QA (Qg (n:=1) ((0)*3+0) (λF h9=>(Qu.of (n:=1) (sz:=3) h9.1.1.2 I)) O rfl QZ I)<|Y8 (n:=p.sh.toNat) (bytes:=64) wN wN We JA VU I QCN O O λb36=>?_
 rw[show[Value.int .i64 0,.slice none 0 0,.int .i64 0,.slice none 0 0]=S2 zrF from rfl,Oj zrF 0];refine QLi 6 I<|QJ I (λ_ _ f k=>f_g (n:=0) f O O) λc38=>QA (Qj (i:=0) rfl rfl We JA O)<|QS (vs:=S2 c38) rfl rfl rfl JA I .here (xM (xs:=List.replicate p.sh.toNat (zrF,0)) (i:=0) (by rw[List.length_replicate];omega) c38 0) wW<|QJi<|QKt<|wR rfl<|QG<|QKt<|QA (QH rfl XS Jj)<|QA (Qg (n:=1) ((0)*3+1) (λF h9=>(Qu.of (n:=1) (sz:=3) h9.1.1.1.2 rfl)) O rfl Jj rfl)<|QA (QW rfl Xr)<|QJj rfl<|QJi<|QO<|Vv (ι:=RpI p ts) [(1,_),(2,_),(4,_),(7,_),(8,_),(41,_),(42,_)] (λi=>[(9,.int .i64 (((2*i.i):Nat):Int)),(43,.int .i64 ((i.i:Nat):Int))]) (λi=>(b36,.cells (H7 i.xs).toArray 77 (0,0))::(b7,.cells [Qs p.sh,i.uv,.slice c32.q c32.n c32.cap].toArray 25 (0,0))::(b4,.cells [.int .i64 0,.slice none 0 0,.slice none 0 0].toArray 25 (0,0))::i.uob) (λi F=>∀u∈i.us,UB F u) (λi=>p.ul.length-i.i) (⟨0,[],.slice none 0 0,[],(List.replicate p.sh.toNat (zrF,0)).set 0 (c38,0),Nat.zero_le _,rfl,w9,.nil,λk h=>absurd h (Nat.not_lt_zero _)⟩) wZ wU QJ3 (λF _ u hu=>by cases hu) λi=>?_
 have hi:=i.le;have hxl:=i.xl;refine wA 6 I ?_;refine QL I (λhc2=>?_) λhc2=>?_
 ·have hlt:i.i<p.ul.length:=wm<|QK8 hc2
  have hum:=Ql hlt;have huo:=hV.us _ hum;have hou:=huo.ou;have hf2u:=hf2 _ hum;have hcl:=((hV.us _ hum).two (hpl _ hum)).2;have hcn:(el p.ul i.i).cv.n=0:=by have:=(hP.us _ hum).RA;rw[hcl]at this;exact this.symm
  refine QLj 6 I<|QA (Qo (n:=p.un.n) i.i (λF h9=>h9.1.1.1.1.1.2.1.un) rfl rfl Xr XJ O)<|QA (JG (n:=p.un.n) (vs:=[tx (el p.ul i.i).kd,.slice (el p.ul i.i).fd.q (el p.ul i.i).fd.n (el p.ul i.i).fd.cap,Qs ((el p.ul i.i).ou),tx (el p.ul i.i).st,.slice (el p.ul i.i).cv.q (el p.ul i.i).cv.n (el p.ul i.i).cv.cap]) ((i.i)*5) (λF h9=>h9.1.1.1.1.1.2.1.un) O rfl XJ I λj v hv=>Q4 (f:=MJ) (l:=p.ul) ZO O hv)<|Qe Ni λb11=>QS (vs:=[_,_,_,_,_]) I I I XJ I .here .h5 wX<|QJi<|QG<|JY 7 QJ3 mixed wu wu ?_
  simp only[List.take_succ_cons,List.take_zero,List.drop_succ_cons,List.drop_zero];refine QI (QH I ZV XK)<|QI (Qf I XK .here (.skip .h1))<|Wt I (List.Perm.refl _) (QBR (r:=(el p.ul i.i).fd) (l:=kW ts (el p.ul i.i) (2*i.i) 0) (λF h9=>by rw[QJE hf2u.1];exact(h9.1.1.1.1.1.2.1.us _ hum).fd) O O) (λc w h=>h.imp (.cons _ QJ3) λ_ h=>h.1) λc49=>?_
  obtain⟨b49,cap49,rest49,hl49⟩:=c49;dsimp only;refine QI (QH I H8 KR)<|QI (Qf I KR .here (.skip (.skip (.skip (.skip .h1)))))<|QV I (λ_ _ f k=>QDI (r:=(el p.ul i.i).cv) (l:=(el p.ul i.i).cl) f (k.1.1.1.1.1.1.2.1.us _ hum).cv O) λc52=>WI _ (λ_ _ f k=>k.2.2) λh52n=>QI (QH I ZV XK)<|X1<|QS (vs:=[_]) I I I XK I .u1 (.skip .h1) wT<|QA (QH I H8 KR)<|QS (vs:=[_]) I I I KR I .u1 (.skip (.skip (.skip (.skip .h1)))) wT<|QLi 5 I<|QA (QH I ZV XK)<|QA (Qf I XK .u1 (.skip .h1))<|QA (QW (q:=some ⟨b49,0,none⟩) (n:=(el p.ul i.i).fd.n) (c:=cap49) rfl Zz)<|QLi 4 I<|Vv (ι:=IxJ 2) [(1,_),(2,_),(4,_),(7,_),(8,_),(11,_),(41,_),(42,_),(43,_),(57,_)] (λk=>[(9,.int .i64 (((2*i.i+k.i):Nat):Int)),(58,.int .i64 ((k.i:Nat):Int))]) (λk=>(b49,.cells ((kW ts (el p.ul i.i) (2*i.i) k.i).flatMap BV++rest49).toArray 61 (0,0))::(b11,.cells [tx (el p.ul i.i).kd,.slice (some ⟨b49,0,none⟩) (el p.ul i.i).fd.n cap49,Qs (el p.ul i.i).ou,tx (el p.ul i.i).st,.slice c52.q c52.n c52.cap].toArray 59 (0,0))::(b36,.cells (H7 i.xs).toArray 77 (0,0))::(b7,.cells [Qs p.sh,i.uv,.slice c32.q c32.n c32.cap].toArray 25 (0,0))::(b4,.cells [.int .i64 0,.slice none 0 0,.slice none 0 0].toArray 25 (0,0))::i.uob) (λk F=>True) (λk=>2-k.i) (⟨0,Nat.zero_le _⟩) wi wU QJ3 tB λk=>?_
  have hki:=k.le;refine wA 6 I ?_;refine QL I (λhc2=>?_) λhc2=>?_
  ·have hlk:k.i<2:=wm<|QK8 hc2
   have hfm:=Ql (show k.i<(el p.ul i.i).fl.length by omega);have hfr:=huo.fd _ hfm;have hem:=Ql (show 2*i.i+k.i<ts.length by omega);have hzt:=NX (OW.of (hok _ hem));have hzr:=Xt hfr.2.1;have hzs:=uB (Jc (el (el p.ul i.i).fl k.i).r) (KV (el ts (2*i.i+k.i)).2);refine QLj 14 I<|QA (Qo (n:=n) ((2*i.i+k.i)) (λF h9=>h9.1.1.1.1.1.1.1.1.2.2.row) rfl rfl Ue LX O)<|QA (Qg (n:=n) (((2*i.i+k.i))*1) (λF h9=>h9.1.1.1.1.1.1.1.1.2.2.row) O rfl LX (ZF (f:=λe:FU=>e.1.v) (l:=ts) O))<|QJ I (λ_ _ f k=>zX f (k.1.1.1.1.1.1.1.1.2.2.tr _ hem).1 (k.1.1.1.1.1.1.1.1.2.2.tr _ hem).2 (OW.of (hok _ hem))) λc65=>Qe VU λb13=>QS (vs:=[_,_,_,_]) I I I JA I .here .h4 wW<|QF<|QC ?_
   refine Ba (ι:=Fr) [(1,_),(2,_),(4,_),(7,_),(8,_),(9,_),(11,_),(12,_),(13,_),(41,_),(42,_),(43,_),(57,_),(58,_)] (λy=>[]) (λy=>(b13,.cells (S2 y).toArray 77 (0,0))::(b49,.cells ((kW ts (el p.ul i.i) (2*i.i) k.i).flatMap BV++rest49).toArray 61 (0,0))::(b11,.cells [tx (el p.ul i.i).kd,.slice (some ⟨b49,0,none⟩) (el p.ul i.i).fd.n cap49,Qs (el p.ul i.i).ou,tx (el p.ul i.i).st,.slice c52.q c52.n c52.cap].toArray 59 (0,0))::(b36,.cells (H7 i.xs).toArray 77 (0,0))::(b7,.cells [Qs p.sh,i.uv,.slice c32.q c32.n c32.cap].toArray 25 (0,0))::(b4,.cells [.int .i64 0,.slice none 0 0,.slice none 0 0].toArray 25 (0,0))::i.uob) (λy F=>Jl F y (Ui (Jc (el (el p.ul i.i).fl k.i).r) (KV (el ts (2*i.i+k.i)).2))) ⟨rfl,rfl,rfl,rfl,rfl,rfl,rfl,rfl,rfl,rfl,rfl,rfl,rfl,rfl,trivial⟩ ?_ ?_
   ·refine QKt<|QA (QH I ZV XK)<|QA (Qf I XK .u2 (.skip .h1))<|QJj I<|QA (Qj (i:=k.i) rfl rfl Zz YC O)<|QA (QH I Gc JP)<|QA (Xm (c:=(kW ts (el p.ul i.i) (2*i.i) k.i).flatMap BV++rest49) (T':=61) rfl JP .u1 (QGC (by rw[Ef];omega))) ?_
    rw[xh (show k.i<2 by omega),if_neg (Nat.lt_irrefl _)];refine QJ I (λ_ _ f h=>WS (r:=Jc (el (el p.ul i.i).fl k.i).r) f h.1.1.1.1.1.1.1.1.1.1 (Xa hfr.2.1).1 (wm<|(hL.us _ hum).fr _ hfm)) (λc72=>QJ I (λ_ _ f k=>Tg f k.2) λ_=>QLi 3 I ?_);refine QL I (λhc2=>?_) λhc2=>?_
    ·have hs:Jc (el (el p.ul i.i).fl k.i).r<0:=FX.1 (QK8 hc2);refine QB<|QA (wJ I JA .here)<|QJ I (λ_ _ f k=>QBF f k.1.1.2) λc76=>QS (vs:=[_,_,_,_]) I I I JA I .here .h4 wW<|QF ?_
     exact XG (c76) ⟨rfl,rfl,rfl,rfl,rfl,rfl,rfl,rfl,rfl,rfl,rfl,rfl,rfl,rfl,trivial⟩ QJ3 λF ⟨⟨⟨⟨⟨⟨⟨⟨⟨⟨⟨⟨⟨hGl,hP,hT⟩,hz2⟩,_⟩,h32⟩,h38⟩,hUs⟩,h49⟩,h52⟩,_⟩,h65⟩,h72⟩,_⟩,h76⟩=>⟨⟨⟨⟨⟨⟨⟨⟨⟨⟨⟨hGl,hP,hT⟩,hz2⟩,trivial⟩,h32⟩,h38⟩,hUs⟩,h49⟩,h52⟩,trivial⟩,h65⟩,(by unfold Ui;rw[if_pos hs];exact h76)⟩
    have hs:¬Jc (el (el p.ul i.i).fl k.i).r<0:=λh=>(QK9 hc2) (FX.2 h);refine QK ?_;exact XG (c65) ⟨rfl,rfl,rfl,rfl,rfl,rfl,rfl,rfl,rfl,rfl,rfl,rfl,rfl,rfl,trivial⟩ QJ3 λF ⟨⟨⟨⟨⟨⟨⟨⟨⟨⟨⟨⟨hGl,hP,hT⟩,hz2⟩,_⟩,h32⟩,h38⟩,hUs⟩,h49⟩,h52⟩,_⟩,h65⟩,h72⟩,_⟩=>⟨⟨⟨⟨⟨⟨⟨⟨⟨⟨⟨hGl,hP,hT⟩,hz2⟩,trivial⟩,h32⟩,h38⟩,hUs⟩,h49⟩,h52⟩,trivial⟩,h65⟩,(by unfold Ui;rw[if_neg hs];exact h65)⟩
   intro y;refine QG<|JC (.cons_cons _ (.cons _ (.cons_cons _ (.cons_cons _ (.cons_cons _ (.cons_cons _ QJ3)))))) mixed wu<|QI (QH I ZV XK)<|QI (Qf I XK .u1 (.skip .h1))<|QI (QD I)<|QI (wJ I JA .here)<|QV I (λ_ _ f k=>Mu f k.1.1.1.1.1.1.1.1.1.1.1 k.2 O) λ_=>QI (Qj (i:=k.i) rfl rfl Zz YC O)<|QI (QH I Gc JP)<|Ju (vs:=[_]) I I I JP I .u1 QJ3 tD (QHV (l:=kW ts (el p.ul i.i) (2*i.i) k.i) (i:=k.i) (by rw[Ef];omega) (Q6 (Ui (Jc (el (el p.ul i.i).fl k.i).r) (KV (el ts (2*i.i+k.i)).2)))) wT ?_
   rw[QFm (show k.i<2 by omega)];refine Qv<|QLk 3 I<|QA (Qk I I O)<|wB 2 I<|Qa<|QC<|QB<|QA (Qk I I O)<|wB 2 I ?_
   exact Qb (⟨k.i+1,hlk⟩) (by show 2-(k.i+1)<2-k.i;omega) ⟨rfl,rfl,rfl,rfl,rfl,rfl,rfl,rfl,rfl,rfl,(congrArg (λz:Int=>some (Value.int .i64 z)) (by dsimp only;omega)),rfl,trivial⟩ ((.cons _ QJ3)) λF h=>⟨h.1.1.1.1,trivial⟩
  have hgk:k.i=2:=by have:=QK9 hc2;have:=k.le;omega
  refine Q7 ?_;refine QG<|JC (.cons_cons _ (.cons_cons _ (.cons _ (.cons_cons _ (.cons_cons _ QJ3))))) mixed wu<|QI (QD I)<|QI (QH I KI QZ)<|QI (Qf I QZ .u1 (.skip (.skip .h1)))<|QI (QH I Bv JP)<|QI (Qf I JP .u1 (.skip (.skip (.skip .h1))))<|QV I (λ_ _ f k=>WS (r:=Jc (el p.ul i.i).st) f k.1.1.1.1.1.1.1.1.1 (Xa huo.st).1 (wm<|(hL.us _ hum).st)) λc92=>QI (Qj (i:=(el p.ul i.i).ou.toNat) rfl wN We JA O)<|Ju (vs:=S2 c92) rfl rfl rfl JA I .u2 QJ3 tD (xM (xs:=i.xs) (i:=(el p.ul i.i).ou.toNat) (by rw[i.xl];omega) c92 (Jc (el p.ul i.i).st)) wW<|Qv<|QC<|Jf (b:=b49) .here<|QB<|QA (QH I XS Jj)<|QA (Qf I Jj .u2 (.skip .h1))<|QA (QX (vs:=[_,_,_,_,_]) I XJ .here .h5 rfl)<|Qw I (JR Xr) XJ Ni I I λb97=>?_
  refine Zj (bs1:=[_,_,_,_]) (ob:=i.uob) (n:=i.i) (k:=1) (sz:=5) (news:=MJ (⟨(el p.ul i.i).kd,⟨some ⟨b49,0,none⟩,(el p.ul i.i).fd.n,cap49⟩,kW ts (el p.ul i.i) (2*i.i) 2,(el p.ul i.i).ou,(el p.ul i.i).st,c52,(el p.ul i.i).cl⟩:Xe)) I I Xr XJ Ni I QJZ i.hr (Src.row (off:=0) tE (λj q hq=>by rw[Nat.zero_add];rw[List.getElem?_toArray];exact hq) rfl) O O (λv hv=>QFN [(⟨(el p.ul i.i).kd,⟨some ⟨b49,0,none⟩,(el p.ul i.i).fd.n,cap49⟩,kW ts (el p.ul i.i) (2*i.i) 2,(el p.ul i.i).ou,(el p.ul i.i).st,c52,(el p.ul i.i).cl⟩:Xe)] v (by simpa using hv)) (λv98 ob98 hr98=>?_);refine QA (QH I XS Jj)<|QS (vs:=[_]) I I hr98.one.2 Jj I .u2 (.skip .h1) ⟨hr98.one.1,trivial⟩<|QF<|Qa<|QC<|QB<|QA (Qk I I O)<|wB 2 I ?_
  exact Qb (⟨i.i+1,i.us++[(⟨(el p.ul i.i).kd,⟨some ⟨b49,0,none⟩,(el p.ul i.i).fd.n,cap49⟩,kW ts (el p.ul i.i) (2*i.i) 2,(el p.ul i.i).ou,(el p.ul i.i).st,c52,(el p.ul i.i).cl⟩:Xe)],v98,ob98,i.xs.set (el p.ul i.i).ou.toNat (c92,Jc (el p.ul i.i).st),hlt,by rw[List.length_append,i.len];rfl,by rw[List.length_set];exact i.xl,by rw[List.flatMap_append];simpa using hr98,λm hm=>by
   rw[QCF (by rw[i.len];omega),i.len];split
   ·exact i.rel m (by assumption)
   ·obtain rfl:m=i.i:=O;exact⟨rfl,rfl,rfl,rfl,rfl,rfl,h52n⟩⟩) (by show p.ul.length-(i.i+1)<p.ul.length-i.i;omega) ⟨rfl,rfl,rfl,rfl,rfl,rfl,rfl,(congrArg (λz:Int=>some (Value.int .i64 z)) (by dsimp only;omega)),rfl,trivial⟩ ((.cons _ QJ3)) (λF ⟨⟨⟨⟨⟨⟨⟨⟨⟨⟨⟨⟨hGl,hP,hT⟩,hz2⟩,_⟩,h32⟩,h38⟩,hUs⟩,h49⟩,h52⟩,_⟩,h92⟩,hz49⟩,hs97⟩=>⟨⟨⟨⟨⟨⟨hGl,hP,hT⟩,hz2⟩,trivial⟩,h32⟩,h38⟩,λu hu=>by
   rcases List.mem_append.1 hu with h | h
   ·exact hUs u h
   rw[List.mem_singleton.1 h];exact⟨Qu.ofR (by rw[hgk]at hz49;exact hz49) (by rw[dc,Ef];show 2*2=(el p.ul i.i).fd.n*2;omega),h52.1,by show(kW ts _ _ 2).length=(el p.ul i.i).fd.n;rw[Ef];omega,by show(el p.ul i.i).cl.length=c52.n;rw[h52.2];exact(hP.us _ hum).RA,h49⟩⟩)
 have hge:i.i=p.ul.length:=by have:=QK9 hc2;have:=i.le;omega
 refine Q7 ?_;refine QG ?_;obtain⟨⟨rq,rn,rc⟩,hvv,hvn,hvc,hfixv⟩:=Qp.fix (w0:=w) (F0:=F) (bs1:=[_,_,_]) (G:=_) i.hr;dsimp only at hvn hvc hfixv;subst hvn;refine Hh hfixv ?_;rw[hvv];dsimp only[Sr.v];refine QB<|QA (JG (n:=1) (vs:=[Qs p.sh,.slice p.un.q p.un.n p.un.cap,.slice p.ot.q p.ot.n p.ot.cap]) ((0)*3) (λF h9=>(Qu.of (n:=1) (sz:=3) h9.1.1.1.1.1.2 I)) O rfl Zf I λj v hv=>by simpa using hv)<|QJ I (λ_ _ f k=>QC2 f k.1.1.1.1.1.1.1 k.1.1.1.1.1.1.2.1 hL h0) λc103=>JM _ (λ_ _ f k=>k.2.2.1) λhn103=>QLi 11 I<|QA (QW I Qd)<|QLi 4 I<|Jo (ι:=IxJ (X9 p.ul).length) [(4,_),(7,_),(8,_),(106,_),(107,_)] (λi3=>[(108,.int .i64 ((i3.i:Nat):Int))]) (λi3=>(X9 p.ul).length-i3.i) (⟨0,Nat.zero_le _⟩) wX wT λi3=>?_
 have hi3:=i3.le;refine wA 6 I ?_;refine QL I (λhc2=>?_) λhc2=>?_
 ·have hlt3:i3.i<(X9 p.ul).length:=wm<|QK8 hc2
  obtain⟨j9,hj9,hje,_,_⟩:=hV.unit (show i3.i<p.ul.length from wm hV.ord);have hkd:(el i.us (el (X9 p.ul) i3.i).toNat).kd=Vj:=by rw[hje,Int.toNat_natCast,(i.rel j9 O).kd];exact hpl _ (Ql hj9)
  have hil:=i.len;refine QLj 6 I<|QA (Qo (n:=c103.n) (i3.i) (λF h9=>h9.2.1) rfl rfl Qd QZ O)<|QA (Qg (n:=c103.n) ((i3.i)*1) (λF h9=>h9.2.1) O rfl QZ (ZF (f:=Qs) (l:=(X9 p.ul)) O))<|QLi 5 I<|QA (QH I XS Jj)<|QA (Qf I Jj .u1 (.skip .h1))<|QJj I<|QA (Qo (n:=i.i) ((el (X9 p.ul) i3.i).toNat) (λF h9=>h9.1.2) rfl wN Xr XJ O)<|QLi 7 I<|QA (Xl I)<|QA (QH I Ks YZ)<|QA (Qg (n:=i.i) (((el (X9 p.ul) i3.i).toNat)*5+0) (λF h9=>h9.1.2) O rfl YZ (Q4 (f:=MJ) (l:=i.us) ZO O rfl))<|QA (PA I I)<|QF<|QC ?_
  refine QL I (λhc2=>?_) λhc2=>?_
  ·refine Q7 ?_;refine QB<|QA (Qk I I O)<|wB 2 I ?_
   exact Qb (⟨i3.i+1,hlt3⟩) (by show(X9 p.ul).length-(i3.i+1)<(X9 p.ul).length-i3.i;omega) wY QJ3 tC
  exact absurd hc2 ((by rw[hkd];decide))
 refine Q7 ?_;refine QKt<|QA (wI I Zf .u1)<|QS (vs:=[_,_,_]) I I I Zf I .u2 .h3 wV<|wR I<|QT ?_
 exact J7 (⟨p.sh,⟨rq,i.i,rc⟩,i.us,c32,p.ol⟩) I (.J4 (c:=[_,_,_]) I Zf .u2 (wO I)) (rfl) λF h9=>⟨⟨h9.1.2,h9.1.1.2,h9.1.1.1.1.2.1,i.len,by show p.ol.length=c32.n;rw[h9.1.1.1.1.2.2];exact h9.1.1.1.1.1.1.1.2.1.QEH⟩,rfl,rfl,h9.1.1.1.1.2.2,by rw[i.len];exact hge,λk hk=>i.rel k O⟩
end Go.Proofs.YteldggljlnakmaaGreatDoor
