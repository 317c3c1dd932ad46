/- Steps of the proof of the theorem in the last file. -/
import Derived.Test.YteldggljlnakmaaGreatDoorP2
import Derived.RangeFuncLeaves
import Derived.RangeFuncSeq
import Derived.OwnWalkIn
import Derived.OrdersIn
import Derived.ChangeKeysEq
import Derived.KernelRfl
import Derived.Scope
import Derived.Control
set_option linter.all false
set_option maxHeartbeats 4000000
open Go.Proofs.Tryz
namespace Go.Proofs.YteldggljlnakmaaGreatDoor
variable{a b l:List Int}{N cap i k:Nat}{q:Option Addr}{w:World}{F:Gs}{bl:List Bool}{ts:List Xp}{vs:List Value}{assign body c y:Code}{xs:List (Fr×Rat)}{R:Ending->World->Prop}{m:Sl}{β:Nat->Nat}{A u:List Nat}
open Go.RowKit Ig
def Qp.pos{T:TypeId}{sz n:Nat}{v:Value}{cs:List Value}{ob:List (Nat×Obj)}(h:Qp T sz v n cs ob)(hn:0<n):∃b cap rest,v = .slice (Option.some ⟨b,0,Option.none⟩) n cap/\ob=[(b,.cells (cs++rest).toArray T (0,0))]/\cs.length=n*sz/\cs.length+rest.length=cap*sz/\n<=cap/\cap<=maxLen:=by
 cases h with
 |nil=>omega
 |some h1 h2 h3 h4=>exact⟨_,_,_,rfl,rfl,h1,h2,h3,h4⟩
structure PmO(p q:List Xp) where
 i:Nat
 ts:List Xp
 le:i<=p.length
 hI:V3 ts (XL (Jy (p.take i)) (Jy q))
structure PmJ(l0:List Tm)(s:Tm)(q:List Xp) where
 j:Nat
 ts:List Xp
 le:j<=q.length
 hI:V3 ts (l0++X7 s (Jy (q.take j)))
structure PmK(n:Nat)(a b:List Int) where
 k:Nat
 L:List Int
 v:Value
 ob:List (Nat×Obj)
 le:k<=b.length
 hr:Qp 3 1 v n (L.map Qs) ob
 hL:L=YA (a.take k) (b.take k)++a.drop k
def Fs(h1:k<a.length)(h2:k<b.length):(YA (a.take k) (b.take k)++a.drop k).set k (Qc a k+Qc b k)=YA (a.take (k+1)) (b.take (k+1))++a.drop (k+1):=by
 have hl:(YA (a.take k) (b.take k)).length=k:=by unfold YA;rw[List.length_zipWith,List.length_take,List.length_take];omega
 have hs:YA (a.take (k+1)) (b.take (k+1))=YA (a.take k) (b.take k)++[Qc a k+Qc b k]:=by
  rw[XF h1,XF h2,YL h1,YL h2];unfold YA;rw[List.zipWith_append (by rw[List.length_take,List.length_take];omega)];rfl
 rw[hs,BX h1,List.set_append_right _ _ O,hl,Nat.sub_self];simp
def P4(h1:k<a.length)(h2:k<b.length):Qc (YA (a.take k) (b.take k)++a.drop k) k=Qc a k:=by
 have hl:(YA (a.take k) (b.take k)).length=k:=by unfold YA;rw[List.length_zipWith,List.length_take,List.length_take];omega
 have h3:k<(YA (a.take k) (b.take k)++a.drop k).length:=by rw[List.length_append,hl,List.length_drop];omega
 rw[YL h3,YL h1,J8 h3,J8 h1,List.getElem_append_right O];simp[hl]
def PC{p q:List Xp}(h:i<p.length):XL (Jy (p.take (i+1))) (Jy q)=XL (Jy (p.take i)) (Jy q)++X7 (el p i).t (Jy q):=by
 rw[YO h,W5];congr 1;simp[XL]
def xN{p q:List Xp}{j:Nat}(h:i<p.length):VR (XL (Jy (p.take i)) (Jy q)++X7 (el p i).t (Jy (q.take j)))<=VR (XL (Jy p) (Jy q)):=by
 have e1:Jy p=Jy (p.take (i+1))++Jy (p.drop (i+1)):=by unfold Jy;rw[<-List.map_append,List.take_append_drop]
 have e2:Jy q=Jy (q.take j)++Jy (q.drop j):=by unfold Jy;rw[<-List.map_append,List.take_append_drop]
 have h1:VR (XL (Jy p) (Jy q))=VR (XL (Jy (p.take (i+1))++Jy (p.drop (i+1))) (Jy q)):=by rw[<-e1]
 rw[W5,PC h,KE,KE]at h1;have h2:VR (X7 (el p i).t (Jy q))=VR (X7 (el p i).t (Jy (q.take j)++Jy (q.drop j))):=by rw[<-e2]
 rw[GW,KE]at h2;rw[KE];omega
def Fc(p q:List Tm):(XL p q).length=p.length*q.length:=by
 induction p with
 |nil=>simp[XL]
 |cons s p ih=>rw[Ie,List.length_append,ih,List.length_cons,Nat.add_mul];simp[X7];omega
def QAy{a b:Nat}(h:a<=10000)(k:b<=10000):a*b<=100000000:=Nat.mul_le_mul h k
theorem QD7{p q:BB}(hF:Fits F w)(hGl:JZ F)(hP:Jz F p.1 p.2 (Jy p.2))(hQ:Jz F q.1 q.2 (Jy q.2))(hw:(∀t∈p.2,t.t.2.length=N)/\∀t∈q.2,t.t.2.length=N)(hN:N<=1000)(hl:p.2.length<=10000/\q.2.length<=10000)
  (hpw:(∀t∈p.2,PW t.t.2)/\(∀t∈q.2,PW t.t.2)/\∀s∈p.2,∀t∈q.2,PW (YA s.t.2 t.t.2)) (hz1:VR (Jy p.2)<=20000000/\VR (Jy q.2)<=20000000) (hz:VR (XL (Jy p.2) (Jy q.2))<=40000000) :
  QQ prog 87 [p.1.v,q.1.v] w F (λ(c:BB)=>c.1.v) (λc F=>Jz F c.1 c.2 (J3 (XL (Jy p.2) (Jy q.2)))):=by
 have hpn:=hP.2.2.2.2;have hqn:=hQ.2.2.2.2;dsimp only[Sr.v];refine QQ.go (G:=λF=>JZ F/\Jz F p.1 p.2 (Jy p.2)/\Jz F q.1 q.2 (Jy q.2)) func87 hF ⟨hGl,hP,hQ⟩ ?_;refine QKt<|wR rfl<|QKt<|Hi tx λm=>wR rfl<|QG<|wS rfl<|QA (QW rfl ZI)<|QJj rfl<|QJi<|QO<|ZH (ι:=PmO p.2 q.2) [(1,_),(5,_),(14,_),(15,_)] (λi=>[(16,.int .i64 ((i.i:Nat):Int))]) (λi=>[(m,ZA tx (Gt i.ts))]) (λi F=>GI F i.ts) (λi=>p.2.length-i.i) (⟨0,[],Nat.zero_le _,V3.nil⟩) wW wT (hg:=λ_ _ _ h=>by cases h) λi=>?_
 have hi:=i.le;refine wA 6 I ?_;refine QL I (λhc=>?_) λhc=>?_
 ·have hlt:i.i<p.2.length:=wm<|QK8 hc
  have hta:=Ql hlt;have hna:=hw.1 _ hta;have hra:=(hP.2.1 _ hta).2.2.1;refine QLj 6 I<|QA (Qo (n:=p.1.n) i.i (λF h9=>(h9.1.2.1).1) rfl rfl ZI XQ O)<|QA (JG (n:=p.1.n) (vs:=[.int .i64 (el p.2 i.i).x.n.s,.slice (el p.2 i.i).x.n.q (el p.2 i.i).x.n.n (el p.2 i.i).x.n.cap,.int .i64 (el p.2 i.i).x.d.s,.slice (el p.2 i.i).x.d.q (el p.2 i.i).x.d.n (el p.2 i.i).x.d.cap,.slice (el p.2 i.i).r.q (el p.2 i.i).r.n (el p.2 i.i).r.cap]) ((i.i)*5) (λF h9=>(h9.1.2.1).1) O rfl XQ I λj v hv=>Q4 (f:=Vx) (l:=p.2) W8 O hv)<|Qe Kz λb7=>QS (vs:=[_,_,_,_,_]) I I I XQ I .here .h5 wX<|QLi 5 I<|QA (QW I ZI)<|QLi 4 I<|ZH (ι:=PmJ (XL (Jy (p.2.take i.i)) (Jy q.2)) (el p.2 i.i).t q.2) [(1,_),(5,_),(7,_),(14,_),(15,_),(16,_),(20,_),(21,_)] (λi2=>[(22,.int .i64 ((i2.j:Nat):Int))]) (λi2=>[(b7,.cells (Vx (el p.2 i.i)).toArray 160 (0,0)),(m,ZA tx (Gt i2.ts))]) (λi2 F=>GI F i2.ts) (λi2=>q.2.length-i2.j) (⟨0,i.ts,Nat.zero_le _,by simpa[Jy,X7]using i.hI⟩) we wT λi2=>?_
  have hj:=i2.le;refine wA 6 I ?_;refine QL I (λhc=>?_) λhc=>?_
  ·have hlt2:i2.j<q.2.length:=wm<|QK8 hc
   have htb:=Ql hlt2;have hnb:=hw.2 _ htb;have hrb:=(hQ.2.1 _ htb).2.2.1;have hzz:=xN (q:=q.2) (j:=i2.j) hlt;have hza:XH (el p.2 i.i).t.1<=VR (Jy p.2):=Mc (List.mem_map_of_mem hta);have hzb:XH (el q.2 i2.j).t.1<=VR (Jy q.2):=Mc (List.mem_map_of_mem htb);refine QLj 6 I<|QA (Qo (n:=q.1.n) (i2.j) (λF h9=>(h9.1.1.2.2).1) rfl rfl ZI XQ O)<|QA (JG (n:=q.1.n) (vs:=[.int .i64 (el q.2 (i2.j)).x.n.s,.slice (el q.2 (i2.j)).x.n.q (el q.2 (i2.j)).x.n.n (el q.2 (i2.j)).x.n.cap,.int .i64 (el q.2 (i2.j)).x.d.s,.slice (el q.2 (i2.j)).x.d.q (el q.2 (i2.j)).x.d.n (el q.2 (i2.j)).x.d.cap,.slice (el q.2 (i2.j)).r.q (el q.2 (i2.j)).r.n (el q.2 (i2.j)).r.cap]) ((i2.j)*5) (λF h9=>(h9.1.1.2.2).1) O rfl XQ I λj v hv=>Q4 (f:=Vx) (l:=q.2) W8 O hv)<|Qe Kz λb9=>QS (vs:=[_,_,_,_,_]) I I I XQ I .here .h5 wX<|QJi<|QKt<|QA (QH I K9 Q5)<|QA (Qf I Q5 .u1 (.skip (.skip (.skip (.skip .h1)))))<|Xj I (List.Perm.refl _) (Tp (r:=(el p.2 i.i).r) (l:=(el p.2 i.i).t.2) (λF h9=>(h9.1.1.2.1.2.1 _ hta).2) hra O) λc28=>JM _ (λ_ _ f h=>h.2) λh28=>QLi 6 I<|QA (QH I K9 Q5)<|QA (Qf I Q5 .here (.skip (.skip (.skip (.skip .h1)))))<|QA (QW I Qd)<|QLi 4 I<|ZH (ι:=PmK (el p.2 i.i).r.n (el p.2 i.i).t.2 (el q.2 i2.j).t.2) [(1,_),(5,_),(7,_),(9,_),(14,_),(15,_),(16,_),(20,_),(21,_),(22,_),(30,_),(31,_)] (λi3=>[(10,i3.v),(32,.int .i64 ((i3.k:Nat):Int))]) (λi3=>[(b9,.cells (Vx (el q.2 i2.j)).toArray 160 (0,0)),(b7,.cells (Vx (el p.2 i.i)).toArray 160 (0,0)),(m,ZA tx (Gt i2.ts))]++i3.ob) (λi3 F=>True) (λi3=>(el q.2 i2.j).t.2.length-i3.k) (⟨0,(el p.2 i.i).t.2,c28.1,c28.2,Nat.zero_le _,h28,by simp[YA]⟩) wk wU λi3=>?_
   have hk:=i3.le;refine wA 6 I ?_;refine QL I (λhc=>?_) λhc=>?_
   ·obtain⟨k,L,v,ob,hk0,hr,hL⟩:=i3;dsimp only at hk hc ⊢;have hlt3:k<(el q.2 i2.j).t.2.length:=wm<|QK8 hc
    have hka:k<(el p.2 i.i).t.2.length:=O;have hLn:L.length=(el p.2 i.i).t.2.length:=by rw[hL];unfold YA;simp;omega
    have hb1:=(hpw.1 _ hta).el hka;have hb2:=(hpw.2.1 _ htb).el hlt3;obtain⟨b,cap,rest,rfl,rfl,e1,e2,e3,e4⟩:=Qp.pos hr O;have hdL:Qc L k=Qc (el p.2 i.i).t.2 k:=by rw[hL];exact P4 hka hlt3
    refine QLj 7 I<|QA (Qo (n:=(el q.2 i2.j).r.n) k (λF h9=>(h9.1.1.1.1.2.2.2.1 _ htb).2.1) rfl rfl Qd QZ O)<|QA (Qg (n:=(el q.2 i2.j).r.n) (k*1) (λF h9=>(h9.1.1.1.1.2.2.2.1 _ htb).2.1) O rfl QZ (JH (o:=(el q.2 i2.j).t.2) O))<|QLi 7 I<|QA (Qj (i:=k) rfl rfl Qd QZ O)<|QA (Xm (c:=(L).map Qs++rest) (T':=3) rfl QZ .u3 (Xd (by first | omega | (simp only[List.length_set];omega))))<|QJj I<|QA (Qk I I O)<|QA (Qj (i:=k) rfl rfl Qd QZ O)<|QS (vs:=[_]) I I I QZ I .u3 (Z3 (by first | omega | (simp only[List.length_set];omega)) ((Qc (L) (k)+Qc (el q.2 i2.j).t.2 k))) wT<|QF<|Qa<|QC<|QB<|QA (Qk I I O)<|wB 2 I ?_
    exact Qb (⟨k+1,_,_,_,hlt3,Qp.some (by simpa using e1) (by simpa using e2) e3 e4,by rw[hL,P4 hka hlt3];exact Fs hka hlt3⟩) (by show(el q.2 i2.j).t.2.length-(k+1)<(el q.2 i2.j).t.2.length-k;omega) ⟨rfl,rfl,rfl,rfl,rfl,rfl,rfl,rfl,rfl,rfl,rfl,rfl,rfl,rfl,trivial⟩ QJ3 λF h=>⟨h.1,trivial⟩
   have hge3:i3.k=(el q.2 i2.j).t.2.length:=wm<|QK9 hc
   have hLe:i3.L=YA (el p.2 i.i).t.2 (el q.2 i2.j).t.2:=by
    have h1:=i3.hL;rw[hge3,List.take_length]at h1;rw[h1,List.take_of_length_le O,List.drop_of_length_le O,List.append_nil]
   have hLn:(YA (el p.2 i.i).t.2 (el q.2 i2.j).t.2).length=(el p.2 i.i).r.n:=by rw[VO O];exact hra
   refine Q7 ?_;refine wA 2 I<|QA (QH I WC JA)<|QA (wJ I JA .u1)<|QA (QH I WC JA)<|QA (wJ I JA .here)<|QJ I (λ_ _ f k=>HH f ((k.1.1.1.1.2.1.2.1 _ hta).1) ((k.1.1.1.1.2.2.2.1 _ htb).1) O O) λx50=>QJj I ?_
   obtain⟨r,hv,hrn,hrc,hfix⟩:=Qp.fix (w0:=w) (F0:=F) (bs1:=[(b9,.cells (Vx (el q.2 i2.j)).toArray 160 (0,0)),(b7,.cells (Vx (el p.2 i.i)).toArray 160 (0,0)),(m,ZA tx (Gt i2.ts))]) (G:=_) i3.hr;refine Vp hfix ?_;rw[hv];refine Xu (List.perm_middle (l₁:=[_,_]) (l₂:=[]))<|Xj I (List.Perm.refl _) (Ny (r:=r) (x:=x50) i2.hI (hpw.2.2 _ hta _ htb) (wm<|Zg (el p.2 i.i).t.1 (el q.2 i2.j).t.1) O λF h9=>⟨h9.1.1.1.1.1.1.1,h9.1.1.1.1.2,⟨h9.1.2.1,h9.1.2.2⟩,by rw[hrn,<-hLe];exact h9.2,by rw[hrn];exact hLn,by rw[hrn];exact hrc⟩) λn52=>JM _ (λ_ _ f h=>h.2.2) λh52=>Xu (bs':=[_,_,_]) (List.perm_middle (l₁:=[_,_]) (l₂:=[])).symm<|QF<|Qa<|QC<|QB<|QA (Qk I I O)<|wB 2 I ?_
   exact Qb (⟨i2.j+1,addN i2.ts n52,hlt2,by rw[YO hlt2,GW,<-List.append_assoc];exact i2.hI.add (hpw.2.2 _ hta _ htb) h52⟩) (hg:=λF h=>⟨h.1.1.1.1.1.1,h.2.1⟩)
  have hge2:i2.j=q.2.length:=wm<|QK9 hc
  refine Q7 ?_;refine QB<|QA (Qk I I O)<|wB 2 I ?_
  exact Qb (⟨i.i+1,i2.ts,hlt,by rw[PC hlt];have:=i2.hI;rw[hge2,List.take_length]at this;exact this⟩)
 have hge:i.i=p.2.length:=wm<|QK9 hc
 refine Q7 ?_;refine wA 3 I ?_;have hI:=i.hI;rw[hge,List.take_length]at hI;refine Xj I (List.Perm.refl _) (D9 hI (by have h1:=hI.ln;rw[Fc]at h1;simp only[Jy,List.length_map]at h1;have h2:=QAy hl.1 hl.2;omega) tE) (λc56=>wR I<|QT ?_);exact QM (c56) rfl (wO I) (rfl) tE
def yy:List Tm->Int
 |[]=>0
 |t::_=>t.2.sum
def Gb(l:List Tm):Bool:=l.any λt=>Xo t.1
def PS:List Bool->Int->Int
 |[],_=>-1
 |b::l,i=>if b then i else PS l (i+1)
def Af:∀(l:List Bool) (i:Int),0<=i->(decide (0<=PS l i)=l.any id)
 |[],i,_=>rfl
 |true::l,i,h=>by simp[PS,h]
 |false::l,i,h=>by simpa[PS]using Af l (i+1) O
structure LQ(bl:List Bool) where
 i:Nat
 le:i<=bl.length
 h:PS bl 0=PS (bl.drop i) i
def LQ.hit(s:LQ bl)(h:s.i<bl.length)(e:bl[s.i]=true):PS bl 0=s.i:=by
 rw[s.h,List.drop_eq_getElem_cons h,e];rfl
def LQ.QHl(s:LQ bl)(h:s.i<bl.length)(e:bl[s.i]=false):PS bl 0=PS (bl.drop (s.i+1)) ((s.i+1:Nat):Int):=by
 rw[s.h,List.drop_eq_getElem_cons h,e];rfl
def LQ.stop(s:LQ bl)(h:bl.length<=s.i):PS bl 0 = -1:=by
 rw[s.h,List.drop_of_length_le h];rfl
def LY(ts:List Xp):(Jy ts).length=ts.length:=by simp[Jy]
def LZ(h:i<ts.length)(hb:i<((Jy ts).map λt=>Xo t.1).length):((Jy ts).map λt=>Xo t.1)[i]=Xo (el ts i).t.1:=by
 simp[Jy,J8 h]
theorem vu{n:Nat}(hF:Fits F w)(hP:Jz F ⟨q,n,cap⟩ ts (Jy ts))(hp:∀t∈ts,PW t.t.2)(hl:ts.length<=1000000):QY prog 89 [.slice q n cap] w F (.int .i64 (yy (Jy ts))):=by
 have hln:ts.length=n:=hP.2.2.2.2;refine QQ.go (G:=λF=>Jz F ⟨q,n,cap⟩ ts (Jy ts)) func89 hF hP ?_;refine wA 9 I<|QA (QW I ZI)<|QLi 3 I ?_
 refine QL I (λhc=>?_) λhc=>?_
 ·have h0:ts=[]:=by have:=QK8 hc;exact List.length_eq_zero_iff.1 O
  refine wA 6 I ?_;exact QL3 I I (by rw[h0];rfl) tB
 have h0:0<ts.length:=wm<|QK9 hc
 have htm:=Ql h0;refine QLj 5 I<|QA (Qo (n:=n) (0) (λF hP=>(hP).1) rfl wN ZI XQ O)<|QA (QH I K9 Q5)<|QA (Qg (n:=n) ((0)*5+4) (λF hP=>(hP).1) O rfl Q5 (Q4 (f:=Vx) (l:=ts) W8 O rfl))<|QJ I (λ_ _ f k=>EG f (r:=(el ts 0).r) (k.2.1 _ htm).2 (hp _ htm)) λ_=>wR I<|QT ?_
 exact QL3 rfl rfl (congrArg (Value.int .i64) (by cases ts with | nil=>cases h0 | cons t l=>rfl)) tB
theorem CC{t:Xp}(hF:Fits F w)(hGl:JZ F)(hT:Fy F t)(hz:XH t.t.1<=100000000):QY prog 159 [CL t] w F (.bool (Xo t.t.1)):=by
 refine QQ.go (G:=λF=>JZ F/\Fy F t) func159 hF ⟨hGl,hT⟩ ?_;refine QKt<|Q8 I (vs:=[_,_,_,_,_]) I λb1=>QLi 5 I<|QA (QH I WC JA)<|QA (wJ I JA .here)<|QJ I (λ_ _ f k=>Sb f k.1 (k.2.1) (hz)) λ_=>wR I<|QT ?_
 exact QL3 I I (rfl) tB
theorem xT{n:Nat}(hF:Fits F w)(hP:Jz F ⟨q,n,cap⟩ ts (Jy ts))(hGl:JZ F)(hz:∀t∈ts,XH t.t.1<=100000000)(hl:ts.length<=1000000):QY prog 223 [.slice q n cap,.func (.func 159) #[] #[]] w F (.int .i64 (PS ((Jy ts).map λt=>Xo t.1) 0)):=by
 have hln:ts.length=n:=hP.2.2.2.2;have hbl:((Jy ts).map λt=>Xo t.1).length=ts.length:=by simp[Jy]
 refine QQ.go (G:=λF=>JZ F/\Jz F ⟨q,n,cap⟩ ts (Jy ts)) func223 hF ⟨hGl,hP⟩ ?_;refine wA 9 I<|QA (QW I ZI)<|QLi 4 I<|Jo (ι:=LQ ((Jy ts).map λt=>Xo t.1)) [(0,_),(1,_),(7,_)] (λi=>[(8,.int .i64 ((i.i:Nat):Int))]) (λi=>ts.length-i.i) (⟨0,Nat.zero_le _,rfl⟩) wV wT λi=>?_
 have hi:=i.le;refine wA 6 I ?_;refine QL I (λhc=>?_) λhc=>?_
 ·have hlt:i.i<ts.length:=wm<|QK8 hc
  have htm:=Ql hlt;refine QLj 15 I<|QA (Qo (n:=n) i.i (λF h9=>(h9.2).1) rfl rfl ZI XQ O)<|QA (JG (n:=n) (vs:=[.int .i64 (el ts i.i).x.n.s,.slice (el ts i.i).x.n.q (el ts i.i).x.n.n (el ts i.i).x.n.cap,.int .i64 (el ts i.i).x.d.s,.slice (el ts i.i).x.d.q (el ts i.i).x.d.n (el ts i.i).x.d.cap,.slice (el ts i.i).r.q (el ts i.i).r.n (el ts i.i).r.cap]) ((i.i)*5) (λF h9=>(h9.2).1) O rfl XQ I λj v hv=>Q4 (f:=Vx) (l:=ts) W8 O hv)<|GU (c1:=[]) (c2:=[]) I I (λ_ _ f k=>CC f k.1 (t:=el ts i.i) (k.2.2.1 _ htm) (hz _ htm)) λ_=>QF<|QC ?_
  refine QL I (λhc=>?_) λhc=>?_
  ·refine wA 6 I<|X6 ?_
   exact QL3 I I (congrArg (Value.int .i64) (i.hit O (by rw[LZ hlt];exact hc))) tB
  refine QK<|Qa<|QC<|QB<|QA (Qk I I O)<|wB 2 I ?_
  exact Qb (⟨i.i+1,O,i.QHl O (by rw[LZ hlt];exact hc)⟩)
 have hge:ts.length<=i.i:=wm<|QK9 hc
 refine Q7 ?_;refine wA 6 I ?_;exact QL3 I I (congrArg (Value.int .i64) (i.stop O)) tB
theorem U4{n:Nat}(hF:Fits F w)(hP:Jz F ⟨q,n,cap⟩ ts (Jy ts))(hGl:JZ F)(hz:∀t∈ts,XH t.t.1<=100000000)(hl:ts.length<=1000000):QY prog 158 [.slice q n cap,.func (.func 159) #[] #[]] w F (.bool (Gb (Jy ts))):=by
 refine QQ.go (G:=λF=>JZ F/\Jz F ⟨q,n,cap⟩ ts (Jy ts)) func158 hF ⟨hGl,hP⟩ ?_;refine wA 9 I<|QJ I (λ_ _ f k=>xT f (k.2) (k.1) (hz) (hl)) λ_=>QLi 5 I ?_
 exact QL3 I I (congrArg Value.bool (by rw[show Gb (Jy ts)=((Jy ts).map λt=>Xo t.1).any id by simp[Gb,List.any_map],<-Af _ 0 (Int.le_refl _)])) tB
theorem L0{n:Nat}(hF:Fits F w)(hP:Jz F ⟨q,n,cap⟩ ts (Jy ts))(hGl:JZ F)(hz:∀t∈ts,XH t.t.1<=100000000)(hl:ts.length<=1000000):QY prog 90 [.slice q n cap] w F (.bool (Gb (Jy ts))):=by
 refine QQ.go (G:=λF=>JZ F/\Jz F ⟨q,n,cap⟩ ts (Jy ts)) func90 hF ⟨hGl,hP⟩ ?_;refine wA 8 I<|QJ I (λ_ _ f k=>U4 f (k.2) (k.1) (hz) (hl)) λ_=>wR I<|QT ?_
 exact QL3 I I (rfl) tB
def TI(l:List Tm):Int:=Qz [if decide (yy l>12)=true then 4 else 0,if decide ((l.length:Int)>64)=true then 5 else 0,if Gb l=true then 4 else 0]
def qN(l:List Tm):Pt:=if TI l=0 then J2 l else[]
def Z4.nil(F:Gs):Z4 F ⟨none,0,0⟩ [] []:=⟨Qu.nil F none 2,(λ_ h=>by cases h),rfl,Nat.le_refl _,rfl⟩
theorem jx{n:Nat}(hF:Fits F w)(hP:Jz F ⟨q,n,cap⟩ ts (Jy ts))(hGl:JZ F)(hp:∀t∈ts,PW t.t.2)(hz:∀t∈ts,XH t.t.1<=100000000)(hl:ts.length<=1000000):
  QQ prog 50 [.slice q n cap] w F (λ(c:Y1)=>.tuple #[c.1.v,.int .i64 (TI (Jy ts))]) (λc F=>Z4 F c.1 c.2 (qN (Jy ts))):=by
 have hln:ts.length=n:=hP.2.2.2.2;have hlen:(Jy ts).length=n:=by rw[LY];exact hln
 have hre:TI (Jy ts)=Qz [if decide (yy (Jy ts)>12)=true then 4 else 0,if decide ((n:Int)>64)=true then 5 else 0,if Gb (Jy ts)=true then 4 else 0]:=by unfold TI;rw[hlen]
 refine QQ.go (G:=λF=>JZ F/\Jz F ⟨q,n,cap⟩ ts (Jy ts)) func50 hF ⟨hGl,hP⟩ ?_;refine wA 10 I<|QJ I (λ_ _ f k=>vu f (k.2) (hp) (hl)) λ_=>wB 1 I<|QJ I (λ_ _ f k=>Bf f ) λ_=>QJj I<|QA (QW I ZI)<|wB 1 I<|QJ I (λ_ _ f k=>Bf f ) λ_=>QJj I<|QJ I (λ_ _ f k=>L0 f (k.1.1.1.2) (k.1.1.1.1) (hz) (hl)) λ_=>QJ I (λ_ _ f k=>Bf f ) λ_=>Qw I (JR Va) Gv UJ I I λb16=>QJ I (λ_ _ f k=>Mw f (Qu.of (cs:=List.map Qs [if decide (yy (Jy ts)>12)=true then 4 else 0,if decide ((n:Int)>64)=true then 5 else 0,if Gb (Jy ts)=true then 4 else 0]) k.2 I) wv) λ_=>QLi 9 I ?_
 refine QL I (λhc=>?_) λhc=>?_
 ·have he:TI (Jy ts)≠0:=by rw[hre];exact bne_iff_ne.1 hc
  refine wA 8 I ?_;exact J7 ((⟨none,0,0⟩,[])) I (wP I I) (by rw[hre]) λF h9=>by unfold qN;rw[if_neg he];exact Z4.nil F
 have he:TI (Jy ts)=0:=by rw[hre];exact bne_eq_false_iff_eq.1 hc
 refine QLj 5 I<|QJ I (λ_ _ f k=>qk f k.1.1.1.1.1.1.1.1 (p:=(⟨q,n,cap⟩,ts)) k.1.1.1.1.1.1.1.2 hp hl hz) λc22=>QLi 5 I ?_
 exact J7 (c22) rfl (wP I I) (by rw[he]) λF h9=>by unfold qN;rw[if_pos he];exact h9.2
def V0(v:Int):Int:=if decide (v<0)=true\/decide (v>24)=true then 3 else 0
def Fi(v:Int):V0 v=0↔0<=v/\v<=24:=by unfold V0;simp only[decide_eq_true_eq];split<;>omega
def Ci{v:Int}(h:¬v<0):V0 v=if decide (v>24)=true then 3 else 0:=by unfold V0;simp[h]
def Wr(l:List Int):Int:=(l.map λk=>if 13<k then 13 else k).sum
def VW(f:List UInt8)(l:List Int)(v:Int):Int :=
 if(l.length:Int)≠v+1 then 2 else if l.any (λk=>decide (k<0))=true then 3 else Qz [if decide (Wr l>12)=true then 4 else 0,Q9 f]
def Cr(h:i<l.length):Wr (l.take (i+1))=Wr (l.take i)+(if 13<Qc l i then 13 else Qc l i):=by
 unfold Wr;rw[XF h,List.map_append,List.sum_append,YL h];simp
def Pv(l:List Int)(h:∀k∈l,0<=k):0<=Wr l/\Wr l<=13*l.length:=by
 induction l with
 |nil=>simp[Wr]
 |cons x l ih =>
  have h1:=ih λk hk=>h k (by simp[hk]);have h2:=h x w9;have e:Wr (x::l)=(if 13<x then 13 else x)+Wr l:=by unfold Wr;rw[List.map_cons,List.sum_cons]
  rw[e,List.length_cons];split<;>omega
structure QIM(l:List Int) where
 i:Nat
 le:i<=l.length
 nn:∀k∈l.take i,0<=k
def pL(h:i<l.length)(hn:Qc l i<0):l.any (λk=>decide (k<0))=true:=by
 rw[List.any_eq_true];exact⟨el l i,Ql h,by rw[<-YL h];exact decide_eq_true hn⟩
def QBX(h:∀k∈l,0<=k):¬l.any (λk=>decide (k<0))=true:=by
 rw[List.any_eq_true];rintro⟨k,hk,e⟩;have:=QK8 e;have:=h k hk;omega
theorem Ch{v:Int}(hF:Fits F w):QY prog 47 [.int .i64 v] w F (.int .i64 (V0 v)):=by
 refine QQ.go (G:=λF=>True) func47 hF trivial ?_;refine wA 10 I ?_;refine Qn (t:=5) rfl (λhb5=>?_) λhb5=>?_
 ·refine wB 3 I<|QJ I (λ_ _ f _=>Bf f ) λ_=>wR I<|QT ?_
  exact QL3 I I (congrArg (Value.int .i64) (by unfold V0;simp_all)) tB
 refine wB 5 I<|QJ I (λ_ _ f _=>Bf f ) λ_=>wR I<|QT ?_
 exact QL3 I I (congrArg (Value.int .i64) (Ci (QK9 hb5))) tB
theorem di{f:List UInt8}{n:Nat}{v:Int}(hF:Fits F w)(hGl:JZ F)(hR:JJ F ⟨q,n,cap⟩ l)(hf:f.length<=1000000)(hl:l.length<=1000000)(hv : -1000000<=v/\v<=1000000):QY prog 102 [.agg #[tx f,.slice q n cap],.int .i64 v] w F (.int .i64 (VW f l v)):=by
 have hln:l.length=n:=hR.2.1;refine QQ.go (G:=λF=>JZ F/\JJ F ⟨q,n,cap⟩ l) func102 hF ⟨hGl,hR⟩ ?_;refine QKt<|Q8 I (vs:=[_,_]) I λb2=>QLi 6 I<|QA (QH I Ka Q5)<|QA (Qf I Q5 .here (.skip .h1))<|QA (QW I Qd)<|QJj I<|QA (Qk I I O)<|QLi 3 I ?_
 refine QL I (λhc=>?_) λhc=>?_
 ·have hne:=bne_iff_ne.1 hc;refine wA 6 I ?_;exact QL3 I I (congrArg (Value.int .i64) (by unfold VW;rw[if_pos (by rw[hln];exact hne)])) tB
 have heq:=bne_eq_false_iff_eq.1 hc;refine QLj 10 I<|QA (QH I Ka Q5)<|QA (Qf I Q5 .here (.skip .h1))<|QA (QW I Qd)<|QLi 4 I<|Jo (ι:=QIM l) [(2,_),(15,_),(16,_)] (λi=>[(5,.int .i64 (Wr (l.take i.i))),(17,.int .i64 ((i.i:Nat):Int))]) (λi=>l.length-i.i) (⟨0,Nat.zero_le _,w9⟩) wV wU λi=>?_
 have hi:=i.le;have hb:=Pv _ i.nn;rw[List.length_take]at hb;refine wA 6 I ?_;refine QL I (λhc=>?_) λhc=>?_
 ·have hlt:i.i<l.length:=wm<|QK8 hc
  refine QLj 6 I<|QA (Qo (n:=n) i.i (λF h9=>(h9.2).1) rfl rfl Qd QZ O)<|QA (Qg (n:=n) ((i.i)*1) (λF h9=>(h9.2).1) O rfl QZ (JH (o:=l) O))<|QLi 10 I ?_
  refine QL I (λhc=>?_) λhc=>?_
  ·have hng:=QK8 hc;refine wA 5 I<|X6 ?_
   exact QL3 I I (congrArg (Value.int .i64) (by unfold VW;rw[if_neg (by rw[hln];exact λh=>h heq),if_pos (pL hlt hng)])) tB
  have hng:=QK9 hc;refine QLj 5 I<|QA (ub I I)<|QA (Qk I I O)<|wB 2 I<|Qa<|QC<|QB<|QA (Qk I I O)<|wB 2 I ?_
  exact Qb (⟨i.i+1,hlt,by intro k hk;rw[XF hlt]at hk;rcases List.mem_append.1 hk with hk | hk;exact i.nn k hk;rw[List.mem_singleton.1 hk,<-YL hlt];omega⟩) (hm:=⟨rfl,rfl,rfl,(congrArg (λz:Int=>some (Value.int .i64 z)) (Cr hlt).symm),rfl,trivial⟩)
 have hge:i.i=l.length:=wm<|QK9 hc
 refine Q7 ?_;refine QG<|JC QJ3 mixed wu ?_
 rw[hge,List.take_length];have hnn:=i.nn;rw[hge,List.take_length]at hnn;refine QI (QD I)<|QI (QR I I I)<|QV I (λ_ _ f k=>Bf f ) λ_=>QI (QH I GA JP)<|QI (Qf I JP .here .h1)<|QV I (λ_ _ f k=>Dl f k.1.1 (hf)) λ_=>?_
 refine Jp I (JR Va) Gv UJ I I (λb34=>?_) (λw h=>h.imp tF λF h=>h.1.1);refine QV I (λ_ _ g k=>Mw g (Qu.of (cs:=List.map Qs [if decide (Wr l>12)=true then 4 else 0,Q9 f]) k.2 I) wv) (λ_=>QI (QE I)<|Qv<|QC<|QT ?_);exact QL3 I I (congrArg (Value.int .i64) (by unfold VW;rw[if_neg (by rw[hln];exact λh=>h heq),if_neg (QBX hnn)])) tB
theorem BL{a b:Int}(h:Qz [a,b]=0):a=0/\b=0:=by
 unfold Qz at h;by_cases g:a=0
 ·rw[if_pos g]at h;unfold Qz at h;by_cases k:b=0
  ·exact⟨g,k⟩
  rw[if_neg k]at h;exact⟨g,h⟩
 rw[if_neg g]at h;exact absurd h g
def Wc(p:Pt)(v:Int)(i:Nat):Int :=
 let e:=Qz [VW (el p i).1 (el p i).2 v,if((el p i).1==[48])=true then 6 else 0]
 if e=0/\0<i/\0<=GR (el p (i-1)).2 (el p i).2 then 11 else e
def Y3(p:Pt)(v:Int):Int:=if decide ((p.length:Int)>64)=true then 5 else Qz ((List.range p.length).map (Wc p v))
def Pf{n:Nat}(h:i<n):el (List.range n) i=i:=by rw[J8 (by simpa using h)];simp
def Bz{ts:List VP}(h:i<ts.length):el (Y7 ts) i=((el ts i).f,(el ts i).k):=by rw[J8 (by simpa[Y7]using h),J8 h];simp[Y7]
def LL(h:∀k∈l,0<=k)(hc:Wr l<=12):∀k∈l,k<=12:=by
 induction l with
 |nil=>intro k hk;cases hk
 |cons x l ih =>
  have hl:∀k∈l,0<=k:=λk hk=>h k (by simp[hk]);have h1:=(Pv l hl).1;have h2:=h x w9;have e:Wr (x::l)=(if 13<x then 13 else x)+Wr l:=by unfold Wr;rw[List.map_cons,List.sum_cons]
  rw[e]at hc;intro k hk;rcases List.mem_cons.1 hk with rfl | hk
  ·split at hc<;>omega
  refine ih hl ?_ k hk;split at hc<;>omega
def DD{f:List UInt8}{v:Int}(h:VW f l v=0):(l.length:Int)=v+1/\(∀k∈l,0<=k/\k<=12)/\Wr l<=12/\Q9 f=0:=by
 unfold VW at h;split at h
 ·omega
 rename_i h1;split at h
 ·omega
 rename_i h2;have hn:∀k∈l,0<=k:=λk hk=>by
  rcases Int.lt_or_le k 0 with g | g
  ·exact absurd (List.any_eq_true.2 ⟨k,hk,decide_eq_true g⟩) h2
  exact g
 obtain⟨g1,g2⟩:=BL h;have hc:Wr l<=12:=by
  rcases Int.lt_or_le 12 (Wr l)with g | g
  ·rw[if_pos (decide_eq_true g)]at g1;omega
  exact g
 exact⟨O,λk hk=>⟨hn k hk,LL hn hc k hk⟩,hc,g2⟩
theorem W4{f:List UInt8}{v:Int}(h:VW f l v=0)(hv:v<=24):PW l:=by
 obtain⟨h1,h2,_⟩:=DD h;exact⟨λk hk=>wm<|h2 k hk,O⟩
theorem R7{p:Pt}{v:Int}(h:Wc p v i=0):VW (el p i).1 (el p i).2 v=0/\(el p i).1≠[48]/\(0<i->GR (el p (i-1)).2 (el p i).2<0):=by
 unfold Wc at h;dsimp only at h;by_cases g:Qz [VW (el p i).1 (el p i).2 v,if((el p i).1==[48])=true then 6 else 0]=0/\0<i/\0<=GR (el p (i-1)).2 (el p i).2
 ·rw[if_pos g]at h;omega
 rw[if_neg g]at h;obtain⟨h1,h2'⟩:=BL h;have h2:(el p i).1≠[48]:=by
  intro q;rw[if_pos (by rw[q];rfl)]at h2';omega
 refine⟨h1,h2,λhi=>?_⟩;rcases Int.lt_or_le (GR (el p (i-1)).2 (el p i).2) 0 with q | q
 ·exact q
 exact absurd ⟨h,hi,q⟩ g
structure yU(p:Pt)(v:Int)(n:Nat) where
 i:Nat
 le:i<=n
 z:∀j,j<i->Wc p v j=0
def yU.scan{p:Pt}{v:Int}{n:Nat}(s:yU p v n):Yj (List.range n) (Wc p v):=⟨s.i,by rw[List.length_range];exact s.le,by
 have key:∀i,i<=n->(∀j,j<i->Wc p v j=0)->Qz ((List.range n).map (Wc p v))=Qz (((List.range n).map (Wc p v)).drop i):=by
  intro i
  induction i with
  |zero=>intro _ _;rfl
  |succ i ih =>
   intro hi hz;rw[ih O (λj hj=>hz j O),WA tA (by simp;exact hz i O)]
 exact key s.i s.le s.z⟩
def Mf{p:Pt}{v x:Int}{n:Nat}(hn:p.length=n)(hp:¬(n:Int)>64)(s:yU p v n)(h:s.i<n)(hs:Wc p v s.i=x)(hx:x≠0):Y3 p v=x:=by
 unfold Y3;rw[hn,if_neg (by rw[decide_eq_true_eq];exact hp),s.scan.hit (by rw[List.length_range];exact h) (by rw[show s.scan.i=s.i from rfl,Pf h,hs];exact hx),show s.scan.i=s.i from rfl,Pf h,hs]
def jc{p:Pt}{v:Int}{n:Nat}(hn:p.length=n)(hp:¬(n:Int)>64)(s:yU p v n)(h:n<=s.i):Y3 p v=0:=by
 unfold Y3;rw[hn,if_neg (by rw[decide_eq_true_eq];exact hp),s.scan.stop (by rw[List.length_range];exact h)]
def step_eq{ps:List VP}{v E:Int}(h:i<ps.length)(hE:Qz [VW (el ps i).f (el ps i).k v,if((el ps i).f==[48])=true then 6 else 0]=E):Wc (Y7 ps) v i=if E=0/\0<i/\0<=GR (el ps (i-1)).k (el ps i).k then 11 else E:=by
 unfold Wc;rw[Bz h,Bz (show i-1<ps.length by omega)];dsimp only;rw[hE]
theorem zk{n:Nat}{ps:List VP}{v:Int}(hF:Fits F w)(hGl:JZ F)(hR:Qu F q n 2 (ps.flatMap Y2))(hP:Yk F ps)(hln:ps.length=n)(hf:∀t∈ps,t.f.length<=1000000/\t.k.length<=1000000)(hl:ps.length<=1000000)(hv:0<=v/\v<=24):QY prog 49 [.slice q n cap,.int .i64 v] w F (.int .i64 (Y3 (Y7 ps) v)):=by
 have hal:(Y7 ps).length=n:=by unfold Y7;rw[List.length_map];exact hln
 refine QQ.go (G:=λF=>JZ F/\Qu F q n 2 (ps.flatMap Y2)/\Yk F ps) func49 hF ⟨hGl,hR,hP⟩ ?_;refine wA 9 I<|QA (QW I Xk)<|QLi 3 I ?_
 refine QL I (λhc=>?_) λhc=>?_
 ·have hbig:=hc;refine wA 6 I ?_;exact QL3 I I (congrArg (Value.int .i64) (by unfold Y3;rw[hal,if_pos hbig])) tB
 have hbig:=QK9 hc;refine QLj 6 I<|QA (QW I Xk)<|QLi 4 I<|Jo (ι:=yU (Y7 ps) v n) [(0,_),(1,_),(11,_),(12,_)] (λi=>[(13,.int .i64 ((i.i:Nat):Int))]) (λi=>n-i.i) (⟨0,Nat.zero_le _,λj hj=>absurd hj (Nat.not_lt_zero _)⟩) wW wT λi=>?_
 have hi:=i.le;refine wA 6 I ?_;refine QL I (λhc=>?_) λhc=>?_
 ·have hlt:i.i<n:=wm<|QK8 hc
  have htm:el ps i.i∈ps:=Ql O;refine QLj 7 I<|QA (Qo (n:=n) i.i (λF h9=>h9.2.1) rfl rfl Xk Xq O)<|QA (JG (n:=n) (vs:=[tx (el ps i.i).f,.slice (el ps i.i).r.q (el ps i.i).r.n (el ps i.i).r.cap]) ((i.i)*2) (λF h9=>h9.2.1) O rfl Xq I λj v hv=>Q4 (f:=Y2) (l:=ps) Zh O hv)<|Qe Gp λb6=>QJk I<|QS (vs:=[_,_]) I I I Xq I .here .h2 wU<|QJi<|QG<|JC QJ3 mixed wu<|QI (wH I Xq .here)<|QI (QD I)<|QV I (λ_ _ g h=>di g (h.1) (f:=(el ps i.i).f) (l:=(el ps i.i).k) (h.2.2 _ htm) ((hf _ htm).1) ((hf _ htm).2) O) λ_=>QI (QH I GA JP)<|QI (Qf I JP .here .h1)<|QI (ZD I I)<|QV I (λ_ _ f k=>Bf f ) λ_=>?_
  refine Jp I (JR Va) Gv UJ I I (λb25=>?_) (λw h=>h.imp tF λF h=>h.1.1);refine QV I (λ_ _ g h=>Mw g (Qu.of (cs:=List.map Qs [VW (el ps i.i).f (el ps i.i).k v,if((el ps i.i).f==[48])=true then 6 else 0]) h.2 I) wv) (λ_=>QI (QE I)<|Qv<|QLk 3 I<|JC QJ3 mixed wu ?_);generalize hE:Qz [VW (el ps i.i).f (el ps i.i).k v,if((el ps i.i).f==[48])=true then 6 else 0]=E;have hst:=step_eq (v:=v) (show i.i<ps.length by omega) hE;refine QI (QD I)<|QI (QR I I I)<|QI (QD I) ?_
  refine Vq (t:=29) rfl (λhb29=>?_) λhb29=>?_
  ·refine JB I I<|QI (QD I)<|JB I I<|QI (QR I I I)<|QI (Qh I I I)<|QI (QD I) ?_
   refine Vq (t:=33) rfl (λhb33=>?_) λhb33=>?_
   ·refine JB I I<|QI (QD I)<|JB I I<|QI (QD I)<|JB I I<|QI (Jk I I O)<|JB I I ?_
    have hi0:0<i.i:=wm<|QK8 hb33
    refine QI (Qo (n:=n) ((i.i-1)) (λF h9=>h9.1.1.1.1.2.1) rfl wN Xk Xq O)<|JB I I<|QI (QH I Ka Q5)<|JB I I<|QI (Qg (n:=n) (((i.i-1))*2+1) (λF h9=>h9.1.1.1.1.2.1) O rfl Q5 (Q4 (f:=Y2) (l:=ps) Zh O rfl))<|JB I I<|QI (QH I Ka Q5)<|JB I I<|QI (Qf I Q5 .here (.skip .h1))<|JB I I ?_
    have hz0:=(R7 (i.z (i.i-1) O)).1;rw[Bz (show i.i-1<ps.length by omega)]at hz0;have hE0:E=0:=eq_of_beq hb29;obtain⟨hz1,_⟩:=BL (hE.trans hE0);have htm0:el ps (i.i-1)∈ps:=Ql O;refine QV I (λ_ _ f k=>PD f (ra:=(el ps (i.i-1)).r) (rb:=(el ps i.i).r) (k.1.1.1.1.2.2 _ htm0) (k.1.1.1.1.2.2 _ htm) (W4 hz0 hv.2) (W4 hz1 hv.2)) (λ_=>JB I I<|QI (QR I I I)<|QI (Qh I I I)<|Qv<|QC ?_);refine QL I (λhc=>?_) λhc=>?_
    ·have h44:=QK8 hc;refine QLj 10 I ?_;refine QL I (λhc=>?_) λhc=>?_
     ·refine wA 6 I<|X6 ?_
      exact QL3 I I (congrArg (Value.int .i64) (Mf hal hbig i hlt (by first | (rw[hst];exact if_pos ⟨eq_of_beq hb29,wm<|QK8 hb33,h44⟩) | (rw[hst];exact if_neg λh=>h44 h.2.2) | (rw[hst];exact if_neg λh=>wm<|QK9 hb33) | (rw[hst];exact if_neg λh=>by rw[h.1]at hb29;cases hb29)) (bne_iff_ne.1 hc))) tB
     refine QK<|Qa<|QC<|QB<|QA (Qk I I O)<|wB 2 I ?_
     exact Qb (⟨i.i+1,hlt,λj hj=>by
      rcases Nat.lt_or_ge j i.i with g | g
      ·exact i.z j g
      rw[show j=i.i from by omega];first | exact absurd hc wv | (rw[hst,if_neg (λh=>h44 h.2.2)];exact bne_eq_false_iff_eq.1 hc) | (rw[hst,if_neg (λh=>wm<|QK9 hb33)];exact bne_eq_false_iff_eq.1 hc) | (rw[hst,if_neg (λh=>by rw[h.1]at hb29;cases hb29)];exact bne_eq_false_iff_eq.1 hc)⟩)
    have h44:=QK9 hc;refine QLj 8 I ?_;refine QL I (λhc=>?_) λhc=>?_
    ·refine wA 6 I<|X6 ?_
     exact QL3 I I (congrArg (Value.int .i64) (Mf hal hbig i hlt (by first | (rw[hst];exact if_pos ⟨eq_of_beq hb29,wm<|QK8 hb33,h44⟩) | (rw[hst];exact if_neg λh=>h44 h.2.2) | (rw[hst];exact if_neg λh=>wm<|QK9 hb33) | (rw[hst];exact if_neg λh=>by rw[h.1]at hb29;cases hb29)) (bne_iff_ne.1 hc))) tB
    refine QK<|Qa<|QC<|QB<|QA (Qk I I O)<|wB 2 I ?_
    exact Qb (⟨i.i+1,hlt,λj hj=>by
     rcases Nat.lt_or_ge j i.i with g | g
     ·exact i.z j g
     rw[show j=i.i from by omega];first | exact absurd hc wv | (rw[hst,if_neg (λh=>h44 h.2.2)];exact bne_eq_false_iff_eq.1 hc) | (rw[hst,if_neg (λh=>wm<|QK9 hb33)];exact bne_eq_false_iff_eq.1 hc) | (rw[hst,if_neg (λh=>by rw[h.1]at hb29;cases hb29)];exact bne_eq_false_iff_eq.1 hc)⟩)
   refine JK I I I<|JK I I I<|JK I I I<|JK I I I<|JK I I I<|JK I I I<|JK I I I<|JK I I I<|JK I I I<|JK I I I<|QI (Qi I I I)<|Qv<|QC<|ZP I<|QLj 8 I ?_
   refine QL I (λhc=>?_) λhc=>?_
   ·refine wA 6 I<|X6 ?_
    exact QL3 I I (congrArg (Value.int .i64) (Mf hal hbig i hlt (by first | (rw[hst];exact if_pos ⟨eq_of_beq hb29,wm<|QK8 hb33,h44⟩) | (rw[hst];exact if_neg λh=>h44 h.2.2) | (rw[hst];exact if_neg λh=>wm<|QK9 hb33) | (rw[hst];exact if_neg λh=>by rw[h.1]at hb29;cases hb29)) (bne_iff_ne.1 hc))) tB
   refine QK<|Qa<|QC<|QB<|QA (Qk I I O)<|wB 2 I ?_
   exact Qb (⟨i.i+1,hlt,λj hj=>by
     rcases Nat.lt_or_ge j i.i with g | g
     ·exact i.z j g
     rw[show j=i.i from by omega];first | exact absurd hc wv | (rw[hst,if_neg (λh=>h44 h.2.2)];exact bne_eq_false_iff_eq.1 hc) | (rw[hst,if_neg (λh=>wm<|QK9 hb33)];exact bne_eq_false_iff_eq.1 hc) | (rw[hst,if_neg (λh=>by rw[h.1]at hb29;cases hb29)];exact bne_eq_false_iff_eq.1 hc)⟩)
  refine JK I I I<|JK I I I<|QI (Qi I I I)<|QI (QD I)<|JK I I I<|JK I I I<|JK I I I<|JK I I I<|JK I I I<|JK I I I<|JK I I I<|JK I I I<|JK I I I<|JK I I I<|QI (Qi I I I)<|Qv<|QC<|ZP I<|QLj 8 I ?_
  refine QL I (λhc=>?_) λhc=>?_
  ·refine wA 6 I<|X6 ?_
   exact QL3 I I (congrArg (Value.int .i64) (Mf hal hbig i hlt (by first | (rw[hst];exact if_pos ⟨eq_of_beq hb29,wm<|QK8 hb33,h44⟩) | (rw[hst];exact if_neg λh=>h44 h.2.2) | (rw[hst];exact if_neg λh=>wm<|QK9 hb33) | (rw[hst];exact if_neg λh=>by rw[h.1]at hb29;cases hb29)) (bne_iff_ne.1 hc))) tB
  refine QK<|Qa<|QC<|QB<|QA (Qk I I O)<|wB 2 I ?_
  exact Qb (⟨i.i+1,hlt,λj hj=>by
     rcases Nat.lt_or_ge j i.i with g | g
     ·exact i.z j g
     rw[show j=i.i from by omega];first | exact absurd hc wv | (rw[hst,if_neg (λh=>h44 h.2.2)];exact bne_eq_false_iff_eq.1 hc) | (rw[hst,if_neg (λh=>wm<|QK9 hb33)];exact bne_eq_false_iff_eq.1 hc) | (rw[hst,if_neg (λh=>by rw[h.1]at hb29;cases hb29)];exact bne_eq_false_iff_eq.1 hc)⟩)
 have hge:n<=i.i:=wm<|QK9 hc
 refine Q7 ?_;refine wA 6 I ?_;exact QL3 I I (congrArg (Value.int .i64) (jc hal hbig i hge)) tB
instance :Inhabited Y1:=⟨(⟨none,0,0⟩,[])⟩
section
variable[Dr][df:Df]{P:Program}{N:Nat}{m:Sl}{S:World->Prop}{ty:TypeId}
theorem EF{g:FuncId}{cap:Array Operand}(hv:D2 m cap.toList=some vs):Qt P N m S (.makeFunc (.func g) #[] cap) ty (.func (.func g) #[] vs.toArray):=λa w _ _ _ _ ha _=>by
 have:=ha.D2 hv;have e:cap.map a.eval=vs.toArray:=by rw[<-this];apply Array.ext';simp
 simp[execOp,Instr.makeFunc,e]
end
def c9(e:Y1):Prop:=e.2.length=e.1.n/\(∀t∈e.2,t.f.length<=1000000/\t.k.length<=1000000)/\e.2.length<=1000000
def WK(p:Pt):List Tm:=p.map λx=>(Jc x.1,x.2)
def UW(ts:List VP):ts.map y8=WK (Y7 ts):=by simp[WK,Y7,y8]
def SV:∀(p:List Tm) (t:Tm),(ZU p t).length<=p.length+1
 |[],t=>by
  unfold ZU;split<;>simp
 |x::p,t=>by
  have:=SV p t;unfold ZU
  repeat' split
  all_goals simp only[List.length_cons]
  all_goals omega
def AN:∀(l p:List Tm),(l.foldl ZU p).length<=p.length+l.length
 |[],p=>w9
 |t::l,p=>by
  have h1:=AN l (ZU p t);have h2:=SV p t;simp only[List.foldl_cons,List.length_cons];omega
def CT(l:List Tm):(J3 l).length<=l.length:=by have:=AN l [];simpa[J3]using this
def AF:∀(l p:List Tm) (x:Tm),x∈l.foldl ZU p->(∃y∈p,y.2=x.2)\/∃y∈l,y.2=x.2
 |[],p,x,h=>.inl ⟨x,h,rfl⟩
 |t::l,p,x,h=>by
  rw[List.foldl_cons]at h;rcases AF l _ x h with ⟨y,hy,e⟩ | ⟨y,hy,e⟩
  ·rcases SP hy with h2 | h2
   ·exact .inl ⟨y,h2,e⟩
   exact .inr ⟨t,w9,by rw[<-h2];exact e⟩
  exact .inr ⟨y,by simp[hy],e⟩
def Ng{l:List Tm}{x:Tm}(h:x∈J3 l):∃y∈l,y.2=x.2:=by
 rcases AF l [] x h with ⟨y,hy,_⟩ | h
 ·cases hy
 exact h
def QAU{l:List Tm}(h:∀t∈l,XH t.1<=k):VR l<=l.length*(k+1):=by
 induction l with
 |nil=>simp[VR]
 |cons x l ih =>
  have e:VR (x::l)=XH x.1+1+VR l:=by unfold VR;rw[List.map_cons,List.sum_cons]
  have h1:=ih λt ht=>h t (by simp[ht]);have h2:=h x w9;rw[e,List.length_cons,Nat.add_mul];omega
def Rk(h:GR a b<0):before a b=true:=by rw[Hu];exact decide_eq_true h
theorem Wl{α:Type}[Inhabited α]{R:α->α->Prop}(ht:∀a b c,R a b->R b c->R a c):∀(l:List α),(∀i,0<i->i<l.length->R (el l (i-1)) (el l i))->l.Pairwise R
 |[],_=>List.Pairwise.nil
 |x::l,h=>by
  have ih:=Wl ht l λi h0 hi=>by
   have:=h (i+1) O tA;have e1:el (x::l) (i+1)=el l i:=rfl;have e2:el (x::l) (i+1-1)=el l (i-1):=by
    obtain⟨j,rfl⟩:∃j,i=j+1:=⟨i-1,O⟩;rfl
   rw[e1,e2]at this;exact this
  refine List.pairwise_cons.2 ⟨?_,ih⟩;cases l with
  |nil=>intro y hy;cases hy
  |cons z l =>
   have hz:R x z:=h 1 O w9;intro y hy;rcases List.mem_cons.1 hy with rfl | hy
   ·exact hz
   exact ht _ _ _ hz ((List.pairwise_cons.1 ih).1 y hy)
structure Ge(p:Pt)(v:Int):Prop where
 len:p.length<=64
 term:∀x∈p,VW x.1 x.2 v=0
 can:Canon (WK p)
theorem jS{p:Pt}{v:Int}(h:Y3 p v=0):Ge p v:=by
 unfold Y3 at h;split at h
 ·omega
 rename_i hl;have hl':p.length<=64:=by rw[decide_eq_true_eq]at hl;omega
 have hz:∀i,i<p.length->Wc p v i=0:=by
  have key:∀(l:List Int),Qz l=0->∀x∈l,x=0:=by
   intro l
   induction l with
   |nil=>intro _ x hx;cases hx
   |cons a l ih =>
    intro h x hx;unfold Qz at h;by_cases g:a=0
    ·rw[if_pos g]at h;rcases List.mem_cons.1 hx with rfl | hx
     ·exact g
     exact ih h x hx
    rw[if_neg g]at h;exact absurd h g
  intro i hi;exact key _ h _ (List.mem_map.2 ⟨i,by simpa using hi,rfl⟩)
 have hs:=λi hi=>R7 (hz i hi);have hel:∀x∈p,∃i,i<p.length/\el p i=x:=λx hx=>by
  obtain⟨i,hi,e⟩:=List.getElem_of_mem hx;exact⟨i,hi,by rw[J8 hi];exact e⟩
 refine⟨hl',λx hx=>?_,⟨?_,λt ht=>?_⟩⟩
 ·obtain⟨i,hi,rfl⟩:=hel x hx;exact(hs i hi).1
 ·unfold WK;rw[List.pairwise_map];refine Wl (R:=λa b:List UInt8×List Int=>before a.2 b.2=true) (λa b c h k=>before_trans h k) p λi h0 hi=>?_;exact Rk ((hs i hi).2.2 h0)
 unfold WK at ht;obtain⟨x,hx,rfl⟩:=List.mem_map.1 ht;obtain⟨i,hi,rfl⟩:=hel x hx;have h1:=(DD (hs i hi).1).2.2.2;have h2:=(hs i hi).2.1;intro e;have h3:=(Xa h1).1;have e':Jc (el p i).1=0:=e;rw[e']at h3;exact h2 (h3.trans DP)
def Ge.sz{p:Pt}{v:Int}(h:Ge p v):∀t∈WK p,XH t.1<=2400:=λt ht=>by
 unfold WK at ht;obtain⟨x,hx,rfl⟩:=List.mem_map.1 ht;exact Xt (DD (h.term x hx)).2.2.2
def Ge.VR{p:Pt}{v:Int}(h:Ge p v):YteldggljlnakmaaGreatDoor.VR (WK p)<=160000:=by
 have h1:=QAU h.sz;have h2:(WK p).length<=64:=by unfold WK;rw[List.length_map];exact h.len
 have:=Nat.mul_le_mul_right 2401 h2;omega
def Ge.pw{p:Pt}{v:Int}(h:Ge p v)(hv:v<=24):∀t∈WK p,PW t.2:=λt ht=>by
 unfold WK at ht;obtain⟨x,hx,rfl⟩:=List.mem_map.1 ht;exact W4 (h.term x hx) hv
theorem vg{a:Y1}{v:Int}(hF:Fits F w)(hGl:JZ F)(hR:Qu F a.1.q a.1.n 2 (a.2.flatMap Y2))(hP:Yk F a.2)(ht:c9 a)(ho:Ge (Y7 a.2) v)(hv:0<=v/\v<=24):
  QQ prog 51 [a.1.v] w F (λ(c:BB)=>c.1.v) (λc F=>Jz F c.1 c.2 (WK (Y7 a.2))):=by
 have hs:=ho.VR;have h:=vr hF hGl (r:=a.1) (ps:=a.2) hR hP ht.1 (by have:=ho.len;simp[Y7]at this;omega) (λt htm=>?_) (by rw[UW];omega)
 ·rw[UW,G7 ho.can]at h;exact h
 have h1:=ho.term (t.f,t.k) (List.mem_map.2 ⟨t,htm,rfl⟩);exact⟨(DD h1).2.2.2,(ht.2.1 t htm).1,W4 h1 hv.2⟩
def Jz.len{s:Sr}{p:List Tm}(h:Jz F s ts p):ts.length=p.length:=by rw[<-h.2.2.1];simp[Jy]
def La{p:List Tm}{Q:Tm->Prop}(h:Jy ts=p)(hq:∀t∈p,Q t):∀t∈ts,Q t.t:=λt ht=>hq _ (h ▸ List.mem_map_of_mem ht)
def scE(c:List UInt8)(p:Pt)(v:Int)(l:List Tm):Int:=if Qz [V0 v,Q9 c]=0 then(if Y3 p v=0 then TI l else Y3 p v)else Qz [V0 v,Q9 c]
def scT(c:List UInt8)(p:Pt)(v:Int)(l:List Tm):Pt:=if Qz [V0 v,Q9 c]=0 then(if Y3 p v=0 then qN l else[])else[]
def PJ{a:Rat}{l:List Tm}{t:Tm}(h:t∈K4 a l):∃y∈l,t=(y.1*a,y.2):=by
 unfold K4 at h;split at h
 ·cases h
 obtain⟨y,hy,e⟩:=List.mem_map.1 h;exact⟨y,hy,e.symm⟩
def Iw(a:Rat)(l:List Tm):(K4 a l).length<=l.length:=by
 unfold K4;split<;>simp
theorem qG{a:Y1}{c:List UInt8}{v:Int}(hF:Fits F w)(hGl:JZ F)(hR:Qu F a.1.q a.1.n 2 (a.2.flatMap Y2))(hA:Yk F a.2)(ht:c9 a)(hcl:c.length<=1000000):
  QQ prog 13 [tx c,a.1.v,.int .i64 v] w F (λ(r:Y1)=>.tuple #[r.1.v,.int .i64 (scE c (Y7 a.2) v (K4 (Jc c) (WK (Y7 a.2))))]) (λr F=>Z4 F r.1 r.2 (scT c (Y7 a.2) v (K4 (Jc c) (WK (Y7 a.2))))):=by
 dsimp only[Sr.v];refine QQ.go (G:=λF=>JZ F/\Qu F a.1.q a.1.n 2 (a.2.flatMap Y2)/\Yk F a.2) func13 hF ⟨hGl,hR,hA⟩ ?_;refine wA 10 I<|QJ I (λ_ _ f k=>Ch f ) λ_=>QJj I<|QJ I (λ_ _ f k=>Dl f k.1.1 (hcl)) λ_=>Qw I (JR Va) Gv UJ I I λb14=>QJ I (λ_ _ f k=>Mw f (Qu.of (cs:=List.map Qs [V0 v,Q9 c]) k.2 I) wv) λ_=>QLi 9 I ?_
 refine QL I (λhc=>?_) λhc=>?_
 ·have hc0:=bne_iff_ne.1 hc;refine wA 8 I ?_;exact J7 ((⟨none,0,0⟩,[])) I (wP I I) (by unfold scE;rw[if_neg hc0]) λF h9=>by unfold scT;rw[if_neg hc0];exact Z4.nil F
 have hc0:=bne_eq_false_iff_eq.1 hc;obtain⟨hc1,hc2⟩:=BL hc0;have hv:=(Fi v).1 hc1;refine QLj 7 I<|QJ I (λ_ _ f k=>zk f (k.1.1.1.1.1) (k.1.1.1.1.2.1) (k.1.1.1.1.2.2) (ht.1) (ht.2.1) (ht.2.2) (hv)) λ_=>QLi 9 I ?_
 refine QL I (λhc=>?_) λhc=>?_
 ·have ht0:=bne_iff_ne.1 hc;refine wA 8 I ?_;exact J7 ((⟨none,0,0⟩,[])) I (wP I I) (by unfold scE;rw[if_pos hc0,if_neg ht0]) λF h9=>by unfold scT;rw[if_pos hc0,if_neg ht0];exact Z4.nil F
 have ht0:=bne_eq_false_iff_eq.1 hc;have oa:=jS ht0;have sa:=oa.VR;have hpa:∀t∈WK (Y7 a.2),PW t.2:=oa.pw hv.2;have la:(WK (Y7 a.2)).length<=64:=by unfold WK;rw[List.length_map];exact oa.len
 have hzc:=Xt hc2;have hll:=Iw (Jc c) (WK (Y7 a.2));refine QK<|QC<|wS rfl<|QJ rfl (λw F hF ⟨⟨⟨⟨⟨⟨hGl,hR,hA⟩,_⟩,_⟩,hs14⟩,_⟩,_⟩=>vg hF hGl (a:=a) hR hA ht oa hv) λc26=>JM _ (λ_ _ f h=>And.intro h.2.2.2.1 h.2.len) λh26p=>?_
 obtain⟨e26,l26⟩:=h26p;refine QJj I<|QJ I (λ_ _ f k=>WS f k.1.1.1.1.1.1.1 (Xa hc2).1 O) λx28=>QJ I (λ_ _ f k=>Ly f (p:=c26) (x:=x28) (by rw[e26];exact k.1.2) ⟨k.2.1,k.2.2⟩ O O (by rw[e26];omega)) λc29=>JM _ (λ_ _ f h=>And.intro h.2.2.2.1 h.2.len) λh29p=>?_
 obtain⟨e29,l29⟩:=h29p;rw[e26]at e29 l29;refine QJ I (λw F hF ⟨⟨⟨⟨⟨⟨⟨⟨⟨hGl,hR,hA⟩,_⟩,_⟩,hs14⟩,_⟩,_⟩,h26⟩,⟨h28,h28_⟩⟩,h29⟩=>jx hF (q:=c29.1.q) (n:=c29.1.n) (cap:=c29.1.cap) (ts:=c29.2) (by rw[e29];rw[e26]at h29;exact h29) hGl (La (Q:=λt=>PW t.2) e29 λt ht=>by obtain⟨y,hy,e⟩:=PJ ht;rw[e];exact hpa y hy) (La (Q:=λt=>XH t.1<=100000000) e29 λt ht=>by obtain⟨y,hy,e⟩:=PJ ht;rw[e];have h1:=Zg y.1 (Jc c);have h2:=oa.sz y hy;dsimp only;omega) O) (λc30=>?_);rw[e29];refine QLi 7 I ?_;exact J7 (c30) rfl (wP I I) (by unfold scE;rw[if_pos hc0,if_pos ht0];rfl) λF h9=>by unfold scT;rw[if_pos hc0,if_pos ht0];exact h9.2
def MR(v:Nat)(t:Tm):List Tm:=if 0<Qc t.2 v then[(t.1*((Qc t.2 v:Int):Rat),t.2.set v (Qc t.2 v-1))]else[]
def YM(v:Nat)(l:List Tm):List Tm:=l.flatMap (MR v)
structure QIY(v:Nat)(ps:List Xp) where
 i:Nat
 ts:List Xp
 le:i<=ps.length
 hI:V3 ts (YM v (Jy (ps.take i)))
def Sf{v:Nat}{ps:List Xp}(h:i<ps.length):YM v (Jy (ps.take (i+1)))=YM v (Jy (ps.take i))++MR v (el ps i).t:=by
 rw[YO h];unfold YM;rw[List.flatMap_append];simp
def pC(v:Nat)(ps:List Xp)(i:Nat):VR (YM v (Jy (ps.take i)))<=VR (YM v (Jy ps)):=by
 have e:Jy ps=Jy (ps.take i)++Jy (ps.drop i):=by unfold Jy;rw[<-List.map_append,List.take_append_drop]
 have h:VR (YM v (Jy ps))=VR (YM v (Jy (ps.take i)++Jy (ps.drop i))):=by rw[<-e]
 unfold YM at h ⊢;rw[List.flatMap_append,KE]at h;omega
def PW.set(h:PW l){v:Nat}(hk:0<Qc l v):PW (l.set v (Qc l v-1)):=by
 refine⟨λx hx=>?_,by rw[List.length_set];exact h.2⟩;rcases List.mem_or_eq_of_mem_set hx with hx | rfl
 ·exact h.1 x hx
 by_cases hv:v<l.length
 ·have:=h.el hv;omega
 have:Qc l v=0:=by simp[Qc,List.getD];intro h;exact absurd h hv
 omega
theorem S9{x:Int}(h:0<=x/\x<=1000000):sz x<=64:=Nat.le_trans (KA (b:=1000000) O) wv
def z8(v:Nat)(l:List Tm):(YM v l).length<=l.length:=by
 unfold YM
 induction l with
 |nil=>simp
 |cons t l ih =>
  rw[List.flatMap_cons,List.length_append,List.length_cons];have:(MR v t).length<=1:=by unfold MR;split<;>simp
  omega
theorem QEF{p:BB}{v:Nat}(hF:Fits F w)(hGl:JZ F)(hP:Jz F p.1 p.2 (Jy p.2))(hp:∀t∈p.2,PW t.t.2/\v<t.t.2.length)(hl:p.2.length<=100000)(hzt:∀t∈p.2,XH t.t.1<=20000000)(hz:VR (YM v (Jy p.2))<=40000000):
  QQ prog 155 [p.1.v,.int .i64 (v:Nat)] w F (λ(c:BB)=>c.1.v) (λc F=>Jz F c.1 c.2 (J3 (YM v (Jy p.2)))):=by
 have hpn:=hP.2.2.2.2;dsimp only[Sr.v];refine QQ.go (G:=λF=>JZ F/\Jz F p.1 p.2 (Jy p.2)) func155 hF ⟨hGl,hP⟩ ?_;refine wA 7 I ?_;refine Hi tx (λm=>?_);refine QLi 7 I<|QA (QW I ZI)<|QLi 4 I ?_
 refine ZH (ι:=QIY v p.2) [(1,_),(5,_),(11,_),(12,_)] (λi=>[(13,.int .i64 ((i.i:Nat):Int))]) (λi=>[(m,ZA tx (Gt i.ts))]) (λi F=>GI F i.ts) (λi=>p.2.length-i.i) (⟨0,[],Nat.zero_le _,V3.nil⟩) wW wT (hg:=λ_ _ _ h=>by cases h) (λi=>?_);have hi:=i.le;refine wA 6 I ?_;refine QL I (λhc=>?_) λhc=>?_
 ·have hlt:i.i<p.2.length:=wm<|QK8 hc
  have htm:=Ql hlt;have hp1:=hp _ htm;have hra:=(hP.2.1 _ htm).2.2.1;have hdl:=pC v p.2 i.i;have hzz:=hzt _ htm;have hb1:=hp1.1.el hp1.2;have hl2:=hp1.1.2;refine QLj 6 I<|QA (Qo (n:=p.1.n) i.i (λF h9=>(h9.1.2).1) rfl rfl ZI XQ O)<|QA (JG (n:=p.1.n) (vs:=[.int .i64 (el p.2 i.i).x.n.s,.slice (el p.2 i.i).x.n.q (el p.2 i.i).x.n.n (el p.2 i.i).x.n.cap,.int .i64 (el p.2 i.i).x.d.s,.slice (el p.2 i.i).x.d.q (el p.2 i.i).x.d.n (el p.2 i.i).x.d.cap,.slice (el p.2 i.i).r.q (el p.2 i.i).r.n (el p.2 i.i).r.cap]) ((i.i)*5) (λF h9=>(h9.1.2).1) O rfl XQ I λj v hv=>Q4 (f:=Vx) (l:=p.2) W8 O hv) ?_
  refine Qe Kz (λb7=>?_);refine QS (vs:=[_,_,_,_,_]) I I I XQ I .here .h5 wX<|QJi<|QKt<|QA (QH I K9 Q5)<|QA (Qf I Q5 .here (.skip (.skip (.skip (.skip .h1)))))<|QJj I<|QA (Qo (n:=(el p.2 i.i).r.n) (v) (λF h9=>((h9.1.2.2.1 _ htm).2).1) rfl rfl Qd QZ O)<|QA (Qg (n:=(el p.2 i.i).r.n) ((v)*1) (λF h9=>((h9.1.2.2.1 _ htm).2).1) O rfl QZ (JH (o:=(el p.2 i.i).t.2) O))<|QLi 9 I ?_
  refine QL I (λhc=>?_) λhc=>?_
  ·have hkp:=QK8 hc;refine QKt<|QA (QH I K9 Q5)<|QA (Qf I Q5 .here (.skip (.skip (.skip (.skip .h1))))) ?_
   refine Xj I (List.Perm.refl _) (Tp (r:=(el p.2 i.i).r) (l:=(el p.2 i.i).t.2) (λF h9=>(h9.1.2.2.1 _ htm).2) hra O) (λc26=>?_);refine JM _ (λ_ _ f h=>h.2) (λh26=>?_);obtain⟨v26,ob26⟩:=c26;dsimp only at h26 ⊢;obtain⟨bb,cap,rest,rfl,rfl,e1,e2,e3,e4⟩:=Qp.pos h26 O;refine QLi 7 I<|QA (Qj (i:=v) rfl rfl Qd QZ O)<|QA (Xm (c:=((el p.2 i.i).t.2).map Qs++rest) (T':=3) rfl QZ .u2 (Xd (by first | omega | (simp only[List.length_set];omega))))<|QA (Jk I I O)<|QA (Qj (i:=v) rfl rfl Qd QZ O)<|QS (vs:=[_]) I I I QZ I .u2 (Z3 (by first | omega | (simp only[List.length_set];omega)) ((Qc ((el p.2 i.i).t.2) (v)-1))) wT<|QF<|QC ?_
   obtain⟨r,hv,hrn,hrc,hfix⟩:=Qp.fix (w0:=w) (F0:=F) (bs1:=[(b7,.cells (Vx (el p.2 i.i)).toArray 160 (0,0)),(m,ZA tx (Gt i.ts))]) (G:=_) (Qp.some (T:=3) (sz:=1) (b:=bb) (n:=(el p.2 i.i).r.n) (cap:=cap) (l:=((el p.2 i.i).t.2.set v (Qc (el p.2 i.i).t.2 v-1)).map Qs) (rest:=rest) (by simpa using e1) (by simpa using e2) e3 e4);refine Hh hfix ?_;rw[hv];refine JC (.cons_cons _ (.cons _ .slnil)) mixed wu<|QI (QD I)<|QI (QH I WC JA)<|QI (wJ I JA .here)<|QI (QD I) ?_
   refine QV I (λ_ _ f k=>f_g f O O) (λx37=>?_);refine QV I (λw F hF ⟨⟨⟨⟨⟨hGl,hP⟩,hT⟩,_⟩,hrow⟩,⟨h37,h37_⟩⟩=>HH hF ((hP.2.1 _ htm).1) ⟨by assumption,by assumption⟩ O (by have h2:=RL (Qc (el p.2 i.i).t.2 v);have h3:sz (Qc (el p.2 i.i).t.2 v)<=64:=S9 hb1;omega)) (λx38=>?_);refine QI (QD I) ?_;refine Wt I (List.Perm.swap _ _ _) (Ny (r:=r) (x:=x38) i.hI (hp1.1.set hkp) (by have h1:=Zg (el p.2 i.i).t.1 ((Qc (el p.2 i.i).t.2 v:Int):Rat);have h2:=RL (Qc (el p.2 i.i).t.2 v);have h3:sz (Qc (el p.2 i.i).t.2 v)<=64:=S9 hb1;omega) O λF h9=>⟨h9.1.1.1.1.1.1,h9.1.1.1.1.2,⟨h9.2.1,h9.2.2⟩,by rw[hrn];exact h9.1.1.2,by rw[hrn,List.length_set];exact hra,by rw[hrn];exact hrc⟩) (λn w h=>St.imp h (.cons _ QJ3) λF h=>h.1.1.1) (λn40=>?_);refine WI _ (λ_ _ f h=>h.2.2) (λh40=>?_);have hI2:V3 (addN i.ts n40) (YM v (Jy (p.2.take (i.i+1)))):=by
    rw[Sf hlt,show MR v (el p.2 i.i).t=[((el p.2 i.i).t.1*((Qc (el p.2 i.i).t.2 v:Int):Rat),(el p.2 i.i).t.2.set v (Qc (el p.2 i.i).t.2 v-1))]from if_pos hkp];exact i.hI.add (hp1.1.set hkp) h40
   refine Qv<|Qa<|QC<|QB<|QA (Qk I I O)<|wB 2 I ?_
   exact Qb (⟨i.i+1,addN i.ts n40,hlt,hI2⟩) (hg:=λF h=>⟨h.1.1.1.1.1.1,h.2.1⟩)
  have hkp:=QK9 hc;refine QK<|Qa<|QC<|QB<|QA (Qk I I O)<|wB 2 I ?_
  exact Qb (⟨i.i+1,i.ts,hlt,by rw[Sf hlt,show MR v (el p.2 i.i).t=[]from if_neg hkp,List.append_nil];exact i.hI⟩)
 have hge:i.i=p.2.length:=wm<|QK9 hc
 refine Q7 ?_;refine wA 3 I ?_;have hI:=i.hI;rw[hge,List.take_length]at hI;refine Xj I (List.Perm.refl _) (D9 hI (by have h1:=hI.ln;have h2:=z8 v (Jy p.2);rw[LY]at h2;omega) tE) (λc43=>?_);refine wR I<|QT ?_
 exact QM (c43) rfl (wO I) (rfl) tE
def Fb{a z v r:List Value}(h:z.length=v.length):KC (a++(z++r)) a.length v (a++(v++r)):=by
 have:=KC.mk' a.length (a++(z++r)) v (by simp only[List.length_append];omega);rw[List.take_left,List.drop_append,List.drop_of_length_le O,List.nil_append,Nat.add_sub_cancel_left,List.drop_append,List.drop_of_length_le O,List.nil_append,<-h,Nat.sub_self,List.drop_zero,List.append_assoc]at this;exact this
def BA(F:Gs)(xs:List (Fr×Rat)):Prop:=∀p∈xs,Jl F p.1 p.2
def BA.le{F':Gs}(h:BA F xs)(k:Gs.le F F'):BA F' xs:=λp hp=>(h p hp).le k
instance{xs:List (Fr×Rat)}: Up (λF=>BA F xs):=⟨λk h=>BA.le h k⟩
def H7(xs:List (Fr×Rat)):List Value:=xs.flatMap λp=>S2 p.1
def OM(xs:List (Fr×Rat)):(H7 xs).length=xs.length*4:=by
 unfold H7
 induction xs with
 |nil=>rfl
 |cons x xs ih=>rw[List.flatMap_cons,List.length_append,ih,List.length_cons,Nat.add_mul];simp[S2];omega
instance :Inhabited Fr:=⟨⟨⟨0,none,0,0⟩,⟨1,none,0,0⟩⟩⟩
instance :Inhabited (Fr×Rat):=⟨(default,0)⟩
structure QBd(a b:List Int) where
 i:Nat
 le:i<=a.length
 h:a.take i=b.take i
structure QBn(a b:List Int) where
 i:Nat
 le:i<=a.length
 h:Zr a b=Zr (a.drop i) (b.drop i)
def QBd.next(s:QBd a b)(h1:s.i<a.length)(h2:s.i<b.length)(e:Qc a s.i=Qc b s.i):a.take (s.i+1)=b.take (s.i+1):=by
 rw[XF h1,XF h2,s.h,<-YL h1,<-YL h2,e]
def QBn.step(s:QBn a b)(h1:s.i<a.length)(h2:s.i<b.length):Zr a b=(decide (Qc b s.i<Qc a s.i)||(decide (Qc a s.i=Qc b s.i)&&Zr (a.drop (s.i+1)) (b.drop (s.i+1)))):=by
 rw[s.h,XC h1,XC h2];rfl
theorem RN{q2:Option Addr}{n c n2 c2:Nat}(hF:Fits F w)(hA:JJ F ⟨q,n,c⟩ a)(hB:JJ F ⟨q2,n2,c2⟩ b)(la:a.length<=1000000):QY prog 53 [.slice q n c,.slice q2 n2 c2] w F (.bool (decide (a=b))):=by
 have na:=hA.2.1;have nb:=hB.2.1;dsimp only at na nb;refine QQ.go (G:=λF=>JJ F ⟨q,n,c⟩ a/\JJ F ⟨q2,n2,c2⟩ b) func53 hF ⟨hA,hB⟩ ?_;refine wA 9 I<|QA (QW I Qd)<|QJj I<|QA (QW I Qd)<|QLi 3 I ?_
 refine QL I (λhc=>?_) λhc=>?_
 ·have hne:=bne_iff_ne.1 hc;refine wA 6 I ?_;exact QL3 I I (congrArg Value.bool (decide_eq_false λe=>hne (by rw[<-na,<-nb,e]))) tB
 have hne:=bne_eq_false_iff_eq.1 hc;refine QLj 9 I<|Jo (ι:=QBd a b) [(0,_),(1,_)] (λi=>[(5,.int .i64 ((i.i:Nat):Int))]) (λi=>a.length-i.i) (⟨0,Nat.zero_le _,rfl⟩) wU wT λi=>?_
 have hi:=i.le;refine wA 5 I<|QA (QW I Qd)<|QLi 3 I ?_
 refine QL I (λhc=>?_) λhc=>?_
 ·have hlt:i.i<a.length:=wm<|QK8 hc
  refine QLj 5 I<|JC QJ3 mixed wu<|QI (QD I)<|QI (QD I)<|QI (Qo (n:=n) i.i (λF h9=>(h9.1).1) rfl rfl Qd QZ O)<|QI (Qg (n:=n) ((i.i)*1) (λF h9=>(h9.1).1) O rfl QZ (JH (o:=a) O))<|QI (QD I)<|QI (QD I)<|QI (Qo (n:=n2) i.i (λF h9=>(h9.2).1) rfl rfl Qd QZ O)<|QI (Qg (n:=n2) ((i.i)*1) (λF h9=>(h9.2).1) O rfl QZ (JH (o:=b) O))<|QI (QR I I I)<|Qv<|QC ?_
  refine QL I (λhc=>?_) λhc=>?_
  ·have he:=bne_iff_ne.1 hc;refine wA 5 I<|X6 ?_
   exact QL3 I I (congrArg Value.bool (decide_eq_false λe=>he (congrArg (λz=>Qc z i.i) e))) tB
  have he:=bne_eq_false_iff_eq.1 hc;refine QK<|Qa<|QLk 3 I<|QA (Qk I I O)<|wB 2 I ?_
  exact Qb (⟨i.i+1,hlt,i.next hlt O he⟩)
 have hge:i.i=a.length:=wm<|QK9 hc
 refine Q7 ?_;refine wA 6 I ?_;exact QL3 I I (congrArg Value.bool (decide_eq_true (by have h:=i.h;rw[hge,List.take_length,List.take_of_length_le O]at h;exact h))) tB
theorem GY{r:Sr}(hF:Fits F w)(hR:JJ F r l)(hp:PW l):QY prog 181 [r.v] w F (.int .i64 l.sum):=by
 obtain⟨q,n,c⟩:=r;have hln:=hR.2.1;dsimp only[Sr.v]at hln ⊢;have hl1:=hp.2;refine QQ.go (G:=λF=>JJ F ⟨q,n,c⟩ l) func181 hF hR ?_;refine wA 17 I<|Jo (ι:={i:Nat // i<=l.length}) [(0,_)] (λi=>[(3,.int .i64 ((l.take i.1).sum)),(4,.int .i64 ((i.1:Nat):Int))]) (λi=>l.length-i.1) (⟨0,Nat.zero_le _⟩) wT wU λi=>?_
 have hi:=i.2;have hs:=hp.sum i.1 hi;refine wA 5 I<|QA (QW I Qd)<|QLi 3 I ?_
 refine QL I (λhc=>?_) λhc=>?_
 ·have hlt:i.1<l.length:=wm<|QK8 hc
  have he:=hp.el hlt;refine QLj 8 I<|QA (Qo (n:=n) (i.1) (λF hR=>(hR).1) rfl rfl Qd QZ O)<|QA (Qg (n:=n) ((i.1)*1) (λF hR=>(hR).1) O rfl QZ (JH (o:=l) O))<|QA (Qk I I O)<|wB 2 I<|Qa<|QLk 3 I<|QA (Qk I I O)<|wB 2 I ?_
  exact Qb (⟨i.1+1,hlt⟩) (hm:=⟨rfl,(congrArg (λz:Int=>some (Value.int .i64 z)) (Nx hlt).symm),rfl,trivial⟩)
 have hge:i.1=l.length:=wm<|QK9 hc
 refine Q7 ?_;refine wA 7 I ?_;exact QL3 I I (congrArg (Value.int .i64) (by rw[List.take_of_length_le O])) tB
theorem kN{q2:Option Addr}{n c n2 c2:Nat}(hF:Fits F w)(hA:JJ F ⟨q,n,c⟩ a)(hB:JJ F ⟨q2,n2,c2⟩ b)(pa:PW a)(pb:PW b)(hl:a.length=b.length):QY prog 241 [.slice q n c,.slice q2 n2 c2] w F (.bool (before a b)):=by
 have na:=hA.2.1;have nb:=hB.2.1;dsimp only at na nb;have la:=pa.2;refine QQ.go (G:=λF=>JJ F ⟨q,n,c⟩ a/\JJ F ⟨q2,n2,c2⟩ b) func241 hF ⟨hA,hB⟩ ?_;refine wA 9 I<|QJ I (λ_ _ f k=>GY f (r:=⟨q,n,c⟩) k.1 (pa)) λ_=>QJj I<|QJ I (λ_ _ f k=>GY f (r:=⟨q2,n2,c2⟩) k.1.2 (pb)) λ_=>QLi 3 I ?_
 refine QL I (λhc=>?_) λhc=>?_
 ·have hne:=bne_iff_ne.1 hc;refine wS I<|QJ I (λ_ _ f k=>GY f (r:=⟨q,n,c⟩) k.1.1.1 (pa)) λ_=>QJj I<|QJ I (λ_ _ f k=>GY f (r:=⟨q2,n2,c2⟩) k.1.1.1.2 (pb)) λ_=>QLi 5 I ?_
  exact QL3 I I (congrArg Value.bool (by unfold before;rw[decide_eq_false hne,Bool.false_and,Bool.or_false])) tB
 have hne:=bne_eq_false_iff_eq.1 hc;refine QLj 9 I<|Jo (ι:=QBn a b) [(0,_),(1,_)] (λi=>[(5,.int .i64 ((i.i:Nat):Int))]) (λi=>a.length-i.i) (⟨0,Nat.zero_le _,rfl⟩) wU wT λi=>?_
 have hi:=i.le;refine wA 5 I<|QA (QW I Qd)<|QLi 3 I ?_
 refine QL I (λhc=>?_) λhc=>?_
 ·have hlt:i.i<a.length:=wm<|QK8 hc
  refine QLj 5 I<|JC QJ3 mixed wu<|QI (QD I)<|QI (QD I)<|QI (Qo (n:=n) i.i (λF h9=>(h9.1.1.1).1) rfl rfl Qd QZ O)<|QI (Qg (n:=n) ((i.i)*1) (λF h9=>(h9.1.1.1).1) O rfl QZ (JH (o:=a) O))<|QI (QD I)<|QI (QD I)<|QI (Qo (n:=n2) i.i (λF h9=>(h9.1.1.2).1) rfl rfl Qd QZ O)<|QI (Qg (n:=n2) ((i.i)*1) (λF h9=>(h9.1.1.2).1) O rfl QZ (JH (o:=b) O))<|QI (QR I I I)<|Qv<|QC ?_
  refine QL I (λhc=>?_) λhc=>?_
  ·have he:=bne_iff_ne.1 hc;refine QG<|JC QJ3 mixed wu<|QI (QD I)<|QI (QD I)<|QI (Qo (n:=n) i.i (λF h9=>(h9.1.1.1).1) rfl rfl Qd QZ O)<|QI (Qg (n:=n) ((i.i)*1) (λF h9=>(h9.1.1.1).1) O rfl QZ (JH (o:=a) O))<|QI (QD I)<|QI (QD I)<|QI (Qo (n:=n2) i.i (λF h9=>(h9.1.1.2).1) rfl rfl Qd QZ O)<|QI (Qg (n:=n2) ((i.i)*1) (λF h9=>(h9.1.1.2).1) O rfl QZ (JH (o:=b) O))<|QI (QR I I I)<|QI (QE I)<|Qv<|QC<|X6 ?_
   exact QL3 I I (congrArg Value.bool (by unfold before;rw[i.step hlt O,decide_eq_false he,hne];simp)) tB
  have he:=bne_eq_false_iff_eq.1 hc;refine QK<|Qa<|QLk 3 I<|QA (Qk I I O)<|wB 2 I ?_
  exact Qb (⟨i.i+1,hlt,by rw[i.step hlt O,he];simp⟩)
 have hge:i.i=a.length:=wm<|QK9 hc
 refine Q7 ?_;refine wA 6 I ?_;exact QL3 I I (congrArg Value.bool (by unfold before;rw[i.h,hge,List.drop_of_length_le (Nat.le_refl _),hne];simp[Zr])) tB
structure QBb(a b:List VP) where
 i:Nat
 le:i<=a.length
 h:(Y7 a).take i=(Y7 b).take i
def GF(a:List VP):(Y7 a).length=a.length:=by simp[Y7]
def QBb.next{a b:List VP}(s:QBb a b)(h1:s.i<a.length)(h2:s.i<b.length)(e1:(el a s.i).f=(el b s.i).f)(e2:(el a s.i).k=(el b s.i).k):(Y7 a).take (s.i+1)=(Y7 b).take (s.i+1):=by
 rw[XF (by rw[GF];exact h1),XF (by rw[GF];exact h2),s.h,Bz h1,Bz h2,e1,e2]
def TE{a b:List VP}(h1:i<a.length)(h2:i<b.length)(h:Y7 a=Y7 b):(el a i).f=(el b i).f/\(el a i).k=(el b i).k:=by
 have e1:=Bz h1;have e2:=Bz h2;rw[h,e2]at e1;have:=Prod.mk.inj e1;exact⟨this.1.symm,this.2.symm⟩
theorem Uq{q2:Option Addr}{n n2 cap2:Nat}{a b:List VP}(hF:Fits F w)(hR:Qu F q n 2 (a.flatMap Y2))(hP:Yk F a)(hR2:Qu F q2 n2 2 (b.flatMap Y2))(hP2:Yk F b)(hln:a.length=n)(hln2:b.length=n2)(hf:∀t∈a,t.k.length<=1000000)(hl:a.length<=1000000):QY prog 14 [.slice q n cap,.slice q2 n2 cap2] w F (.bool (decide (Y7 a=Y7 b))):=by
 refine QQ.go (G:=λF=>Qu F q n 2 (a.flatMap Y2)/\Yk F a/\Qu F q2 n2 2 (b.flatMap Y2)/\Yk F b) func14 hF ⟨hR,hP,hR2,hP2⟩ ?_;refine wA 9 I<|QA (QW I Xk)<|QJj I<|QA (QW I Xk)<|QLi 3 I ?_
 refine QL I (λhc=>?_) λhc=>?_
 ·have hne:=bne_iff_ne.1 hc;refine wA 6 I ?_;exact QL3 I I (congrArg Value.bool (decide_eq_false λe=>hne (by rw[<-hln,<-hln2,<-GF a,<-GF b,e]))) tB
 have hne:=bne_eq_false_iff_eq.1 hc;refine QLj 9 I<|Jo (ι:=QBb a b) [(0,_),(1,_)] (λi=>[(5,.int .i64 ((i.i:Nat):Int))]) (λi=>a.length-i.i) (⟨0,Nat.zero_le _,rfl⟩) wU wT λi=>?_
 have hi:=i.le;refine wA 5 I<|QA (QW I Xk)<|QLi 3 I ?_
 refine QL I (λhc=>?_) λhc=>?_
 ·have hlt:i.i<a.length:=wm<|QK8 hc
  have hlt2:i.i<b.length:=O;have hta:=Ql hlt;have htb:=Ql hlt2;refine QLj 5 I<|JC QJ3 mixed wu<|QI (QD I)<|QI (QD I)<|QI (Qo (n:=n) i.i tD rfl rfl Xk Xq O)<|QI (QH I GA JP)<|QI (Qg (n:=n) ((i.i)*2+0) tD O rfl JP (Q4 (f:=Y2) (l:=a) Zh O rfl))<|QI (QD I)<|QI (QD I)<|QI (Qo (n:=n2) i.i (λF h9=>h9.2.2.1) rfl rfl Xk Xq O)<|QI (QH I GA JP)<|QI (Qg (n:=n2) ((i.i)*2+0) (λF h9=>h9.2.2.1) O rfl JP (Q4 (f:=Y2) (l:=b) Zh O rfl))<|QI (PA I I)<|QI (QD I) ?_
  refine Vq (t:=28) rfl (λhb28=>?_) λhb28=>?_
  ·have h28:¬(el a i.i).f=(el b i.i).f:=bne_iff_ne.1 hb28;refine JK I I I<|JK I I I<|JK I I I<|JK I I I<|JK I I I<|JK I I I<|JK I I I<|JK I I I<|JK I I I<|JK I I I<|JK I I I<|JK I I I<|QI (Qh I I I)<|Qv<|QC<|ZB I<|wA 5 I<|X6 ?_
   exact QL3 I I (congrArg Value.bool (decide_eq_false λe=>by first | exact h28 (TE hlt hlt2 e).1 | (have g:=(TE hlt hlt2 e).2;rw[g]at hc;simp at hc))) tB
  have h28:(el a i.i).f=(el b i.i).f:=bne_eq_false_iff_eq.1 hb28;refine JB I I<|QI (QD I)<|JB I I<|QI (QD I)<|JB I I<|QI (Qo (n:=n) i.i tD rfl rfl Xk Xq O)<|JB I I<|QI (QH I Ka Q5)<|JB I I<|QI (Qg (n:=n) ((i.i)*2+1) tD O rfl Q5 (Q4 (f:=Y2) (l:=a) Zh O rfl))<|JB I I<|QI (QD I)<|JB I I<|QI (QD I)<|JB I I<|QI (Qo (n:=n2) i.i (λF h9=>h9.2.2.1) rfl rfl Xk Xq O)<|JB I I<|QI (QH I Ka Q5)<|JB I I<|QI (Qg (n:=n2) ((i.i)*2+1) (λF h9=>h9.2.2.1) O rfl Q5 (Q4 (f:=Y2) (l:=b) Zh O rfl))<|JB I I<|QV I (λ_ _ f h=>RN f (a:=(el a i.i).k) (b:=(el b i.i).k) (h.2.1 _ hta) (h.2.2.2 _ htb) (hf _ hta)) λ_=>JB I I<|QI (YD I)<|QI (Qi I I I)<|Qv<|QC ?_
  refine QL I (λhc=>?_) λhc=>?_
  ·refine wA 5 I<|X6 ?_
   exact QL3 I I (congrArg Value.bool (decide_eq_false λe=>by first | exact h28 (TE hlt hlt2 e).1 | (have g:=(TE hlt hlt2 e).2;rw[g]at hc;simp at hc))) tB
  refine QK<|Qa<|QLk 3 I<|QA (Qk I I O)<|wB 2 I ?_
  exact Qb (⟨i.i+1,hlt,i.next hlt hlt2 h28 (by simpa using hc)⟩) (by show a.length-(i.i+1)<a.length-i.i;omega) wV QJ3 tD
 have hge:i.i=a.length:=wm<|QK9 hc
 refine Q7 ?_;refine wA 6 I ?_;exact QL3 I I (congrArg Value.bool (decide_eq_true (by have h:=i.h;rw[hge,List.take_of_length_le (by rw[GF];omega),List.take_of_length_le (by rw[GF];omega)]at h;exact h))) tB
structure V4{α:Type}(l:List α)(p:α->Bool) where
 i:Nat
 le:i<=l.length
 z:∀x∈l.take i,p x=false
section
variable{α:Type}[Inhabited α]{l:List α}{p:α->Bool}
def V4.start(l:List α)(p:α->Bool):V4 l p:=⟨0,Nat.zero_le _,w9⟩
def V4.next(s:V4 l p)(h:s.i<l.length)(e:p (el l s.i)=false):V4 l p:=⟨s.i+1,h,λx hx=>by
 rw[XF h]at hx;rcases List.mem_append.1 hx with hx | hx
 ·exact s.z x hx
 rw[List.mem_singleton.1 hx];exact e⟩
def V4.hit(s:V4 l p)(h:s.i<l.length)(e:p (el l s.i)=true):l.any p=true:=List.any_eq_true.2 ⟨_,Ql h,e⟩
def V4.stop(s:V4 l p)(h:l.length<=s.i):¬l.any p=true:=by
 rw[List.any_eq_true];rintro⟨x,hx,e⟩;have:=s.z x (by rw[List.take_of_length_le h];exact hx);rw[this]at e;cases e
end
def QAc(p:Pt):Int:=if p.any (λx=>decide (x.2.sum>12))=true then 4 else if decide ((p.length:Int)>64)=true then 5 else if p.any (λx=>MP x.1 != 0)=true then 4 else 0
def Ts(ps:List VP)(q:List UInt8×List Int->Bool):(Y7 ps).any q=ps.any λt=>q (t.f,t.k):=by unfold Y7;rw[List.any_map];rfl
theorem Un{v k:Nat}(hF:Fits F w)(hv:v<=k)(hk:k<=1000):QQ prog 112 [.int .i64 (v:Nat),.int .i64 (k:Nat)] w F (λ(c:Y1)=>c.1.v) (λc F=>Z4 F c.1 c.2 [([49],(List.replicate (k+1) (0:Int)).set v 1)]):=by
 refine QQ.go (G:=λF=>True) func112 hF trivial ?_;refine wA 8 I<|QA (Qk I I O)<|Y8 (n:=k+1) (bytes:=8) wN wN Qd QZ Hj I Ws O O λb8=>?_
 rw[show JL [Value.int .i64 0] (k+1)=(List.replicate (k+1) (0:Int)).map Qs by rw[Zl];simp[Qs]];refine QLi 7 I<|QA (Qj (i:=v) rfl rfl Qd QZ O)<|QS (vs:=[_]) I I I QZ I .here (WY (by rw[List.length_replicate];omega) (1)) wT<|QJi<|QG<|Jf (b:=b8) .here<|wA 2 I<|QA (Jr I Uz Gp (wQ I I I))<|Qw I (JR Xk) Xq Gp I I λb14=>wR I<|QT ?_
 exact QM ((⟨some ⟨b14,0,none⟩,1,1⟩,[⟨[49],⟨some ⟨b8,0,none⟩,k+1,k+1⟩,(List.replicate (k+1) (0:Int)).set v 1⟩])) I (wO I) (rfl) (λF ⟨⟨_,hz⟩,hs14⟩=>⟨Qu.of hs14 rfl,λt ht=>by
  rw[List.mem_singleton.1 ht];exact⟨Qu.of hz w9,w9,Nat.le_refl _⟩,rfl,Nat.le_refl _,rfl⟩)
def Ha(a:Rat)(k:Nat):List Tm:=if a=0 then[]else[(a,List.replicate k 0)]
structure Open(F:Fence):Prop where
 fn:∀f,F.fn f
 depth:F.depth=none
 calls:∀ {n:Nat} {P:Program} {f:FuncId} {args:Array Value} {w:World} {R:Ending->World->Prop},Calls P f args w R->CallsIn F n P f args w R
 rows:∀ {n:Nat} {P:Program} {row:String} {args:Array Value} {w:World} {R:Value->World->Prop},Rows P row args w R->RowsIn F n P row args w R
theorem Nd:Open Fence.wide where
 fn:=λ_=>trivial
 depth:=rfl
 calls:=λh=>callsIn_wide.2 h
 rows:=λh c cs _=>by
  obtain⟨v,w',h1,h2⟩:=h c cs;exact⟨v,w',h1,stepsIn_wide.2 h2⟩
def W7(l:Nat):Open (Fence.wide.inRound l) where
 fn:=λ_=>trivial
 depth:=rfl
 calls:=λh=>(callsIn_wide.2 h:CallsIn Fence.wide _ _ _ _ _ _)
 rows:=λh=>Nd.rows h
section
variable{F:Fence}{P:Program}
theorem Open.op(hF:Open F){o:Oper}(hnd:∀c,o.op≠.defer c){a:Act}{w:World}{K K':Act->World->Prop}{Q1 Q:Exit->Act->World->Prop}(hp:∀c a w,Q1 (.panic c) a w->Q (.panic c) a w)(hl:∀a w,Q1 .outgrown a w->Q .outgrown a w)(hK:∀a w,K a w->K' a w)(h:o.wp P a w K Q1):o.wpIn F 0 P a w K' Q:=by
 unfold Oper.wp at h;unfold Oper.wpIn;refine⟨λf _=>hF.fn f,?_⟩;rw[Oper.semAt_plain F a.eval o hnd];generalize (execOp a.eval o).run P w=r at *
 have hd:F.depth.isSome=true->1<=0:=λe=>by rw[hF.depth]at e;cases e
 cases r with
 |ok x w' =>
  cases x<;>simp only[Oper.upon,Oper.uponIn]at h ⊢ <;>
   first
    |exact hK _ _ h
    |exact⟨hd,hF.calls (h.mono λe w'' he=>by
      cases e with
      |returned u=>exact hK _ _ he
      |panicked c=>exact hp _ _ _ he
      |outgrown=>obtain⟨a,w,h⟩:=he;exact⟨a,w,hl _ _ h⟩)⟩
    |exact⟨hd,hF.rows (h.mono λ_ _ he=>hK _ _ he)⟩
 |halt x w'=>cases x<;>simp only[Oper.upon,Oper.uponIn]at h ⊢<;>exact hp _ _ _ h
def WZ(l:List Oper):Bool:=l.all λo=>match o.op with | .defer _=>false | _=>true
def PG{o:Oper}(h:(match o.op with | .defer _=>false | _=>true)=true):∀c,o.op≠.defer c:=λc e=>by rw[e]at h;cases h
def Open.list(hF:Open F){ops:Array Oper}{Q:Exit->Act->World->Prop}(hQ:¬LetsOut Q):∀(l:List Oper) (a:Act) (w:World),WZ l=true->wpList P ops Q l a w->wpListIn F 0 P ops Q l a w
 |[],_,_,_,h=>h
 |o::rest,a,w,hd,h=>by
  simp only[WZ,List.all_cons,Bool.and_eq_true]at hd;unfold wpList at h;unfold wpListIn;split
  ·rename_i hw;rw[if_pos hw]at h;rcases h with h | ⟨_,h⟩
   ·exact hF.op (PG hd.1) (λ_ _ _ h=>h) (λ_ _ h=>h) (λa w h=>hF.list hQ rest a w hd.2 h) h
   exact absurd h hQ
  rename_i hw;rw[if_neg hw]at h;exact⟨λf _=>hF.fn f,hF.list hQ rest _ _ hd.2 h⟩
end
section
variable[Dr][df:Df]{F:Fence}{P:Program}{Q:Exit->Act->World->Prop}{N:Nat}{m:Sl}{E:Env}
def JI(F:Fence)(P:Program)(c:Code)(Q:Exit->Act->World->Prop)(N:Nat)(m:Sl)(E:Env):Prop:=∀a w,JO N m a->St E w->c.wpIn F 0 P Q a w
theorem QBl{x:Code}(h:JI F P x (Exit.then (y.wpIn F 0 P Q) Q) N m E):JI F P (.seq x y) Q N m E:=λa w ha hw=>wpIn_seq (h a w ha hw)
theorem FR{id:Nat}(h:JI F P c (Exit.inBlock id Q) N m E):JI F P (.block id c) Q N m E:=λa w ha hw=>wpIn_block (h a w ha hw)
theorem pX(h:Fin Q .normal N m E):JI F P .skip Q N m E:=λa w ha hw=>wpIn_skip (h a w ha hw)
theorem QCX{c:Operand}{x:Code}{t:Bool}(hc:ev m c=some (.bool t))(ht:t=true->JI F P x Q N m E)(hf:t=false->JI F P y Q N m E):JI F P (.cond c x y) Q N m E :=
 λa w ha hw=>wpIn_cond_split (ha.ev hc) (λh=>ht h a w ha hw) λh=>hf h a w ha hw
theorem DB(hF:Open F){id:Nat}{l:List Oper}(hQ:¬LetsOut Q)(hd:WZ l=true)(h:JS P l.toArray Q l N m E):JI F P (.region id l.toArray false) Q N m E :=
 λa w ha hw=>wpIn_region_lit (hF.list hQ l a w hd (h a w ha hw))
theorem pY(h:JI F P y Q N m E):Fin (Exit.then (y.wpIn F 0 P Q) Q) .normal N m E:=h
section
variable{w0:World}{F0:Gs}{bs:List (Nat×Obj)}{G:Gs->Prop}{l:Nat}{r:Loop}{f:Obj->List (Nat×Obj)}
theorem St.put(h:St ⟨w0,F0,bs,G⟩ w){b:Nat}{o:Obj}(o':Obj)(ho:Own bs b o f)(hn:∀c fr,o'≠.cells c 201 fr):St ⟨w0,F0,f o',G⟩ (w.putObj b o'):=by
 obtain⟨pre,post,e1,e2⟩:=ho.split;subst e1;rw[e2];exact h.write pre ⟨rfl,rfl,rfl,rfl,rfl⟩ hn
theorem Oe{Qr:Exit->Act->World->Prop}(ho:Own bs l (.loop r) f)(hr:r.state = .ready)(k:JI F P body Qr N m ⟨w0,F0,f (.loop { r with state:=.busy }),G⟩):
  Fin (Exit.then (λa₁ w₁=>∃w₂,(Instr.beginRound l).run P w₁ = .ok () w₂/\body.wpIn F 0 P Qr a₁ w₂) λ_ _ _=>False) .normal N m ⟨w0,F0,bs,G⟩ :=
 λa w ha hw=>⟨_,run_beginRound (hw.own ho) hr,k a _ ha (hw.put _ ho λc fr e=>by cases e)⟩
theorem Od(ho:Own bs l (.loop r) f)(k:∀w,St ⟨w0,F0,f (.loop { r with state:=.ready,pending:=none }),G⟩ w->R (.returned (.bool true)) w):Fin (roundPost P l R) .normal N m ⟨w0,F0,bs,G⟩ :=
 λa w ha hw=>⟨_,_,run_endRound none (hw.own ho),k _ (hw.put _ ho λc fr e=>by cases e)⟩
end
end
section
variable[Dr]{P:Program}{w0:World}{F0:Gs}{bs:List (Nat×Obj)}{G:Gs->Prop}{l:Nat}{r:Loop}{f:Obj->List (Nat×Obj)}
def Bk(r:Loop)(vs:Array Value):Act:={ tmps:=(r.params.zip vs).foldl (λtmps (t,a)=>tmps.setIfInBounds t a) r.tmps,defers:=[] }
theorem Nj{W:World}{vs:Array Value}(hst:St ⟨w0,F0,bs,G⟩ W)(ho:Own bs l (.loop r) f)(hsz:vs.size=r.params.size)(hsl:JO N m (Bk r vs))
  (h:JI (Fence.wide.inRound l) P r.assign (Exit.then (λa₁ w₁=>∃w₂,(Instr.beginRound l).run P w₁ = .ok () w₂/\r.body.wpIn (Fence.wide.inRound l) 0 P (roundPost P l R) a₁ w₂) λ_ _ _=>False) N m ⟨w0,F0,bs,G⟩) :
  YieldAt Fence.wide 0 P l vs W R :=
 ⟨_,_,_,_,run_yield (hst.own ho) hsz,roundIn_of_wpIn trivial (h _ W hsl hst)⟩
end
section
variable[Dr][df:Df]{P:Program}{Q:Exit->Act->World->Prop}{N:Nat}{m:Sl}{E E0:Env}{ops:Array Oper}{l:List Oper}{w0:World}{F0:Gs}{bs:List (Nat×Obj)}{G:Gs->Prop}
def JSI(P:Program)(ops:Array Oper)(Q:Exit->Act->World->Prop)(l:List Oper)(N:Nat)(m:Sl)(E:Env):Prop:=∀a w,JO N m a->St E w->wpListIn Fence.wide 0 P ops Q l a w
theorem yf(hQ:¬LetsOut Q)(hd:WZ l=true)(h:JS P ops Q l N m E):JSI P ops Q l N m E:=λa w ha hw=>Nd.list hQ l a w hd (h a w ha hw)
theorem C7{x:Operand}{d r:Nat}{args:Array Operand}{tys:Array TypeId}{ty:TypeId}{pos:String}{aft:Array Edge}{ι:Type}{E':ι->Env}(hx:ev m x=some (.func (.yield r) #[] #[]))(hv:D2 m args.toList=some vs)
  (hy:∀w,St E w->YieldAt Fence.wide 0 P r vs.toArray w λe w'=>e = .returned (.bool true)/\∃s,St (E' s) w')
  (k:∀s,JSI P ops Q l N ((d,.bool true)::m) (E' s)) (hd:Jq N (some d)=true:=by rfl):JSI P ops Q (⟨some d,.call ⟨.value x,args,tys⟩,ty,pos,aft,none⟩::l) N m E:=by
 intro a w ha hw;refine wpListIn_plain rfl λK hK=>?_;obtain⟨fn,tmps,assign,body,hr,hR⟩:=hy w hw;refine⟨λf _=>trivial,?_⟩;have e2:args.map a.eval=vs.toArray:=by rw[<-ha.D2 hv];apply Array.ext';simp
 have hrun:(execOp a.eval ⟨some d,.call ⟨.value x,args,tys⟩,ty,pos,aft,none⟩).run P w = .ok (.round r fn tmps assign body) w:=by
  simp only[execOp,resolve,ha.ev hx,Deferred.ofValue,Sem.run_bind,Sem.run_pure,Result.andThen_ok,invoke,e2];simpa using hr
 rw[Oper.semAt_plain Fence.wide a.eval _ (λc e=>by cases e),hrun];refine⟨λe=>(by cases e),hR.mono ?_⟩;rintro e w' ⟨rfl,s,hs⟩;exact hK _ _ (k s _ w' (ha.put hd (.bool true)) hs)
end
section
variable[Dr]{P:Program}{Q:Exit->Act->World->Prop}{N:Nat}{m:Sl}{w0:World}{F0:Gs}{bs:List (Nat×Obj)}{G:Gs->Prop}
@[reducible] def Vz (D:Nat):Df:=⟨[{ target:=.collected D,args:=#[] }]⟩
structure F9(N:Nat)(m:Sl)(ps:Array Tmp)(assign body:Code)(r:Loop):Prop where
 state:r.state = .ready
 QJ8:r.pending=none
 params:r.params=ps
 assign:r.assign=assign
 body:r.body=body
 uK:JO (df:=KB) N m { tmps:=r.tmps,defers:=[] }
theorem RV{g:Operand}{ps:Array Tmp}{gf:Nat}{lb:Array Value}{ι:Type}(B:ι->List (Nat×Obj))(R:ι->Gs->Prop)(Dn:ι->Prop)(hg:ev m g=some (.func (.func gf) #[] lb))(he:Enters P gf)
  (hcall:∀(L D:Nat) (r:Loop) (w:World),F9 N m ps assign body r->St ⟨w0,F0,(L,.loop r)::(D,.deferred (some []))::bs,G⟩ w ->
   Calls P gf (#[.func (.yield L) #[] #[]]++lb) w λe w'=>(∃v,e = .returned v)/\∃s,Dn s/\St ⟨w0,F0,(L,.loop r)::(D,.deferred (some []))::B s,λF=>G F/\R s F⟩ w')
  (k:∀D s,Dn s->Fin (df:=Vz D) Q .normal N m ⟨w0,F0,(D,.deferred (some []))::B s,λF=>G F/\R s F⟩):J (df:=KB) P (.rangeFunc g ps assign body) Q N m ⟨w0,F0,bs,G⟩:=λa w ha hw=>by
 refine(wpIn_wide (n:=0)).1 (wpIn_rangeFunc λfn _=>?_);obtain⟨r,hr⟩:∃r:Loop,r={ state:=.ready,pending:=none,fn,tmps:=a.tmps,params:=ps,assign,body,defers:=w.heap.size }:=⟨_,rfl⟩;have hs1:St ⟨w0,F0,(w.heap.size+1,.loop r)::(w.heap.size,.deferred (some []))::bs,G⟩ ((w.alloc (.deferred (some []))).alloc (.loop r)):=by
  have h1:=hw.alloc (.deferred (some [])) (λc fr e=>by cases e);have h2:=h1.alloc (.loop r) λc fr e=>by cases e
  rwa [World.size_alloc]at h2
 have hd:a.defers=[]:=ha.df;refine⟨w.heap.size+1,[{ target:=.collected w.heap.size,args:=#[] }],(w.alloc (.deferred (some []))).alloc (.loop r),{ target:=.fn (.func gf) lb,args:=#[.func (.yield (w.heap.size+1)) #[] #[]] },(w.alloc (.deferred (some []))).alloc (.loop r),gf,
  #[.func (.yield (w.heap.size+1)) #[] #[]]++lb,(w.alloc (.deferred (some []))).alloc (.loop r),?_,?_,λ_ _=>trivial,?_,λe=>(by cases e),?_⟩
 ·rw[hr];exact run_enterLoop_outer _ _ _ _ _
 ·simp only[resolve,ha.ev hg];simp[go_sem]
 ·simpa[invoke,go_sem]using he _ _
 refine(callsIn_wide.2 (hcall _ _ r _ ⟨by rw[hr],by rw[hr],by rw[hr],by rw[hr],by rw[hr],⟨by rw[hr];exact ha.size,rfl,by rw[hr];exact ha.get⟩⟩ hs1)).mono ?_;rintro e w' ⟨⟨v,rfl⟩,s,pf,hs⟩;have hl:w'.heap[w.heap.size+1]?=some (.loop r):=hs.own .here;refine⟨none,w'.putObj (w.heap.size+1) (.loop { r with state:=.exhausted }),?_,k w.heap.size s pf _ _ (JO.mk (df:=Vz w.heap.size) (JO.size (df:=KB) (a:=a) ha) ?_ λt v h=>JO.get (df:=KB) (a:=a) ha t v h) ?_⟩
 ·rw[run_endLoop hl (by rw[hr];intro e;cases e)];rw[hr]
 ·show _++a.defers=_;rw[hd];rfl
 exact(hs.put (.loop { r with state:=.exhausted }) .here λc fr e=>by cases e).imp (.cons _ QJ3) λ_ h=>h
theorem QAC(h:∀G':Gs->Prop,(∀F,G' F->G F)->J (df:=KB) P c Q N m ⟨w0,F0,bs,G'⟩):J (df:=KB) P c Q N m ⟨w0,F0,bs,G⟩:=h G λ_ h=>h
theorem QQ.zQ{f:FuncId}{fn:Func}{args:List Value}{γ:Type}{val:γ->Value}{fact:γ->Gs->Prop}{G:Gs->Prop}(hf:P.funcs[f]?=some fn)(hb:fn.body=some c)(hn:(fn.name == "runtime.NumGoroutine")=false)(hN:fn.ntmps=N)(hl:Nat.ble args.length N=true)
  (hw:Fits F w) (hg:∀F',Gs.le F F'->G F') (h:J (df:=KB) P c (bodyPostM Fence.wide 0 P fn (Mb w F val fact)) N (E5 0 args) ⟨w,F,[],G⟩):QQ P f args w F val fact:=by
 refine⟨enters_of hf hn (by rw[hb];rfl),callsIn_wide.1 (callsIn_of_wp_marks hf hb trivial (wpIn_wide.2 (h _ w ⟨?_,rfl,λt v ht=>?_⟩ (St.start hw hg))))⟩
 ·have:=Nat.le_of_ble_eq_true hl;simp[hN];omega
 obtain⟨_,h2⟩:=W9 args 0 t v ht;have hlt:t<args.length:=by rcases Nat.lt_or_ge t args.length with g | g;exact g;rw[Nat.sub_zero,List.getElem?_eq_none g]at h2;cases h2
 simp only[Nat.sub_zero]at h2;rw[Array.getElem?_append,if_pos (by simpa using hlt)];simpa using h2
theorem C8{fn:Func}{D:Nat}{f:Obj->List (Nat×Obj)}(ho:Own bs D (.deferred (some [])) f)(h:Fin (df:=KB) (bodyPost P fn R) .ret N m ⟨w0,F0,f (.deferred none),G⟩):Fin (df:=Vz D) (bodyPostM Fence.wide 0 P fn R) .ret N m ⟨w0,F0,bs,G⟩:=λa w ha hw=>by
 have h1:=h { tmps:=a.tmps,defers:=[] } _ (JO.mk (df:=KB) (JO.size (df:=Vz D) (a:=a) ha) rfl λt v h=>JO.get (df:=Vz D) (a:=a) ha t v h) (hw.put (.deferred none) ho λc fr e=>by cases e);obtain⟨_,v,h2,h3⟩:=h1;show LeavesInM Fence.wide 0 P fn a.tmps R a.defers .returning w;rw[show a.defers=[{ target:=.collected D,args:=#[] }]from JO.df (df:=Vz D) ha];exact⟨λe=>(by cases e),.inl ⟨D,_,rfl,run_takeDeferred (hw.own ho),v,h2,h3⟩⟩
end
section
variable{P:Program}{e:TypeId}
theorem equal_txs{t:TypeId}{f1 f2:Field}(ht:P.underlying t=some (.struct (P.fieldsOf t)))(hp:P.stoodInHeld t=false)(hf:(P.fieldsOf t).toList=[f1,f2])(h1:f1.name ≠ "_" /\ f1.offset=0/\P.underlying f1.type=some .string)(h2:f2.name ≠ "_" /\ f2.offset=1/\P.underlying f2.type=some .string)(w:World)(a b c d:List UInt8):
  (Op.equal t (.agg #[tx a,tx b]) (.agg #[tx c,tx d])).run P w = .ok (decide (a=c)&&decide (b=d)) w:=by
 have hs:∀(f:TypeId),P.underlying f=some .string->∀x y:List UInt8,(Op.equalIn 9999 f (tx x) (tx y)).run P w = .ok (decide (x=y)) w:=λf hf x y=>by
  rw[show(9999:Nat)=9998+1 from rfl,show tx x = .string ⟨x.toArray⟩from rfl,show tx y = .string ⟨y.toArray⟩from rfl,run_equalIn_string w 9998 f _ _ hf];congr 1;rw[ByteArray.toList_eq,ByteArray.toList_eq,Bool.eq_iff_iff];simp
 show(Op.equalIn (9999+1) t _ _).run P w=_;rw[run_equalIn_struct w 9999 t _ _ ht hp,hf];have p1:∀x y:List UInt8,(part f1.type #[tx x,tx y] 0).run P w = .ok (tx x) w:=λx y=>by simp[part,isAgg,run_underlying h1.2.2]
 have p2:∀x y:List UInt8,(part f2.type #[tx x,tx y] 1).run P w = .ok (tx y) w:=λx y=>by simp[part,isAgg,run_underlying h2.2.2]
 simp only[Op.eqFields,h1.1,h2.1,h1.2.1,h2.2.1,ne_eq,not_false_eq_true,if_true,Sem.run_bind,p1,p2,hs f1.type h1.2.2,hs f2.type h2.2.2,Result.andThen_ok];by_cases e1:a=c<;>by_cases e2:b=d<;>simp[e1,e2,p2,hs f2.type h2.2.2]
end
def qj{l:List Value}(h:l.length=vs.length):KC l 0 vs vs:=by
 have h1:=KC.mk' 0 l vs O
 rwa [List.take_zero,List.nil_append,Nat.zero_add,List.drop_of_length_le O,List.append_nil]at h1
def N4{ps:Array Tmp}{r:Loop}(h:F9 N m ps assign body r):{ ({ r with state:=.busy }:Loop)with state:=.ready,pending:=none }=r:=by
 obtain⟨h1,h2,_,_,_,_⟩:=h;cases r;simp only at h1 h2;subst h1;subst h2;rfl
theorem qH{p1 p2:Tmp}{r:Loop}(h:F9 N m #[p1,p2] assign body r)(v1 v2:Value)(h1:p1<N)(h2:p2<N):JO (df:=KB) N ((p2,v2)::(p1,v1)::m) (Bk r #[v1,v2]):=by
 have e:Bk r #[v1,v2]=((({ tmps:=r.tmps,defers:=[] }:Act).put (some p1) v1).put (some p2) v2):=by
  unfold Bk;rw[h.params];simp[Act.put]
 rw[e];exact(h.uK.put (d:=some p1) (by simpa[Jq]using h1) v1).put (d:=some p2) (by simpa[Jq]using h2) v2
theorem Oy:((prog.fieldsOf 54).toList.map λf=>(f.name,f.offset,f.type))=[("Low",0,45),("High",1,45)]:=wu
theorem IJ:prog.underlying 54=some (.struct (prog.fieldsOf 54)):=wu
theorem Ox:prog.stoodInHeld 54=false:=wu
theorem IK:prog.eqGuardType prog.depth 54=false:=wu
theorem Lt:prog.underlying 45=some .string:=wu
def ID{α β:Type}{f:α->β}{l:List α}{x y:β}(h:l.map f=[x,y]):∃a b,l=[a,b]/\f a=x/\f b=y:=by
 match l,h with
 |[a,b],h=>simp only[List.map_cons,List.map_nil,List.cons.injEq,and_true]at h;exact⟨a,b,rfl,h.1,h.2⟩
theorem equal_span(w:World)(a b c d:List UInt8):(Op.equal 54 (.agg #[tx a,tx b]) (.agg #[tx c,tx d])).run prog w = .ok (decide (a=c)&&decide (b=d)) w:=by
 obtain⟨f1,f2,hf,h1,h2⟩:=ID Oy;simp only[Prod.mk.injEq]at h1 h2;exact equal_txs IJ Ox hf ⟨by rw[h1.1];decide,h1.2.1,by rw[h1.2.2];exact Lt⟩ ⟨by rw[h2.1];decide,h2.2.1,by rw[h2.2.2];exact Lt⟩ w a b c d
section
variable[Dr][df:Df]{N:Nat}{m:Sl}{S:World->Prop}{ty:TypeId}
theorem ua{yT:TypeId}{x y:Operand}{a b c d:List UInt8}(hx:ev m x=some (.agg #[tx a,tx b]))(hy:ev m y=some (.agg #[tx c,tx d])):Qt prog N m S (.binOp .neq 54 x y yT) ty (.bool (!(decide (a=c)&&decide (b=d)))):=λac w _ _ _ _ ha _=>by
 have h1:=equal_span w a b c d;simp only[execOp,ha.ev hx,ha.ev hy,Sem.run_bind];have h2:(eqGuard .neq 54 x y (.agg #[tx a,tx b]) (.agg #[tx c,tx d])).run prog w = .ok () w:=by
  simp[eqGuard,IK]
 rw[h2];simp[binOp,h1]
end
def mkT(f:List UInt8)(b:Nat)(k:List Int):VP:=⟨f,⟨some ⟨b,0,none⟩,k.length,k.length⟩,k⟩
def mkP(b:Nat)(ts:List VP):Y1:=(⟨some ⟨b,0,none⟩,ts.length,ts.length⟩,ts)
def uQ{b:Nat}{k:List Int}{T:TypeId}(h:F b=some ((k.map Qs).toArray,T)):JJ F ⟨some ⟨b,0,none⟩,k.length,k.length⟩ k:=⟨Qu.of h w9,rfl,Nat.le_refl _⟩
theorem Z4.QCg{s:Sr}{ts:List VP}{p:Pt}(h:Z4 F s ts p)(hp:∀e∈p,e.1.length<=1000000/\e.2.length<=1000000)(hl:p.length<=1000000):c9 (s,ts):=by
 refine⟨h.2.2.2.2,λt ht=>?_,?_⟩
 ·have:(t.f,t.k)∈Y7 ts:=List.mem_map.2 ⟨t,ht,rfl⟩;rw[h.2.2.1]at this;exact hp _ this
 have:=congrArg List.length h.2.2.1;simp only[Y7,List.length_map]at this;show ts.length<=_;omega
structure Bd(p:List Tm)(k c z:Nat)(d:Int):Prop where
 can:Canon p
 wd:UG k p
 nn:∀t∈p,(∀x∈t.2,0<=x)/\t.2.sum<=d
 ln:p.length<=c
 sz:∀t∈p,XH t.1<=z
theorem QCQ(h:a.length=b.length)(ha:∀x∈a,0<=x)(hb:∀x∈b,0<=x):(∀x∈YA a b,0<=x)/\(YA a b).sum=a.sum+b.sum:=by
 induction a generalizing b with
 |nil=>cases b with
  |nil=>exact⟨λx hx=>(by cases hx),rfl⟩
  |cons y b=>simp at h
 |cons x a ih=>cases b with
  |nil=>simp at h
  |cons y b =>
   have:=ih (b:=b) (by simpa using h) (λx hx=>ha x (List.mem_cons_of_mem _ hx)) (λx hx=>hb x (List.mem_cons_of_mem _ hx));have h1:=ha x List.mem_cons_self;have h2:=hb y List.mem_cons_self;show(∀z∈(x+y)::YA a b,0<=z)/\((x+y)::YA a b).sum=_;refine⟨λz hz=>?_,?_⟩
   ·rcases List.mem_cons.1 hz with rfl | hz
    ·omega
    exact this.1 z hz
   rw[List.sum_cons,this.2,List.sum_cons,List.sum_cons];omega
def cj(z:Int):LM (XZ z)=Lib.decDigits z.natAbs:=by
 have h:=jf ((z:Int):Rat);rw[OH,show((z:Int):Rat).num=z from by simp]at h;unfold LM;rw[h];unfold Rt;by_cases h0:z<0
 ·rw[if_pos h0,if_pos wv,Zq h0];rfl
 rw[if_neg h0,Je O,if_neg (by split<;>decide)]
section
variable{w:World}{F:Gs}
variable{a b:List UInt8}
theorem qg(hF:Fits F w)(ha:Q9 a=0)(hb:Q9 b=0):QY prog 120 [tx a,tx b] w F (tx (Q6 (Jc a*Jc b))):=by
 have h:=IQ (x:=Jc a) (y:=Jc b) hF (Nat.le_trans (Xt ha) wv) (Nat.le_trans (Xt hb) wv)
 rwa [<-(Xa ha).1,<-(Xa hb).1]at h
end
def vO{x y:Rat}(h:y.num≠0):XH (x/y)<=XH x+XH y:=by
 rw[Rat.div_def];have:=Zg x y⁻¹;have:=Lf h;omega
def YR{x y:Rat}(h0:0<=x)(h:x<=y):∀n:Nat,x^n<=y^n
 |0=>by rw[Rat.pow_zero,Rat.pow_zero];exact Rat.le_refl
 |n+1=>by
  have ih:=YR h0 h n;have hx:0<=x^n:=Rat.pow_nonneg h0;rw[Rat.pow_succ,Rat.pow_succ];have h1:=Rat.mul_le_mul_of_nonneg_left h hx;have h2:=Rat.mul_le_mul_of_nonneg_right ih (Rat.le_trans h0 h);exact Rat.le_trans h1 h2
abbrev SpQ:=Rat×Rat
def Cl(Q d b:Nat)(x:Rat):Prop:=∃z:Int,x=Rat.divInt z ((Q^d:Nat):Int)/\z.natAbs<=2^b*Q^d
theorem UR:Zd prog 41=some (true,3):=wu
theorem vC:J1 prog 41=some [.slice none 0 0,.slice none 0 0,.slice none 0 0]:=wu
theorem QGs:YV prog 41=some [(0,1),(1,1),(2,1)]:=wu
theorem Av:Y4 prog 41 0=some (0,37):=wu
theorem EN:Y4 prog 41 1=some (1,38):=wu
theorem I6:Y4 prog 41 2=some (2,39):=wu
section
open Go Go.RowKit Ig
section
variable[Dr][df:Df]{P:Program}{Q:Exit->Act->World->Prop}{N:Nat}{m:Sl}{l:List Oper}{w0:World}{F0:Gs}{bs bs0:List (Nat×Obj)}{G G0:Gs->Prop}
def WL:List Nat->List (List Nat)
 |[]=>[[]]
 |i::A=>(WL A).map (i::·)++WL A
def Gq(l:List Oper)(r u:List Nat):List Nat:=(List.range l.length).filter λi=>r.contains i||u.contains i
def pO(l:List Oper)(i:Nat):Option (Nat×TypeId):=match l[i]? with
 |some ⟨some d,.alloc T,_,_,_,none⟩=>some (d,T)
 |_=>none
def dI(l:List Oper)(i:Nat):Nat:=((pO l i).getD (0,0)).1
def tI(l:List Oper)(i:Nat):TypeId:=((pO l i).getD (0,0)).2
def zI(P:Program)(l:List Oper)(i:Nat):Obj:=.cells ((J1 P (tI l i)).getD []).toArray (tI l i) (0,0)
def Cx(P:Program)(N:Nat)(l:List Oper)(i:Nat):Bool:=(pO l i).isSome&&(J1 P (tI l i)).isSome&&Vy (tI l i)&&Jq N (some (dI l i))
def Bn(b:Nat):Value:=.pointer (some ⟨b,0,none⟩)
def okB(l:List Oper)(A r:List Nat)(k:Nat):Bool:=(WL A).all λu=>(Wu l (Gq l r u)).isNone&&((Gq l r u).filter (Ya l (Gq l r u))).all (λi=>u.contains i||Nat.beq i k)&&u.all (λi=>(Gq l r u).contains i&&((Gq l r u).erase i==Gq l r (u.erase i))&&(WL A).contains (u.erase i))&&((Gq l r u).erase k==Gq l (r.erase k) u)&&!(Gq l r u).isEmpty
def QEa(l:List Oper)(A r:List Nat)(i:Nat):Bool:=(WL A).all λu=>!(u.contains i)||((Wu l (Gq l r u)).isNone&&((Gq l r u).filter (Ya l (Gq l r u))).all (λj=>u.contains j)&&u.all (λj=>(Gq l r u).contains j&&((Gq l r u).erase j==Gq l r (u.erase j))&&(WL A).contains (u.erase j))&&!(Gq l r u).isEmpty)
def mxI(l:List Oper)(A u:List Nat)(β:Nat->Nat):Sl:=(A.filter λi=>!(u.contains i)).map λi=>(dI l i,Bn (β i))
def y7(P:Program)(l:List Oper)(A u:List Nat)(β:Nat->Nat):List (Nat×Obj):=(A.filter λi=>!(u.contains i)).map λi=>(β i,zI P l i)
def KT(P:Program)(l:List Oper)(Q:Exit->Act->World->Prop)(S0:World->Prop)(A r:List Nat)(N:Nat)(m:Sl)(w0:World)(F0:Gs)(bs:List (Nat×Obj))(G:Gs->Prop):Prop :=
 ∀(u:List Nat) (β:Nat->Nat) (a:Act) (w:World),u∈WL A->JO N m a->(∀i∈A,i∉u->JO N [(dI l i,Bn (β i))] a)->St ⟨w0,F0,y7 P l A u β++bs,G⟩ w->G9 P l Q S0 (Gq l r u).length (Gq l r u) a w
theorem JO.SF{a:Act}(h:JO N m a){d:Nat}(hd:Jq N (some d)=true)(v:Value)(hm:look m d=none):JO N m (a.put (some d) v):=by
 have h1:=h.put hd v;refine⟨h1.size,h1.df,λt x ht=>h1.get t x ?_⟩;show(bif Nat.beq d t then some v else look m t)=some x;have:Nat.beq d t=false:=by
  cases e:Nat.beq d t with
  |false=>rfl
  |true=>have:=Nat.eq_of_beq_eq_true e;subst this;rw[hm]at ht;cases ht
 rw[this];exact ht
theorem Vh{d t:Nat}{v:Value}:look [(d,v)] t=(bif Nat.beq d t then some v else none):=rfl
theorem DH:∀ {A u:List Nat},u∈WL A->∀i∈u,i∈A
 |[],u,h,i,hi=>by simp only[WL,List.mem_singleton]at h;subst h;cases hi
 |a::A,u,h,i,hi=>by
  simp only[WL,List.mem_append,List.mem_map]at h;rcases h with ⟨v,hv,rfl⟩ | h
  ·rcases List.mem_cons.1 hi with rfl | hi
   ·simp
   exact List.mem_cons_of_mem _ (DH hv i hi)
  exact List.mem_cons_of_mem _ (DH h i hi)
theorem VX:∀ {A u:List Nat},A.Nodup->u∈WL A->u.Nodup
 |[],u,_,h=>by simp only[WL,List.mem_singleton]at h;subst h;exact List.nodup_nil
 |a::A,u,hA,h=>by
  rw[List.nodup_cons]at hA;simp only[WL,List.mem_append,List.mem_map]at h;rcases h with ⟨v,hv,rfl⟩ | h
  ·rw[List.nodup_cons];exact⟨λhm=>hA.1 (DH hv a hm),VX hA.2 hv⟩
  exact VX hA.2 h
theorem R6:∀A:List Nat,A∈WL A
 |[]=>by simp[WL]
 |a::A=>by simp only[WL,List.mem_append,List.mem_map];exact .inl ⟨A,R6 A,rfl⟩
theorem Dd{i:Nat}(hA:A.Nodup)(hu:u.Nodup)(hiA:i∈A)(hi:i∈u):(A.filter λj=>!((u.erase i).contains j)).Perm (i::A.filter λj=>!(u.contains j)):=by
 refine(List.perm_ext_iff_of_nodup (hA.filter _) (List.nodup_cons.2 ⟨λh=>?_,hA.filter _⟩)).2 λj=>?_
 ·have:=(List.mem_filter.1 h).2;simp[hi]at this
 rw[List.mem_cons,List.mem_filter,List.mem_filter];simp only[Bool.not_eq_true',List.contains_eq_mem,decide_eq_false_iff_not];rw[hu.mem_erase_iff];by_cases e:j=i
 ·subst e;simp[hiA]
 simp[e]
theorem FM{a:Act}(hA:A.Nodup)(hinj:∀j∈A,∀k∈A,dI l j=dI l k->j=k)(hB:∀j∈A,Cx P N l j=true/\look m (dI l j)=none)
  (h0:bs0.Sublist bs) (hg0:∀F,G F->G0 F) (hu:u∈WL A) (hi:i∈u) (ha:JO N m a) (hx:∀i∈A,i∉u->JO N [(dI l i,Bn (β i))] a) (hw:St ⟨w0,F0,y7 P l A u β++bs,G⟩ w) {R:Act->World->Prop}
  (k:∀β' a' w',JO N m a'->(∀j∈A,j∉u.erase i->JO N [(dI l j,Bn (β' j))] a')->St ⟨w0,F0,y7 P l A (u.erase i) β'++bs,G⟩ w'->R a' w') :
  wpOp P l.toArray (λ_ _ _=>False) i (λa' w'=>St ⟨w0,F0,bs0,G0⟩ w'/\R a' w') a w:=by
 have hiA:=DH hu i hi;have hun:=VX hA hu;obtain⟨hb,hm⟩:=hB i hiA;simp only[Cx,Bool.and_eq_true]at hb;obtain⟨⟨⟨h1,h2⟩,h3⟩,h4⟩:=hb;obtain⟨⟨d,T⟩,e⟩:=Option.isSome_iff_exists.1 h1;have ed:dI l i=d:=by unfold dI;rw[e];rfl
 have et:tI l i=T:=by unfold tI;rw[e];rfl
 obtain⟨z,ez⟩:=Option.isSome_iff_exists.1 h2;rw[et]at ez h3;rw[ed]at h4 hm;unfold pO at e;split at e
 ·rename_i d' T' ty pos aft he;simp only[Option.some.injEq,Prod.mk.injEq]at e;obtain⟨rfl,rfl⟩:=e;have ho':l.toArray[i]?=some ⟨some d',.alloc T',ty,pos,aft,none⟩:=by simpa using he
  have hS:=hw.alloc (.cells z.toArray T' (0,0)) (XR h3);unfold wpOp;simp only[ho'];rw[if_pos (by simp[Region.wanted])];refine .inl (upon_value (G2 ez) ⟨hS.imp ((h0.trans (List.sublist_append_right _ _)).trans (List.sublist_cons_self _ _)) hg0,?_⟩);refine k (λj=>if j=i then w.heap.size else β j) _ _ (ha.SF h4 _ hm) (λj hj hju=>?_) ?_
  ·by_cases ej:j=i
   ·subst ej;rw[if_pos rfl,ed];have:=(ha.put h4 (Bn w.heap.size));refine⟨this.size,this.df,λt x ht=>this.get t x ?_⟩;rw[Vh]at ht;show(bif Nat.beq d' t then some _ else look m t)=some x;cases e2:Nat.beq d' t with
    |true=>rw[e2]at ht;exact ht
    |false=>rw[e2]at ht;cases ht
   rw[if_neg ej];refine(hx j hj λh=>hju ((hun.mem_erase_iff).2 ⟨ej,h⟩)).SF h4 _ ?_;rw[Vh];have:Nat.beq (dI l j) d'=false:=by
    cases e2:Nat.beq (dI l j) d' with
    |false=>rfl
    |true=>exact absurd (hinj j hj i hiA ((Nat.eq_of_beq_eq_true e2).trans ed.symm)) ej
   rw[this];rfl
  refine hS.perm ?_;have hp:=(Dd hA hun hiA hi).map λj=>((if j=i then w.heap.size else β j),zI P l j);have e3:(List.map (λj=>((if j=i then w.heap.size else β j),zI P l j)) (i::A.filter λj=>!(u.contains j)))=(w.heap.size,Obj.cells z.toArray T' (0,0))::y7 P l A u β:=by
   rw[List.map_cons,if_pos rfl];have eA:zI P l i=Obj.cells z.toArray T' (0,0):=by unfold zI;rw[et,ez];rfl
   rw[eA];refine congrArg (_::·) ?_;unfold y7;refine List.map_congr_left λj hj=>?_;have:j≠i:=λe=>by subst e;have:=(List.mem_filter.1 hj).2;simp[hi]at this
   rw[if_neg this]
  rw[e3]at hp;exact(hp.symm.append_right bs)
 cases e
theorem G8:∀(x y:Sl) (t:Nat),look (x++y) t=(look x t).or (look y t)
 |[],_,_=>rfl
 |(s,v)::x,y,t=>by
  show(bif Nat.beq s t then some v else look (x++y) t)=(bif Nat.beq s t then some v else look x t).or (look y t);cases Nat.beq s t with
  |true=>rfl
  |false=>exact G8 x y t
theorem xo{a:Act}(ha:JO N m a)(hx:∀i∈A,i∉u->JO N [(dI l i,Bn (β i))] a):JO N (m++mxI l A u β) a:=by
 refine⟨ha.size,ha.df,λt v ht=>?_⟩;rw[G8]at ht;cases e:look m t with
 |some v'=>rw[e]at ht;exact ha.get t v (by rw[e];exact ht)
 |none =>
  rw[e,Option.none_or]at ht;unfold mxI at ht;have:∀B:List Nat,(∀i∈B,i∈A/\i∉u)->look (B.map λi=>(dI l i,Bn (β i))) t=some v->a.tmps[t]?=some v:=by
   intro B
   induction B with
   |nil=>intro _ h;cases h
   |cons j B ihB =>
    intro hBj h;rw[List.map_cons]at h;have h':(bif Nat.beq (dI l j) t then some (Bn (β j))else look (B.map λi=>(dI l i,Bn (β i))) t)=some v:=h;cases e2:Nat.beq (dI l j) t with
    |true =>
     rw[e2]at h';exact(hx j (hBj j w9).1 (hBj j w9).2).get t v (by rw[Vh,e2];exact h')
    |false=>rw[e2]at h';exact ihB (λi hi=>hBj i (by simp[hi])) h'
  exact this _ (λi hi=>⟨(List.mem_filter.1 hi).1,by have:=(List.mem_filter.1 hi).2;simpa using this⟩) ht
theorem L8{a:Act}{nw:Sl}(hinj:∀j∈A,∀k∈A,dI l j=dI l k->j=k)(hB:∀j∈A,look m (dI l j)=none)(hnew:∀j∈A,look nw (dI l j)=none)(g1:JO N (nw++(m++mxI l A u β)) a):JO N (nw++m) a/\∀i∈A,i∉u->JO N [(dI l i,Bn (β i))] a:=by
 refine⟨⟨g1.size,g1.df,λt v ht=>g1.get t v ?_⟩,λj hj hju=>⟨g1.size,g1.df,λt v ht=>g1.get t v ?_⟩⟩
 ·rw[<-List.append_assoc,G8,ht];rfl
 rw[Vh]at ht;cases e2:Nat.beq (dI l j) t with
 |false=>rw[e2]at ht;cases ht
 |true =>
  rw[e2]at ht;have e3:=Nat.eq_of_beq_eq_true e2;subst e3;rw[G8,hnew j hj,Option.none_or,G8,hB j hj,Option.none_or];unfold mxI;have:∀B:List Nat,j∈B->(∀i∈B,i∈A)->look (B.map λi=>(dI l i,Bn (β i))) (dI l j)=some (Bn (β j)):=by
   intro B
   induction B with
   |nil=>intro h;cases h
   |cons i B ihB =>
    intro h hBA;show(bif Nat.beq (dI l i) (dI l j)then some (Bn (β i))else look (B.map λi=>(dI l i,Bn (β i))) (dI l j))=_;cases e4:Nat.beq (dI l i) (dI l j)with
    |true=>rw[hinj i (hBA i w9) j hj (Nat.eq_of_beq_eq_true e4)];rfl
    |false =>
     rcases List.mem_cons.1 h with rfl | h
     ·simp at e4
     exact ihB h λi hi=>hBA i (by simp[hi])
  rw[this _ (List.mem_filter.2 ⟨hj,by simpa using hju⟩) (λi hi=>(List.mem_filter.1 hi).1)];exact ht
theorem OY{r:List Nat}(k:Nat){o:Oper}{γ:Type}{new:γ->Sl}{bs1:γ->List (Nat×Obj)}{G1:γ->Gs->Prop}(hok:okB l A r k=true)(hA:A.Nodup)(hinj:∀j∈A,∀k∈A,dI l j=dI l k->j=k)(hB:∀j∈A,Cx P N l j=true/\look m (dI l j)=none)
  (h0:bs0.Sublist bs) (hg0:∀F,G F->G0 F) (ho:l[k]?=some o) (hq:JX o.op=false) (hkA:k∉A) (hnew:∀c,∀j∈A,look (new c) (dI l j)=none)
  (hstep:∀(mX:Sl) (X:List (Nat×Obj)) (K:Act->World->Prop),(∀c a w,JO N (new c++(m++mX)) a->St ⟨w0,F0,X++bs1 c,G1 c⟩ w->K a w)->JD P l.toArray (XM K) ⟨w0,F0,bs0,G0⟩ [o] N (m++mX) ⟨w0,F0,X++bs,G⟩)
  (hk:∀c,KT P l Q (St ⟨w0,F0,bs0,G0⟩) A (r.erase k) N (new c++m) w0 F0 (bs1 c) (G1 c)):KT P l Q (St ⟨w0,F0,bs0,G0⟩) A r N m w0 F0 bs G:=by
 intro u;generalize hn:u.length=n
 induction n using Nat.strongRecOn generalizing u with
 |ind n ih =>
  intro β a w hu ha hx hw;have hoku:=List.all_eq_true.1 hok u hu;simp only[Bool.and_eq_true,Bool.not_eq_true']at hoku;obtain⟨⟨⟨⟨c1,c2⟩,c3⟩,c4⟩,c5⟩:=hoku;have hun:=VX hA hu;obtain⟨x,s,es⟩:=List.exists_cons_of_ne_nil (show Gq l r u≠[]from λe=>by rw[e]at c5;cases c5);rw[show(Gq l r u).length=s.length+1 by rw[es];rfl];unfold G9;rw[Option.isNone_iff_eq_none.1 c1];intro i hi hrd;have h2:=List.all_eq_true.1 c2 i (List.mem_filter.2 ⟨hi,hrd⟩);simp only[Bool.or_eq_true,List.contains_eq_mem,decide_eq_true_eq]at h2;have hlen:s.length=((Gq l r u).erase i).length:=by rw[List.length_erase_of_mem hi,es];rfl
  rw[hlen];by_cases hiu:i∈u
  ·have h3:=List.all_eq_true.1 c3 i hiu;simp only[Bool.and_eq_true,List.contains_eq_mem,decide_eq_true_eq,beq_iff_eq]at h3;rw[h3.1.2];refine FM hA hinj hB h0 hg0 hu hiu ha hx hw λβ' a' w' g1 g2 g3=>?_;exact ih _ (by rw[<-hn,List.length_erase_of_mem hiu];have:=List.length_pos_of_mem hiu;omega) (u.erase i) rfl β' a' w' h3.2 g1 g2 g3
  have eik:i=k:=Nat.eq_of_beq_eq_true (h2.resolve_left hiu);subst eik;rw[beq_iff_eq]at c4;rw[c4];refine Nn (r':=Gq l (r.erase i) u) (Q:=Q) (E0:=⟨w0,F0,bs0,G0⟩) ho hq (hstep (mxI l A u β) (y7 P l A u β) _ λc a' w' g1 g2=>?_) (λw h=>h.imp (h0.trans (List.sublist_append_right _ _)) hg0) (xo ha hx) hw;obtain⟨g3,g4⟩:=L8 hinj (λj hj=>(hB j hj).2) (hnew c) g1;exact hk c u β a' w' hu g3 g4 g2
def qtB(l:List Oper)(A r:List Nat)(j:Nat):Bool:=(WL A).all λu=>(Wu l (Gq l r u)==some j)&&((Gq l r u).erase j==Gq l (r.erase j) u)&&!(Gq l r u).isEmpty&&(Gq l r u).contains j
theorem yX{r:List Nat}(j:Nat){o:Oper}{d:Nat}{v:Value}(hok:qtB l A r j=true)(hinj:∀j∈A,∀k∈A,dI l j=dI l k->j=k)(hB:∀j∈A,look m (dI l j)=none)(h0:bs0.Sublist bs)(hg0:∀F,G F->G0 F)(ho:l[j]?=some o)(hq:JX o.op=true)(hnew:∀j∈A,look [(d,v)] (dI l j)=none)
  (hstep:∀(mX:Sl) (X:List (Nat×Obj)) (K:Act->World->Prop),(∀a w,JO N ((d,v)::(m++mX)) a->St ⟨w0,F0,X++bs,G⟩ w->K a w)->JD P l.toArray (XM K) ⟨w0,F0,bs0,G0⟩ [o] N (m++mX) ⟨w0,F0,X++bs,G⟩)
  (hk:KT P l Q (St ⟨w0,F0,bs0,G0⟩) A (r.erase j) N ((d,v)::m) w0 F0 bs G):KT P l Q (St ⟨w0,F0,bs0,G0⟩) A r N m w0 F0 bs G:=by
 intro u β a w hu ha hx hw;have hoku:=List.all_eq_true.1 hok u hu;simp only[Bool.and_eq_true,Bool.not_eq_true',beq_iff_eq,List.contains_eq_mem,decide_eq_true_eq]at hoku;obtain⟨⟨⟨c1,c2⟩,c3⟩,c4⟩:=hoku;obtain⟨x,s,es⟩:=List.exists_cons_of_ne_nil (show Gq l r u≠[]from λe=>by rw[e]at c3;cases c3);have hlen:s.length=((Gq l r u).erase j).length:=by rw[List.length_erase_of_mem c4,es];rfl
 rw[show(Gq l r u).length=s.length+1 by rw[es];rfl];unfold G9;rw[c1];have h:=hstep (mxI l A u β) (y7 P l A u β) (λa w=>G9 P l Q (St ⟨w0,F0,bs0,G0⟩) s.length ((Gq l r u).erase j) a w) (λa' w' g1 g2=>by
  obtain⟨g3,g4⟩:=L8 (nw:=[(d,v)]) hinj hB hnew g1;rw[hlen,c2];exact hk u β a' w' hu g3 g4 g2) (λw h=>h.imp (h0.trans (List.sublist_append_right _ _)) hg0) a w (xo ha hx) hw
 rcases h with ⟨_,v',h1,h2⟩ | ⟨h1,_⟩
 ·exact⟨o,v',ho,h1,h2⟩
 rw[hq]at h1;cases h1
theorem yY{r:List Nat}(i:Nat)(hf:QEa l (i::A) r i=true)(hA:(i::A).Nodup)(hinj:∀j∈i::A,∀k∈i::A,dI l j=dI l k->j=k)(hB:∀j∈i::A,Cx P N l j=true/\look m (dI l j)=none)
  (h0:bs0.Sublist bs) (hg0:∀F,G F->G0 F) {d:Nat} {z:Obj} (hd:dI l i=d) (hz:zI P l i=z) (hk:∀b,KT P l Q (St ⟨w0,F0,bs0,G0⟩) A r N ((d,.pointer (some ⟨b,0,none⟩))::m) w0 F0 ((b,z)::bs) G):KT P l Q (St ⟨w0,F0,bs0,G0⟩) (i::A) r N m w0 F0 bs G:=by
 subst hd hz;have hiA:=(List.nodup_cons.1 hA).1;intro u;generalize hn:u.length=n
 induction n using Nat.strongRecOn generalizing u with
 |ind n ih =>
  intro β a w hu ha hx hw;have hun:=VX hA hu;by_cases hiu:i∈u
  ·have hoku:=List.all_eq_true.1 hf u hu;simp only[Bool.or_eq_true,Bool.not_eq_true',List.contains_eq_mem,decide_eq_false_iff_not,hiu,not_true_eq_false,false_or,Bool.and_eq_true]at hoku;obtain⟨⟨⟨c1,c2⟩,c3⟩,c5⟩:=hoku;obtain⟨x,s,es⟩:=List.exists_cons_of_ne_nil (show Gq l r u≠[]from λe=>by rw[e]at c5;cases c5);rw[show(Gq l r u).length=s.length+1 by rw[es];rfl];unfold G9;rw[Option.isNone_iff_eq_none.1 c1];intro j hj hrd;have hju:=List.all_eq_true.1 c2 j (List.mem_filter.2 ⟨hj,hrd⟩);simp only[decide_eq_true_eq]at hju;have h3:=List.all_eq_true.1 c3 j hju;simp only[Bool.and_eq_true,List.contains_eq_mem,decide_eq_true_eq,beq_iff_eq]at h3;have hlen:s.length=((Gq l r u).erase j).length:=by rw[List.length_erase_of_mem hj,es];rfl
   rw[hlen,h3.1.2];refine FM hA hinj hB h0 hg0 hu hju ha hx hw λβ' a' w' g1 g2 g3=>?_;exact ih _ (by rw[<-hn,List.length_erase_of_mem hju];have:=List.length_pos_of_mem hju;omega) (u.erase j) rfl β' a' w' h3.2 g1 g2 g3
  have huA:u∈WL A:=by
   simp only[WL,List.mem_append,List.mem_map]at hu;rcases hu with ⟨v,_,rfl⟩ | hu
   ·exact absurd w9 hiu
   exact hu
  have hs:=hx i w9 hiu;refine hk (β i) u β a w huA ⟨ha.size,ha.df,λt v ht=>?_⟩ (λj hj hju=>hx j (by simp[hj]) hju) ?_
  ·have h':(bif Nat.beq (dI l i) t then some (Bn (β i))else look m t)=some v:=ht;cases e:Nat.beq (dI l i) t with
   |true=>rw[e]at h';exact hs.get t v (by rw[Vh,e];exact h')
   |false=>rw[e]at h';exact ha.get t v h'
  refine hw.perm ?_;unfold y7;rw[List.filter_cons,if_pos (by simpa using hiu),List.map_cons,List.cons_append];exact List.perm_middle.symm
theorem yW{r R:List Nat}(hm:Gq l r A=R)(h:KT P l Q (St ⟨w0,F0,bs0,G0⟩) A r N m w0 F0 bs G):JT P l Q ⟨w0,F0,bs0,G0⟩ R N m ⟨w0,F0,bs,G⟩:=by
 subst hm;intro _ a w ha hw;refine h A (λ_=>0) a w (R6 A) ha (λi hi hn=>absurd hi hn) ?_;have:y7 P l A A (λ_=>0)=[]:=by
  unfold y7;rw[List.filter_eq_nil_iff.2 (λi hi=>by simpa using hi)];rfl
 rw[this];exact hw
theorem pT(h:Fin Q .normal N m ⟨w0,F0,bs,G⟩)(hm:Gq l [] []=[]){S0:World->Prop}:KT P l (XM (Q .normal)) S0 [] [] N m w0 F0 bs G:=by
 intro u β a w hu ha hx hw;simp only[WL,List.mem_singleton]at hu;subst hu;rw[hm];exact h a w ha hw
def Hx(P:Program)(N:Nat)(l:List Oper)(A:List Nat):Bool:=A.all (λj=>Cx P N l j)&&A.all (λj=>A.all λk=>!(Nat.beq (dI l j) (dI l k))||Nat.beq j k)&&decide A.Nodup
def zO(l:List Oper)(m:Sl)(A:List Nat):Bool:=A.all λj=>!((m.map (·.1)).contains (dI l j))
theorem SS:∀ {m:Sl} {t:Nat},(m.map (·.1)).contains t=false->look m t=none
 |[],_,_=>rfl
 |(k,v)::m,t,h=>by
  rw[List.map_cons,List.contains_cons,Bool.or_eq_false_iff]at h;show(bif Nat.beq k t then some v else look m t)=none;have:Nat.beq k t=false:=by
   cases e:Nat.beq k t with
   |false=>rfl
   |true=>have:=Nat.eq_of_beq_eq_true e;subst this;simp at h
  rw[this];exact SS h.2
theorem VD(h:Hx P N l A=true)(hk:zO l m A=true):A.Nodup/\(∀j∈A,∀k∈A,dI l j=dI l k->j=k)/\∀j∈A,Cx P N l j=true/\look m (dI l j)=none:=by
 simp only[Hx,Bool.and_eq_true,decide_eq_true_eq]at h;obtain⟨⟨h1,h2⟩,h3⟩:=h;refine⟨h3,λj hj k hk e=>?_,λj hj=>⟨List.all_eq_true.1 h1 j hj,SS ?_⟩⟩
 ·have h4:=List.all_eq_true.1 (List.all_eq_true.1 h2 j hj) k hk;rw[e]at h4;simpa using h4
 have h4:=List.all_eq_true.1 hk j hj;simpa using h4
section
variable{A r:List Nat}{ty:TypeId}{pos:String}{aft:Array Edge}
theorem OZ(k:Nat){d:Nat}{f:FuncId}{args:Array Operand}{tys:Array TypeId}{vs:List Value}{γ:Type}{val:γ->Value}{fact:γ->Gs->Prop}(hok:okB l A r k=true)(hall:Hx P N l A=true)(hkey:zO l m A=true)(h0:bs0.Sublist bs)(hg0:∀F,G F->G0 F)
  (ho:l[k]?=some ⟨some d,.call ⟨.value (.func f),args,tys⟩,ty,pos,aft,none⟩) (hkA:A.contains k=false) (hdA:A.all (λj=>!(Nat.beq d (dI l j)))=true) (hv:∀mX,D2 (m++mX) args.toList=some vs) (hc:∀w F,Fits F w->G F->QQ P f vs w F val fact)
  (hk:∀c,KT P l Q (St ⟨w0,F0,bs0,G0⟩) A (r.erase k) N ((d,val c)::m) w0 F0 bs λF=>G F/\fact c F) (hd:Jq N (some d)=true:=by rfl):KT P l Q (St ⟨w0,F0,bs0,G0⟩) A r N m w0 F0 bs G:=by
 obtain⟨g1,g2,g3⟩:=VD hall hkey;refine OY (γ:=γ) (new:=λc=>[(d,val c)]) (bs1:=λ_=>bs) (G1:=λc F=>G F/\fact c F) k hok g1 g2 g3 h0 hg0 ho rfl (by simpa using hkA) (λc j hj=>?_) (λmX X K hK=>QV (hv mX) hc (λc=>LP (hK c)) hd) hk;have:=List.all_eq_true.1 hdA j hj;rw[Vh];simp only[Bool.not_eq_true']at this;rw[this];rfl
theorem QJg(j:Nat){d:Nat}{o:Op}{v:Value}(hok:qtB l A r j=true)(hall:Hx P N l A=true)(hkey:zO l m A=true)(h0:bs0.Sublist bs)(hg0:∀F,G F->G0 F)(ho:l[j]?=some ⟨some d,o,ty,pos,aft,none⟩)(hdA:A.all (λj=>!(Nat.beq d (dI l j)))=true)
  (hqt:∀mX,Qt P N (m++mX) (St ⟨w0,F0,bs0,G0⟩) o ty v) (hk:KT P l Q (St ⟨w0,F0,bs0,G0⟩) A (r.erase j) N ((d,v)::m) w0 F0 bs G) (hq:JX o=true:=by rfl) (hd:Jq N (some d)=true:=by rfl):KT P l Q (St ⟨w0,F0,bs0,G0⟩) A r N m w0 F0 bs G:=by
 obtain⟨g1,g2,g3⟩:=VD hall hkey;refine yX j hok g2 (λj hj=>(g3 j hj).2) h0 hg0 ho hq (λj hj=>?_) (λmX X K hK=>QI (hqt mX) (LP hK) hq hd) hk;have:=List.all_eq_true.1 hdA j hj;rw[Vh];simp only[Bool.not_eq_true']at this;rw[this];rfl
theorem Gf.skip{l r:List (Nat×Obj)}{b:Nat}{o:Obj}{f:Obj->List (Nat×Obj)}(h:Gf l b o f r):∀p:List (Nat×Obj),Gf (p++l) b o (λo'=>p++f o') (p++r)
 |[]=>h
 |_::p=>.there (h.skip p)
theorem yV(k:Nat){T T':TypeId}{x y:Operand}{v:Value}{b off n:Nat}{c vs l':List Value}{g:Bool}{f:Obj->List (Nat×Obj)}{bs':List (Nat×Obj)}(hok:okB l A r k=true)(hall:Hx P N l A=true)(hkey:zO l m A=true)(h0:bs0.Sublist bs)(hg0:∀F,G F->G0 F)
  (ho:l[k]?=some ⟨none,.store T x y,ty,pos,aft,none⟩) (hkA:A.contains k=false) (hx:∀mX,ev (m++mX) x=some (.pointer (some ⟨b,off,none⟩))) (hy:∀mX,ev (m++mX) y=some v) (hv:v.cells=vs.toArray) (ht:Zd P T=some (g,n)) (hn:vs.length=n)
  (hw:Gf bs b (.cells c.toArray T' (0,0)) f bs') (hs:bs0.Sublist bs') (hp:KC c off vs l') (h1:PF vs) (hk:KT P l Q (St ⟨w0,F0,bs0,G0⟩) A (r.erase k) N m w0 F0 (f (.cells l'.toArray T' (0,0))) G) (hu:Vy T'=true:=by rfl):KT P l Q (St ⟨w0,F0,bs0,G0⟩) A r N m w0 F0 bs G:=by
 obtain⟨g1,g2,g3⟩:=VD hall hkey;exact OY (γ:=Unit) (new:=λ_=>[]) (bs1:=λ_=>f (.cells l'.toArray T' (0,0))) (G1:=λ_=>G) k hok g1 g2 g3 h0 hg0 ho rfl (by simpa using hkA) (λ_ j hj=>rfl)
  (λmX X K hK=>Ju (hx mX) (hy mX) hv ht hn (hw.skip X) (hs.trans (List.sublist_append_right _ _)) hg0 hp h1 (LP (hK ())) hu) λ_=>hk
theorem QBh(i:Nat)(hf:QEa l (i::A) r i=true)(hall:Hx P N l (i::A)=true)(hkey:zO l m (i::A)=true)(h0:bs0.Sublist bs)(hg0:∀F,G F->G0 F){d:Nat}{z:List Value}{T:TypeId}(hd:dI l i=d)(ht:tI l i=T)(hz:J1 P T=some z)
  (hk:∀b,KT P l Q (St ⟨w0,F0,bs0,G0⟩) A r N ((d,.pointer (some ⟨b,0,none⟩))::m) w0 F0 ((b,.cells z.toArray T (0,0))::bs) G):KT P l Q (St ⟨w0,F0,bs0,G0⟩) (i::A) r N m w0 F0 bs G:=by
 obtain⟨g1,g2,g3⟩:=VD hall hkey;exact yY i hf g1 g2 g3 h0 hg0 hd (by unfold zI;rw[ht,hz];rfl) hk
end
end
end
def QAl{z v:Value}{n:Nat}(h:vs.length=i)(hi:i<n):KC (vs++JL [z] (n-i)) (0+i*1+0) [v] ((vs++[v])++JL [z] (n-(i+1))):=by
 rw[show n-i=(n-(i+1))+1 by omega,JL,List.append_assoc,show 0+i*1+0=vs.length by omega];exact Fb I
section
variable[Dr][df:Df]{P:Program}{Q:Exit->Act->World->Prop}{N:Nat}{m:Sl}{E:Env}
theorem QCS(h:J P c (Exit.noGoto Q) N m E):J P (.scope c) Q N m E:=λa w ha hw=>wp_scope_straight (h a w ha hw)
theorem QCT{l:Nat}(h:Fin Q .normal N m E):J P (.label l) Q N m E:=λa w ha hw=>wp_label (h a w ha hw)
theorem QIX(h:Fin Q .ret N m E):Fin (Exit.noGoto Q) .ret N m E:=h
end
theorem dK{n c f:Nat}{l:List (Fr×Rat)}{p:(Fr×Rat)->Bool}{c1 c2:List Value}{G0:Gs->Prop}(hF:Fits F w)(hg:∀F F',Gs.le F F'->G0 F->G0 F')(h0:G0 F)(hR:Qu F q n 4 (l.flatMap λe=>S2 e.1))(hn:l.length=n)(hb:n<=1000000)(hc:∀e∈l,∀w F,Fits F w->G0 F->QY prog f (c1++[e.1.v]++c2) w F (.bool (p e))):QQ prog 75 [.slice q n c,.func (.func f) c1.toArray c2.toArray] w F (λ(k:Int)=>.int .i64 k) (λk _=>decide (k>=0)=l.any p):=by
 refine QQ.intro (G:=λF=>G0 F/\Qu F q n 4 (l.flatMap λe=>S2 e.1)) func75 rfl w8 rfl rfl hF (λF' hF'=>⟨hg F F' hF' h0,hR.le hF'⟩)<|QKt<|wR rfl<|QG<|wS rfl<|QA (QW rfl We)<|QJj rfl<|QJi<|QO<|Jo (ι:=V4 l p) [(0,_),(1,_),(7,_)] (λi=>[(8,.int .i64 ((i.i:Nat):Int))]) (λi=>l.length-i.i) (V4.start _ _) wV wT λi=>?_
 have hi:=i.le;refine wA 6 I ?_;refine QL I (λhc2=>?_) λhc2=>?_
 ·have hlt:i.i<l.length:=wm<|QK8 hc2
  have hem:=Ql hlt;refine QLj 15 I<|QA (Qo (n:=n) i.i tE rfl rfl We JA O)<|QA (JG (n:=n) (vs:=[.int .i64 (el l i.i).1.n.s,.slice (el l i.i).1.n.q (el l i.i).1.n.n (el l i.i).1.n.cap,.int .i64 (el l i.i).1.d.s,.slice (el l i.i).1.d.q (el l i.i).1.d.n (el l i.i).1.d.cap]) ((i.i)*4) tE O rfl JA I λj v hv=>Q4 (f:=(λe=>S2 e.1)) (l:=l) (λ_=>rfl) O hv)<|GU (c1:=c1) (c2:=c2) rfl rfl (λw F f k=>hc _ hem w F f k.1) λ_=>QF<|QC ?_
  refine QL I (λhc2=>?_) λhc2=>?_
  ·have hc16:=hc2;refine wA 6 I<|X6 ?_
   exact QM (((i.i:Nat):Int)) I (wO I) (rfl) λF _=>by rw[decide_eq_true O,List.any_eq_true.2 ⟨_,hem,hc16⟩]
  have hc16:=hc2;refine QK<|Qa<|QC<|QB<|QA (Qk I I O)<|wB 2 I ?_
  exact Qb (i.next hlt hc16) (by show l.length-(i.i+1)<l.length-i.i;omega)
 have hge:l.length<=i.i:=wm<|QK9 hc2
 refine Q7 ?_;refine wA 6 I ?_;exact QM ((-1:Int)) I (wO I) (rfl) λF _=>by rw[Bool.eq_false_iff.2 (i.stop hge)];rfl
theorem cV{n c f:Nat}{l:List (Fr×Rat)}{p:(Fr×Rat)->Bool}{c1 c2:List Value}{G0:Gs->Prop}(hF:Fits F w)(hg:∀F F',Gs.le F F'->G0 F->G0 F')(h0:G0 F)(hR:Qu F q n 4 (l.flatMap λe=>S2 e.1))(hn:l.length=n)(hb:n<=1000000)(hc:∀e∈l,∀w F,Fits F w->G0 F->QY prog f (c1++[e.1.v]++c2) w F (.bool (p e))):QY prog 36 [.slice q n c,.func (.func f) c1.toArray c2.toArray] w F (.bool (l.any p)):=by
 refine QQ.intro (G:=λF=>G0 F/\Qu F q n 4 (l.flatMap λe=>S2 e.1)) func36 rfl w8 rfl rfl hF (λF' hF'=>⟨hg F F' hF' h0,hR.le hF'⟩)<|QKt<|wR rfl<|wS rfl<|QJj rfl<|QJ rfl (λ_ _ f k=>dK (p:=p) f hg k.1 k.2 hn hb hc) λc7=>JM _ (λ_ _ f h=>h.2) λh7=>QA (QR rfl rfl rfl)<|wR rfl<|QT ?_
 exact QL3 I I (congrArg Value.bool h7.symm) tB
structure ASy where
 nm:Sr
 nl:List (List UInt8)
 rt:Sr
 rl:List Y1
 st:Sr
 sl:List (List UInt8×List UInt8)
theorem qh{a:List UInt8}{d:Int}(hF:Fits F w)(hd:0<=d/\d<=1000):QY prog 107 [tx a,.int .i64 d] w F (.bool (D4 a d)):=by
 have hn:=CK a;refine QQ.go (G:=λF=>True) func107 hF trivial ?_;refine wA 8 I<|QA (Jx I Wd)<|QJj I<|QA (VN I I O)<|QA (Qk I I O)<|wB 2 I ?_
 refine Qn (t:=11) rfl (λhb11=>?_) λhb11=>?_
 ·have hl:a.length<=1000000:=by have h1:=QK8 hb11;omega
  refine wB 3 I<|QJ I (λ_ _ f k=>j5 f (hl)) λ_=>wB 4 I ?_
  refine Qn (t:=16) rfl (λhb16=>?_) λhb16=>?_
  ·refine wB 3 I<|QJ I (λ_ _ f k=>jt f O) λ_=>QP I I<|QJ I (λ_ _ f k=>xB f ) λ_=>QP I I<|QA (Jx I Wd)<|wB 6 I ?_
   refine Qn (t:=24) rfl (λhb24=>?_) λhb24=>?_
   ·refine wB 3 I<|QJ I (λ_ _ f k=>j4 f O) λ_=>QP I I<|QA (Jx I Wd)<|QLi 9 I ?_
    exact QL3 I I ((congrArg Value.bool (by have h1:=QK8 hb11;simp[D4,h1];simp at hb16 hb24;simp[hb16,hb24]))) tB
   refine QLi 10 I ?_;exact QL3 I I ((congrArg Value.bool (by have h1:=QK8 hb11;simp[D4,h1];simp at hb16 hb24;simp[hb16];intro g;omega))) tB
  refine QLi 18 I ?_;exact QL3 I I ((congrArg Value.bool (by have h1:=QK8 hb11;simp at hb16;simp[D4,h1,hb16]))) tB
 refine QLi 23 I ?_;exact QL3 I I ((congrArg Value.bool (by simp[D4,hb11]))) tB
def Ww(r:Rat):Jc (Q6 r)=r:=by
 unfold Jc Q6;by_cases h:r.den=1
 ·rw[if_pos h,EP (VT _)];dsimp only;rw[if_neg wv,ZT];have:=Rat.mkRat_self r;rw[h,Rat.mkRat_one]at this;exact this
 rw[if_neg h,HZ (VT _)];dsimp only;rw[if_pos rfl,ZT,Jg];exact Rat.mkRat_self r
def LH{n:Nat}{l:List UInt8}(h:JF l≠n):¬Lib.decDigits n=l:=λe=>h (by rw[<-e,Jg])
def ER{r:Rat}(h:Xo r=false):Q9 (Q6 r)=0:=by
 unfold Xo D7 at h;rw[Bool.or_eq_false_iff]at h;have h1:=QK9 h.1;have h2:=QK9 h.2;have ln:¬600<(Lib.decDigits r.num.natAbs).length:=λe=>h1 ((TX _).1 e);have ld:¬600<(Lib.decDigits r.den).length:=λe=>h2 (by rw[Int.natAbs_natCast];exact(TX _).1 e);have hneg:(Lib.hasPrefix (XZ r.num) [45]&&Lib.decDigits r.num.natAbs==[48])=false:=by
  by_cases g:r.num<0
  ·have:¬Lib.decDigits r.num.natAbs=[48]:=LH (by show 0≠_;omega);rw[beq_false_of_ne this,Bool.and_false]
  rw[Je O,Yb (JN _)];rfl
 unfold Q9 Q6;by_cases hd:r.den=1
 ·rw[if_pos hd,EP (VT _)];dsimp only;unfold WU FI;rw[VQ,Bb,hneg,decide_eq_false ln];simp
 rw[if_neg hd,HZ (VT _)];dsimp only;unfold WU FI;have h0:¬Lib.decDigits r.den=[48]:=LH (by show 0≠_;have:=r.den_nz;omega);have h9:¬Lib.decDigits r.den=[49]:=LH (by show 1≠_;omega);have hg:Nat.gcd r.num.natAbs r.den=1:=r.reduced;rw[VQ,Bb,Bb,hneg,decide_eq_false ln,decide_eq_false ld,Jg,Jg,hg,beq_false_of_ne h0,beq_false_of_ne h9];simp
theorem Wv{r:Rat}(h:XH r<=k)(hk:k<=1800):Xo r=false:=by
 unfold Xo D7;have a:∀z:Int,sz z<=k->decide (lim<=z.natAbs)=false:=λz hz=>by
  have h1:=(XA z 1800).1 O;have h2:=OC;refine decide_eq_false λe=>?_;exact absurd (Nat.lt_trans (Nat.lt_of_le_of_lt e h1) h2) (Nat.lt_irrefl _)
 rw[a _ (Nat.le_trans (JU r) h),a _ (Nat.le_trans (JQ r) h)];rfl
theorem RO{p1:Tmp}{r:Loop}(h:F9 N m #[p1] assign body r)(v1:Value)(h1:p1<N):JO (df:=KB) N ((p1,v1)::m) (Bk r #[v1]):=by
 have e:Bk r #[v1]=(({ tmps:=r.tmps,defers:=[] }:Act).put (some p1) v1):=by
  unfold Bk;rw[h.params];simp[Act.put]
 rw[e];exact h.uK.put (d:=some p1) (by simpa[Jq]using h1) v1
theorem HK(h:Qz l=0):∀x∈l,x=0:=by
 induction l with
 |nil=>intro x hx;cases hx
 |cons a l ih =>
  intro x hx;unfold Qz at h;by_cases g:a=0
  ·rw[if_pos g]at h;rcases List.mem_cons.1 hx with rfl | hx
   ·exact g
   exact ih h x hx
  rw[if_neg g]at h;exact absurd h g
theorem Dc(h:∀x∈l,x=0):Qz l=0:=by
 induction l with
 |nil=>rfl
 |cons a l ih=>unfold Qz;rw[if_pos (h a w9)];exact ih λx hx=>h x (by simp[hx])
def RD(rs:List (List Tm))(p:List Tm):Nat->List Tm
 |0=>J3 (YM 0 p)
 |k+1=>J3 (RD rs p k++J3 (XL (J3 (YM (k+1) p)) (el rs k)))
instance :Inhabited Sr:=⟨⟨none,0,0⟩⟩
structure NtJ(n:Nat) where
 i:Nat
 le:i<=n
def yp(xs:List (Fr×Rat)):List (List UInt8):=xs.map λp=>Q6 p.2
def jq(h:i<xs.length):(yp (xs.take (i+1))).map tx=(yp (xs.take i)).map tx++[tx (Q6 (el xs i).2)]:=by rw[XF h];simp[yp]
def vZ(h:i<=xs.length):((yp (xs.take i)).map tx).length=i:=by simp[yp];omega
def vp{z v:Value}{n:Nat}(h:vs.length=i)(hi:i<n):KC (vs++JL [z] (n-i)) (0+i*1) [v] ((vs++[v])++JL [z] (n-(i+1))):=QAl h hi
theorem xi{n c:Nat}(hF:Fits F w)(hGl:JZ F)(hR:Qu F q n 4 (H7 xs))(hX:BA F xs)(hn:xs.length=n)(hl:n<=1000000)(hz:∀p∈xs,XH p.2<=100000000):
  QQ prog 37 [.slice q n c] w F (λ(c:Sr)=>c.v) (λc F=>Qu F c.q c.n 1 ((yp xs).map tx)/\c.n=n/\c.n<=c.cap):=by
 refine QQ.go (G:=λF=>JZ F/\Qu F q n 4 (H7 xs)/\BA F xs) func37 hF ⟨hGl,hR,hX⟩ ?_;refine wA 8 I<|QA (QW I We)<|Y8 (n:=n) (bytes:=16) rfl rfl YI JP yk I kj O O λbk=>Vp (E':=⟨w,F,[(bk,.cells ((yp (xs.take 0)).map tx++JL [tx []] (n-0)).toArray 45 (0,0))],λF=>JZ F/\Qu F q n 4 (H7 xs)/\BA F xs⟩) tC<|QLi 7 I<|QA (QW I We)<|QLi 4 I<|ZH (ι:=NtJ xs.length) [(3,_),(9,_),(10,_)] (λi=>[(11,.int .i64 ((i.i:Nat):Int))]) (λi=>[(bk,.cells ((yp (xs.take i.i)).map tx++JL [tx []] (n-i.i)).toArray 45 (0,0))]) (λi F=>True) (λi=>xs.length-i.i) (⟨0,Nat.zero_le _⟩) wV wT λi=>?_
 have hi:=i.le;refine wA 6 I ?_;refine QL I (λhc2=>?_) λhc2=>?_
 ·have hlt:i.i<xs.length:=wm<|QK8 hc2
  have hem:=Ql hlt;refine QLj 7 I<|QA (Qo (n:=n) i.i (λF h9=>h9.1.2.1) rfl rfl We JA O)<|QA (JG (n:=n) (vs:=[.int .i64 (el xs i.i).1.n.s,.slice (el xs i.i).1.n.q (el xs i.i).1.n.n (el xs i.i).1.n.cap,.int .i64 (el xs i.i).1.d.s,.slice (el xs i.i).1.d.q (el xs i.i).1.d.n (el xs i.i).1.d.cap]) ((i.i)*4) (λF h9=>h9.1.2.1) O rfl JA I λj v hv=>Q4 (f:=(λe=>S2 e.1)) (l:=xs) (λ_=>rfl) O hv)<|Qe VU λb5=>QJk I<|QS (vs:=[_,_,_,_]) I I I JA I .here .h4 wW<|QLi 5 I<|QA (wJ I JA .here)<|QJ I (λ_ _ f k=>Mu f k.1.1 (k.1.2.2 _ hem) (hz _ hem)) λ_=>QA (Qj (i:=i.i) rfl rfl YI JP O)<|QS (vs:=[tx (Q6 (el xs i.i).2)]) I I I JP I .u1 (vp (vZ O) O) wT<|QF<|Qa<|QC<|QB<|QA (Qk I I O)<|wB 2 I ?_
  exact Qb (⟨i.i+1,hlt⟩) (hb:=(by rw[jq hlt];exact .cons _ QJ3))
 have hge:i.i=xs.length:=by have:=QK9 hc2;have:=i.le;omega
 refine Q7 ?_;refine QG<|QB ?_
 have hzz:JL [tx []] (n-i.i)=[]:=by rw[show n-i.i=0 from by omega];rfl
 rw[hzz,List.append_nil,hge,List.take_length];refine B8 (b:=bk) .here<|QLi 5 I ?_
 exact QM ((⟨some ⟨bk,0,none⟩,n,n⟩:Sr)) I (wO I) (rfl) λF h9=>⟨Qu.of h9.2 (by simp[yp];omega),rfl,Nat.le_refl _⟩
def BA.snoc{c:Fr}{x:Rat}(h:BA F xs)(k:Jl F c x):BA F (xs++[(c,x)]):=λp hp=>by
 rcases List.mem_append.1 hp with hp | hp
 ·exact h p hp
 rw[List.mem_singleton.1 hp];exact k
instance :Inhabited (List UInt8×List UInt8):=⟨([],[])⟩
theorem QA7{Q:Nat}(h0:0<Q)(hd:(k+1) ∣ Q):Cl Q 1 0 ((((k+1:Nat):Int):Rat)⁻¹):=by
 obtain⟨q,rfl⟩:=hd;have hq:0<q:=Nat.pos_of_ne_zero (by rintro rfl;simp at h0);refine⟨q,?_,?_⟩
 ·rw[Nat.pow_one,Int.natCast_mul];have e:Rat.divInt (q:Int) (((k+1:Nat):Int)*(q:Int))=Rat.divInt (1*(q:Int)) (((k+1:Nat):Int)*(q:Int)):=by rw[Int.one_mul]
  rw[e,Rat.divInt_mul_right O,Rat.divInt_eq_div,Rat.div_def,Rat.intCast_one,Rat.one_mul]
 rw[Nat.pow_one,Int.natAbs_natCast,Nat.pow_zero,Nat.one_mul];exact Nat.le_mul_of_pos_left _ O
def Q0:Nat:=2^64*720720
def QBe:0<Q0:=wy
def R1:List (List Tm):=([[([49],[0,1])]]:List Pt).map WK
def QA8:∀k,k<16->Cl Q0 1 0 ((((k+1:Nat):Int):Rat)⁻¹):=λk hk=>QA7 QBe (Nat.dvd_of_mod_eq_zero ((by decide +kernel:∀k,k<16->Q0%(k+1)=0) k hk))
end Go.Proofs.YteldggljlnakmaaGreatDoor
