/- Steps of the proof of the theorem in the last file. -/
import Derived.Test.YteldggljlnakmaaGreatDoorP1
import Derived.MapKept
import Derived.Maps.RangeRun
import Derived.Lib.ItoaLen
import Derived.Shelf.SlSortCmp.PdqK
import Derived.Ground.SlsfProg
import Derived.Test.YteldggljlnakmaaGreatDoorProg
import Derived.Sort.AssemblyPlain
import Derived.Shelf.SlSortCmp.NoneTotal
set_option linter.all false
set_option maxHeartbeats 4000000
open Go.Proofs.Tryz
namespace Go.Proofs.YteldggljlnakmaaGreatDoor
variable{a b l o u:List Int}{c i j k m:Nat}{w:World}{F F':Gs}{ra rb:Sr}{x y:Operand}{s:List UInt8}{cs news rest:List Value}{α ι:Type}{T e et kt yT:TypeId}{q:Option Addr}{f z zx:Int}{P:Program}{seen:List Nat}
open Go.RowKit Ig
def ES(h:k<o.length):(o.map Qs)[0+k*1]?=some (.int .i64 (Qc o k)):=by
 rw[ZY h];simp[h,Qs]
def JH(h:k<o.length):(o.map Qs)[k*1]?=some (.int .i64 (Qc o k)):=by
 rw[ZY h];simp[h,Qs]
theorem WY(h:k<o.length)(x:Int):KC (o.map Qs) (0+k*1) [.int .i64 x] ((o.set k x).map Qs):=by
 have:=KC.one (l:=o.map Qs) (n:=0+k*1) (v:=.int .i64 x) (by simpa using h);simpa[List.map_set,Qs]using this
structure QE3(a b:List Int) where
 i:Nat
 o:List Int
 le:i<=a.length
 h:Hf a b i 0 0 o 0
structure QE2(a b:List Int)(i:Nat) where
 j:Nat
 o:List Int
 c:Int
 le:j<=b.length
 h:Hf a b i j (Qc a i) o c
theorem Wz(hF:Fits F w)(hA:JJ F ra a)(hB:JJ F rb b)(da:DG B9 a)(db:DG B9 b)(la:a.length<=100000000)(lb:b.length<=100000000):
  Eb prog 229 [ra.v,rb.v] w F (λl=>dv B9 l=dv B9 a*dv B9 b/\NZ l/\l.length<=a.length+b.length):=by
 obtain⟨q,n,c⟩:=ra;obtain⟨q',n',c'⟩:=rb;have na:=hA.2.1;have nb:=hB.2.1;dsimp only at na nb;have h9:B9=1000000000:=rfl;refine QQ.go (G:=λF=>JJ F ⟨q,n,c⟩ a/\JJ F ⟨q',n',c'⟩ b) func229 hF ⟨hA,hB⟩ ?_;dsimp only[Sr.v];refine wA 8 I<|QA (QW I Qd)<|QJj I<|QA (QW I Qd)<|QA (Qk I I O)<|Y8 (n:=n+n') (bytes:=8) rfl rfl Qd QZ Hj I Ws O O λbk=>?_
 rw[show JL [Value.int .i64 0] (n+n')=(List.replicate (a.length+b.length) (0:Int)).map Qs by rw[Zl,na,nb];simp[Qs]];refine QLi 10 I ?_;refine KK (ι:=QE3 a b) (λi=>[(0,.slice q n c),(1,.slice q' n' c'),(5,.slice (some ⟨bk,0,none⟩) (n+n') (n+n')),(6,.int .i64 (i.i:Int))]) (λi=>[(bk,.cells (i.o.map Qs).toArray 3 (0,0))]) (λ_ F=>JJ F ⟨q,n,c⟩ a/\JJ F ⟨q',n',c'⟩ b) (λi=>a.length-i.i)
  ⟨0,_,Nat.zero_le _,Hf.start a b⟩ wW QJ3 tC λi=>?_
 have hile:=i.le;refine wA 5 I<|QA (QW I Qd)<|QLi 3 I ?_
 refine QL I (λhc=>?_) λhc=>?_
 ·have hi:i.i<n:=wm<|QK8 hc
  have hia:i.i<a.length:=O;refine Xy _ (λ_ _ f h=>h.1.1.ptr (by dsimp only;omega)) (λhq=>?_);obtain⟨qb,qo,hq⟩:=hq;dsimp only at hq;subst hq;refine QLj 16 I ?_;refine KK (ι:=QE2 a b i.i) (λi2=>[(0,.slice (some ⟨qb,qo,none⟩) n c),(1,.slice q' n' c'),(5,.slice (some ⟨bk,0,none⟩) (n+n') (n+n')),(6,.int .i64 (i.i:Int)),(7,.int .i64 i2.c),(8,.int .i64 (i2.j:Int))]) (λi2=>[(bk,.cells (i2.o.map Qs).toArray 3 (0,0))]) (λ_ F=>JJ F ⟨some ⟨qb,qo,none⟩,n,c⟩ a/\JJ F ⟨q',n',c'⟩ b) (λi2=>b.length-i2.j)
   ⟨0,i.o,0,Nat.zero_le _,i.h.next _⟩ wY QJ3 tC λi2=>?_
  have hjle:=i2.le;have hol:i2.o.length=a.length+b.length:=i2.h.1;have hcc:=i2.h.2.2.2.1;refine wA 5 I<|QA (QW I Qd)<|QLi 3 I ?_
  refine QL I (λhc=>?_) λhc=>?_
  ·have hj:i2.j<n':=wm<|QK8 hc
   have hjb:i2.j<b.length:=O;have hko:i.i+i2.j<i2.o.length:=O;have bx:=da.Qc JE i.i;have by':=db.Qc JE i2.j;have bo:=i2.h.2.1.Qc JE (i.i+i2.j);have bd:=OA bx by' bo hcc;have hst:=i2.h.step bx db hjb hia rfl;refine Xy _ (λ_ _ f h=>h.2.1.ptr (by dsimp only;omega)) (λhq=>?_);obtain⟨qb',qo',hq⟩:=hq;dsimp only at hq;subst hq;refine QLj 5 I<|JC QJ3 mixed wu<|QI (QD I)<|QI (QD I)<|QI (QD I)<|QI (Qk I I O)<|QI (Qj (i:=i.i+i2.j) rfl rfl Qd QZ O)<|QI (Xm (c:=i2.o.map Qs) (T':=3) rfl QZ .here (ES hko))<|QI (QD I)<|QI (QD I)<|QI (Qj (i:=i.i) rfl rfl Qd QZ O)<|QI (XY (n:=n) (sz:=1) (cs:=a.map Qs) rfl QZ (λF h=>h.1.1) O (JH hia))<|QI (QD I)<|QI (QD I)<|QI (Qj (i:=i2.j) rfl rfl Qd QZ O)<|QI (XY (n:=n') (sz:=1) (cs:=b.map Qs) rfl QZ (λF h=>h.2.1) O (JH hjb))<|QI (VN I I O)<|QI (Qk I I O)<|QI (QD I)<|QI (Qk I I O)<|QI (QE I)<|Qv<|QLk 6 I<|QA (Qk I I O)<|QJj I<|QA (Kr I I O O)<|QA (Qj (i:=i.i+i2.j) rfl rfl Qd QZ O)<|QS (vs:=[_]) I I I QZ I .here (WY hko _) wT<|QLi 4 I ?_
   refine QA (WO I I O O O)<|wB 2 I<|Qa<|QLk 3 I<|QA (Qk I I O)<|wB 2 I ?_
   exact Qb (⟨i2.j+1,i2.o.set (i.i+i2.j) _,_,O,hst⟩:QE2 a b i.i)
  have hjn:i2.j=b.length:=wm<|QK9 hc
  have hko2:i.i+n'<i2.o.length:=O;have hrow:Hf a b (i.i+1) 0 0 (i2.o.set (i.i+n') i2.c) 0:=by
   have e:=i2.h;rw[hjn]at e;have:=e.row hia rfl
   rwa [nb]at this
  have hz:Qc i2.o (i.i+n')=0:=i2.h.2.2.1 _ O;refine Q7 ?_;refine wA 4 I<|QA (QW I Qd)<|QA (Qk I I O)<|wB 3 I<|QA (QW I Qd)<|QA (Qk I I O)<|QA (Qj (i:=i.i+n') rfl rfl Qd QZ O)<|QA (Xm (c:=i2.o.map Qs) (T':=3) rfl QZ .here (ES hko2))<|QJj I<|QA (Qk I I O)<|QA (Qj (i:=i.i+n') rfl rfl Qd QZ O)<|QS (vs:=[_]) I I I QZ I .here (WY hko2 _) wT<|QF<|Qa<|QLk 3 I<|QA (Qk I I O)<|wB 2 I ?_
  exact Qb (⟨i.i+1,i2.o.set (i.i+n') i2.c,O,hrow⟩:QE3 a b) (hb:=by rw[hz,Int.zero_add];exact List.Sublist.refl _)
 refine Q7 ?_;refine QG ?_;have hex:a.length<=i.i:=wm<|QK9 hc
 have hol:i.o.length=a.length+b.length:=i.h.1;have hr:Qp 3 1 (.slice (some ⟨bk,0,none⟩) (n+n') (n+n')) (n+n') (i.o.map Qs) [(bk,.cells (i.o.map Qs).toArray 3 (0,0))]:=by
  have:=Qp.some (T:=3) (sz:=1) (b:=bk) (n:=n+n') (cap:=n+n') (l:=i.o.map Qs) (rest:=[]) tA tA (Nat.le_refl _) (Nat.le_trans (show n+n'<=200000000 by omega) wv);simpa using this
 obtain⟨r,hv,hrn,hrc,hfix⟩:=Qp.fix (w0:=w) (F0:=F) (bs1:=[]) (G:=λF=>JJ F ⟨q,n,c⟩ a/\JJ F ⟨q',n',c'⟩ b) hr;have hlz:=Xn i.o;refine Hh hfix ?_;rw[hv];refine wA 2 I<|QJ I (λ_ _ f k=>Wy (r:=r) (l:=i.o) f ⟨by rw[hrn];exact k.2,by rw[hrn];omega,O⟩ O) λc71=>wR I<|QT ?_
 exact QM ((⟨r.q,(Q3 i.o).length,r.cap⟩,Q3 i.o):Sr×List Int) rfl (wO I) rfl λF h=>⟨h.2,i.h.2.1.Q3,by show dv B9 (Q3 i.o)=_;rw[XB];exact i.h.stop hex,Xi _,by show(Q3 i.o).length<=_;omega⟩
structure QFC(a:List Int)(d:Int) where
 k:Nat
 o:List Int
 r:Int
 le:k<=a.length
 len:o.length=a.length
 dg:DG B9 o
 r0:0<=r
 r1:r<d
 h:dv B9 (a.drop k)=d*dv B9 (o.drop k)+r
theorem set_drop{p:Nat}(h:p<o.length)(v:Int):(o.set p v).drop p=v::o.drop (p+1):=by
 simp_all[List.drop_eq_getElem_cons,congr,List.drop_set_of_lt]
theorem pB{r d x:Int}(r0:0<=r)(r1:r<d)(hd:d<B9)(hx:0<=x/\x<B9):0<=r*B9+x/\0<=(r*B9+x)/d/\(r*B9+x)/d<B9/\0<=(r*B9+x)%d/\(r*B9+x)%d<d:=by
 have h0:0<=r*B9:=Int.mul_nonneg r0 wv;refine⟨O,Int.ediv_nonneg O O,Int.ediv_lt_of_lt_mul O ?_,Int.emod_nonneg _ O,Int.emod_lt_of_pos _ O⟩;have h1:(r+1)*B9<=d*B9:=Int.mul_le_mul_of_nonneg_right O wv
 grind
theorem QBQ{d r s:Int}{p:Nat}(hp:p<a.length)(ho:p<o.length)(h:dv B9 (a.drop (p+1))=d*dv B9 (o.drop (p+1))+r)(hs:s=r*B9+Qc a p):
  dv B9 (a.drop p)=d*dv B9 ((o.set p (s/d)).drop p)+s%d:=by
 rw[set_drop ho,List.drop_eq_getElem_cons hp,<-ZY hp];simp;have e:=Int.emod_add_mul_ediv s d
 grind
theorem Em{d:Int}(hF:Fits F w)(hA:JJ F ra a)(da:DG B9 a)(la:a.length<=100000000)(d0:0<d)(d1:d<B9):
  QQ prog 227 [ra.v,.int .i64 d] w F (λ(c:(Sr×List Int)×Int)=>.tuple [.slice c.1.1.q c.1.1.n c.1.1.cap,.int .i64 c.2].toArray) (λc F=>JJ F c.1.1 c.1.2/\DG B9 c.1.2/\NZ c.1.2/\0<=c.2/\c.2<d/\dv B9 a=d*dv B9 c.1.2+c.2/\c.1.2.length<=a.length):=by
 obtain⟨q,n,c⟩:=ra;have na:=hA.2.1;dsimp only at na;have h9:B9=1000000000:=rfl;refine QQ.go (G:=λF=>JJ F ⟨q,n,c⟩ a) func227 hF hA ?_;dsimp only[Sr.v];refine wA 9 I<|QA (QW I Qd)<|Y8 (n:=n) (bytes:=8) rfl rfl Qd QZ Hj I Ws O O λbk=>?_
 rw[show JL [Value.int .i64 0] n=(List.replicate a.length (0:Int)).map Qs by rw[Zl,na];simp[Qs]];refine QLi 12 I<|QA (QW I Qd)<|QA (Jk I I O)<|wR I<|QO ?_
 refine KK (ι:=QFC a d) (λi=>[(0,.slice q n c),(1,.int .i64 d),(6,.slice (some ⟨bk,0,none⟩) n n),(7,.int .i64 i.r),(8,.int .i64 ((i.k:Int)-1))]) (λi=>[(bk,.cells (i.o.map Qs).toArray 3 (0,0))]) (λ_ F=>JJ F ⟨q,n,c⟩ a) (λi=>i.k)
  ⟨n,List.replicate a.length 0,0,O,w9,DG.replicate JE _,Int.le_refl _,d0,by rw[List.drop_eq_nil_of_le O,List.drop_eq_nil_of_le tA];simp[dv]⟩ wX QJ3 tC λi=>?_
 have hile:=i.le;have hol:=i.len;have hr0:=i.r0;have hr1:=i.r1;refine wA 7 I ?_;refine QL I (λhc=>?_) λhc=>?_
 ·have hk0:0<i.k:=wm<|QK8 hc
  have hka:i.k-1<a.length:=O;have hko:i.k-1<i.o.length:=O;have bx:=da.Qc JE (i.k-1);have bd:=pB hr0 hr1 d1 bx;rw[h9]at bd;have hst:=QBQ (d:=d) (r:=i.r) (s:=i.r*1000000000+Qc a (i.k-1)) hka hko (by rw[show i.k-1+1=i.k by omega];exact i.h) rfl;refine Xy _ (λ_ _ f h=>h.1.ptr (by dsimp only;omega)) (λhq=>?_);obtain⟨qb,qo,hq⟩:=hq;dsimp only at hq;subst hq;refine QLj 7 I<|QA (VN I I O)<|wB 2 I<|QA (Qj (i:=i.k-1) rfl wN Qd QZ O)<|QA (XY (n:=n) (sz:=1) (cs:=a.map Qs) rfl QZ tD O (JH hka))<|QA (Qk I I O)<|QLi 9 I<|QA (WO I I O O O)<|QA (Qj (i:=i.k-1) rfl wN Qd QZ O)<|QS (vs:=[_]) I I I QZ I .here (WY hko _) wT<|QLi 5 I<|QA (Kr I I O O)<|wB 2 I<|Qa<|QLk 3 I<|QA (Jk I I O)<|wB 2 I ?_
  exact Qb (⟨i.k-1,i.o.set (i.k-1) ((i.r*1000000000+Qc a (i.k-1))/d),(i.r*1000000000+Qc a (i.k-1))%d,O,by simpa using hol,i.dg.set _ bd.2.1 bd.2.2.1,bd.2.2.2.1,bd.2.2.2.2,hst⟩:QFC a d) (hm:=⟨rfl,rfl,rfl,rfl,congrArg (λz:Int=>some (Value.int .i64 z)) (by dsimp only;omega),trivial⟩)
 refine Q7 ?_;refine QG ?_;have hex:i.k=0:=wm<|QK9 hc
 have hr:Qp 3 1 (.slice (some ⟨bk,0,none⟩) n n) n (i.o.map Qs) [(bk,.cells (i.o.map Qs).toArray 3 (0,0))]:=by
  have:=Qp.some (T:=3) (sz:=1) (b:=bk) (n:=n) (cap:=n) (l:=i.o.map Qs) (rest:=[]) tA tA (Nat.le_refl _) (Nat.le_trans (show n<=200000000 by omega) wv);simpa using this
 obtain⟨r,hv,hrn,hrc,hfix⟩:=Qp.fix (w0:=w) (F0:=F) (bs1:=[]) (G:=λF=>JJ F ⟨q,n,c⟩ a) hr;have hlz:=Xn i.o;have hfin:=i.h;rw[hex,List.drop_zero,List.drop_zero]at hfin;refine Hh hfix ?_;rw[hv];refine wA 2 I<|QJ I (λ_ _ f k=>Wy (r:=r) (l:=i.o) f ⟨by rw[hrn];exact k.2,by rw[hrn];omega,O⟩ O) λc37=>QLi 6 I ?_
 exact J7 (((⟨r.q,(Q3 i.o).length,r.cap⟩,Q3 i.o),i.r):(Sr×List Int)×Int) rfl (wP I I) rfl λF h=>⟨h.2,i.dg.Q3,Xi _,hr0,hr1,by show _=d*dv B9 (Q3 i.o)+i.r;rw[XB];exact hfin,by show(Q3 i.o).length<=_;omega⟩
theorem QBE{v:List Int}{n:Nat}{t r:Int}(h:Vo B9 u v n)(t0:0<=t)(e:t*Qc v (n+1)+r=Qc u (n+2)*B9+Qc u (n+1))(hc:r*B9+Qc u n<t*Qc v n):dv B9 u<t*dv B9 v:=by
 obtain⟨a1,a2,a3⟩:=Z8 wv h.hu h.lu;obtain⟨b1,b2,b3⟩:=KH wv h.hv h.lv;rw[a1,b1];refine PQ b2 a3 (pow_pos JE n) t0 ?_;rw[<-e]
 grind
def QEW{v:List Int}{n:Nat}{t:Int}(h:Vo B9 u v n)(ht:B9<=t):dv B9 u<t*dv B9 v:=by
 have h0:=Qx wv h.hv;have h1:=Int.mul_le_mul_of_nonneg_right ht h0;have:=h.lt;omega
theorem dO{v:List Int}{n:Nat}{t:Int}(h:Vo B9 u v n)(t0:0<=t)(ht:Qc u (n+2)*B9+Qc u (n+1)<(t+1)*Qc v (n+1)):dv B9 u<(t+1)*dv B9 v:=by
 obtain⟨a1,a2,a3⟩:=Z8 wv h.hu h.lu;obtain⟨b1,b2,b3⟩:=KH wv h.hv h.lv;rw[a1,b1];refine PQ b2 a3 (pow_pos JE n) O ?_;have d1:=h.hu.Qc JE n;have d2:=h.hv.Qc JE n;have e1:0<=(t+1)*Qc v n:=Int.mul_nonneg O d2.1;have e2:(Qc u (n+2)*B9+Qc u (n+1)+1)*B9<=(t+1)*Qc v (n+1)*B9:=Int.mul_le_mul_of_nonneg_right O wv
 grind
theorem cN{v:List Int}{n:Nat}{t r:Int}(h:Vo B9 u v n)(t0:0<=t)(t1:t<B9)(e:t*Qc v (n+1)+r=Qc u (n+2)*B9+Qc u (n+1))(hc:t*Qc v n<=r*B9+Qc u n):(t-1)*dv B9 v<=dv B9 u:=by
 obtain⟨a1,a2,a3⟩:=Z8 wv h.hu h.lu;obtain⟨b1,b2,b3⟩:=KH wv h.hv h.lv;rw[a1,b1];have d2:=h.hv.Qc JE n;have d3:1*B9<=Qc v (n+1)*B9:=Int.mul_le_mul_of_nonneg_right (wm h.nz) wv;refine AZ (pow_pos JE n) b3 a2 t0 ?_ O b2;rw[<-e]
 grind
def Xd(h:k<o.length):(o.map Qs++rest)[0+k*1]?=some (.int .i64 (Qc o k)):=by
 rw[List.getElem?_append,if_pos tA];exact ES h
def qi{l vs l':List Value}{n:Nat}(h:KC l n vs l'):KC (l++rest) n vs (l'++rest):=by
 induction h with
 |nil=>exact .nil
 |here h ih=>exact .here ih
 |skip h ih=>exact .skip ih
def Z3(h:k<o.length)(x:Int):KC (o.map Qs++rest) (0+k*1) [.int .i64 x] ((o.set k x).map Qs++rest):=qi (WY h x)
def Oc(u v:List Int)(t:Int):Prop:=0<=t/\t<B9/\(t-1)*dv B9 v<=dv B9 u/\dv B9 u<(t+1)*dv B9 v
structure GuI(u v:List Int)(m:Nat) where
 t:Int
 r:Int
 t0:0<=t
 r0:0<=r
 r1:r<B9
 t2:t<=1000000000000000000
 e:t*Qc v (m+1)+r=Qc u (m+2)*B9+Qc u (m+1)
 h:dv B9 u<(t+1)*dv B9 v
def Pm{U:List Int}(h:k<m):Qc ((U.drop j).take m) k=Qc U (j+k):=by
 by_cases g:j+k<U.length
 ·rw[ZY tA,ZY g];simp
 rw[By tA,By O]
def OL{v:List Int}{n:Nat}{t r:Int}(h:Vo B9 u v n)(t0:0<=t)(e:t*Qc v (n+1)+r=Qc u (n+2)*B9+Qc u (n+1))(hr:B9<=r)(hu:dv B9 u<(t+1)*dv B9 v):Oc u v t:=by
 have ht:=h.top wv;have d0:=h.hu.Qc JE n;have d1:=h.hu.Qc JE (n+1);have d2:=h.hv.Qc JE n;have hn:=h.nz;have e1:Qc u (n+2)*B9<=Qc v (n+1)*B9:=Int.mul_le_mul_of_nonneg_right ht wv;have t1:t<B9:=by
  refine Int.not_le.1 λhc=>?_;have e2:B9*Qc v (n+1)<=t*Qc v (n+1):=Int.mul_le_mul_of_nonneg_right hc O;rw[Int.mul_comm]at e2;omega
 refine⟨t0,t1,cN h t0 t1 e ?_,hu⟩;have e3:t*Qc v n<=B9*B9:=Int.mul_le_mul O O d2.1 wv;have e4:B9*B9<=r*B9:=Int.mul_le_mul_of_nonneg_right hr wv;omega
theorem Sa{v:List Int}{t:Int}(hu:DG B9 u)(t0:0<=t)(h:dv B9 u<t*dv B9 v):0<=t-1:=by
 have:=Qx (b:=B9) wv hu;rcases Int.lt_or_le 0 t with g | g
 ·omega
 have e:t=0:=O;subst e;rw[Int.zero_mul]at h;omega
theorem jw{w0:World}{F0:Gs}{G:Gs->Prop}{bs:List (Nat×Obj)}{bu nu cu j:Nat}{rv:Sr}{U v:List Int}(hU:U.length=nu)(hj:j+m+3<=nu)(hn:nu<=1000000000)(hG:∀F,G F->JJ F rv v)(hS:Vo B9 ((U.drop j).take (m+3)) v m):
  Jn prog 230 [.slice (some ⟨bu,0,none⟩) nu cu,rv.v,.int .i64 (j:Int)] ⟨w0,F0,(bu,.cells (U.map Qs++rest).toArray 3 (0,0))::bs,G⟩ (λt:Int=>.int .i64 t) (λt=>⟨w0,F0,(bu,.cells (U.map Qs++rest).toArray 3 (0,0))::bs,λF=>G F/\Oc ((U.drop j).take (m+3)) v t⟩):=by
 obtain⟨q,n,c⟩:=rv;have hlv:=hS.lv;have h9:B9=1000000000:=rfl;have u2:Qc ((U.drop j).take (m+3)) (m+2)=Qc U (j+(m+2)):=Pm O;have u1:Qc ((U.drop j).take (m+3)) (m+1)=Qc U (j+(m+1)):=Pm O;have u0:Qc ((U.drop j).take (m+3)) m=Qc U (j+m):=Pm O;have b2:=hS.hu.Qc JE (m+2);have b1:=hS.hu.Qc JE (m+1);have b0:=hS.hu.Qc JE m;have c1:=hS.hv.Qc JE (m+1);have c0:=hS.hv.Qc JE m;have nz:=hS.nz;refine Jn.intro func230 rfl rfl rfl rfl ?_;dsimp only[Sr.v];refine Xy _ (λ_ F f h=>(hG F h).2.1) (λhnv=>?_);dsimp only at hnv;obtain rfl:n=m+2:=O;refine Xy _ (λ_ F f h=>(hG F h).1.ptr (by dsimp only;omega)) (λhq=>?_);obtain⟨qb,qo,hq⟩:=hq;dsimp only at hq;subst hq;refine wA 8 I<|QA (QW I Qd)<|wR I<|QG<|JC QJ3 mixed wu<|QI (QD I)<|QI (QD I)<|QI (QD I)<|QI (Qk I I O)<|QI (Qj (i:=j+(m+2)) I wN Qd QZ O)<|QI (Xm (v:=.int .i64 (Qc ((U.drop j).take (m+3)) (m+2))) (c:=U.map Qs++rest) (T':=3) rfl QZ .here (by rw[u2];exact Xd O))<|QI (VN I I O)<|QI (QD I)<|QI (QD I)<|QI (QD I)<|QI (Qk I I O)<|QI (Jk I I O)<|QI (Qj (i:=j+(m+1)) I wN Qd QZ O)<|QI (Xm (v:=.int .i64 (Qc ((U.drop j).take (m+3)) (m+1))) (c:=U.map Qs++rest) (T':=3) rfl QZ .here (by rw[u1];exact Xd O))<|QI (Qk I I O)<|QI (QE I)<|Qv<|QC<|QG<|JC QJ3 mixed wu<|QI (QD I)<|QI (QD I)<|QI (QD I)<|QI (Jk I I O)<|QI (Qj (i:=m+1) rfl wN Qd QZ O)<|QI (XY (n:=m+2) (sz:=1) (cs:=v.map Qs) rfl QZ (λF h=>(hG F h).1) O (JH (show m+1<v.length by omega)))<|QI (WO I I O O O) ?_
 refine QI (QD I)<|QI (QD I)<|QI (QD I)<|QI (Jk I I O)<|QI (Qj (i:=m+1) rfl wN Qd QZ O)<|QI (XY (n:=m+2) (sz:=1) (cs:=v.map Qs) rfl QZ (λF h=>(hG F h).1) O (JH (show m+1<v.length by omega)))<|QI (Kr I I O O)<|QI (QE I)<|QI (QE I)<|Qv<|QLk 3 I ?_
 refine KK (ι:=GuI ((U.drop j).take (m+3)) v m) (λi=>[(0,.slice (some ⟨bu,0,none⟩) nu cu),(1,.slice (some ⟨qb,qo,none⟩) (m+2) c),(2,.int .i64 (j:Int)),(7,.int .i64 ((m+2:Nat):Int)),(9,.int .i64 i.t),(10,.int .i64 i.r)]) (λ_=>(bu,.cells (U.map Qs++rest).toArray 3 (0,0))::bs) (λ_=>G) (λi=>i.t.toNat)
  ⟨(Qc ((U.drop j).take (m+3)) (m+2)*1000000000+Qc ((U.drop j).take (m+3)) (m+1))/Qc v (m+1),(Qc ((U.drop j).take (m+3)) (m+2)*1000000000+Qc ((U.drop j).take (m+3)) (m+1))%Qc v (m+1),Int.ediv_nonneg O O,Int.emod_nonneg _ O,Int.lt_trans (Int.emod_lt_of_pos _ nz) c1.2,Int.le_trans (Int.ediv_le_self (a:=(Qc ((U.drop j).take (m+3)) (m+2)*1000000000+Qc ((U.drop j).take (m+3)) (m+1))) _ O) O,by rw[Int.mul_comm,Int.add_comm];exact Int.emod_add_mul_ediv _ _,dO hS (Int.ediv_nonneg O O) (Int.lt_ediv_add_one_mul_self _ nz)⟩ wY QJ3 tC λi=>?_
 have t0:=i.t0;have r0:=i.r0;have r1:=i.r1;have t2:=i.t2;refine QG<|QG<|JC QJ3 mixed wu<|QI (QD I)<|QI (QR I I I)<|QI (QD I) ?_
 refine Vq (t:=44) rfl (λhb44=>?_) λhb44=>?_
 ·refine JK I I I<|JK I I I<|JK I I I<|JK I I I<|JK I I I<|JK I I I<|JK I I I<|JK I I I<|JK I I I<|JK I I I<|JK I I I<|JK I I I<|JK I I I<|JK I I I<|JK I I I<|JK I I I<|JK I I I<|JK I I I<|QI (Qh I I I)<|Qv<|QC<|ZB I ?_
  have hl:dv B9 ((U.drop j).take (m+3))<i.t*dv B9 v:=QEW hS (wm<|QK8 hb44);refine QLj 6 I<|QA (Jk I I O)<|QLi 8 I<|QA (Jk I I O)<|QA (Qj (i:=m+1) rfl wN Qd QZ O)<|QA (XY (n:=m+2) (sz:=1) (cs:=v.map Qs) rfl QZ (λF h=>(hG F h).1) O (JH (show m+1<v.length by omega)))<|QA (Qk I I O)<|QLi 9 I ?_
  refine QL I (λhc=>?_) λhc=>?_
  ·refine wA 6 I<|X6 ?_
   exact ZN (i.t-1) rfl (wO I) rfl λw h=>h.imp QJ3 λF h=>⟨h,OL (r:=i.r+Qc v (m+1)) hS (Sa hS.hu t0 hl) (by rw[Int.sub_mul,Int.one_mul,<-i.e];omega) (wm<|QK8 hc) (by rw[Int.sub_add_cancel];exact hl)⟩
  refine QK<|Qa ?_
  exact Qb (⟨i.t-1,i.r+Qc v (m+1),(Sa hS.hu t0 hl),O,wm<|QK9 hc,O,(by rw[Int.sub_mul,Int.one_mul,<-i.e];omega),(by rw[Int.sub_add_cancel];exact hl)⟩:GuI ((U.drop j).take (m+3)) v m) (by show(i.t-1).toNat<i.t.toNat;have:=(Sa hS.hu t0 hl);omega)
 have tb:i.t<B9:=wm<|QK9 hb44
 have p0:0<=i.t*Qc v m:=Int.mul_nonneg t0 c0.1;have p1:i.t*Qc v m<=1000000000*1000000000:=Int.mul_le_mul O O c0.1 wv;refine JB I I<|QI (QD I)<|JB I I<|QI (QD I)<|JB I I<|QI (QD I)<|JB I I<|QI (Jk I I O)<|JB I I<|QI (Qj (i:=m) rfl wN Qd QZ O)<|JB I I<|QI (XY (n:=m+2) (sz:=1) (cs:=v.map Qs) rfl QZ (λF h=>(hG F h).1) O (JH (show m<v.length by omega)))<|JB I I<|QI (VN I I O)<|JB I I<|QI (QD I)<|JB I I<|QI (VN I I O)<|JB I I<|QI (QD I)<|JB I I<|QI (QD I)<|JB I I<|QI (QD I)<|JB I I<|QI (Qk I I O)<|JB I I<|QI (Jk I I O)<|JB I I<|QI (Qj (i:=j+m) rfl wN Qd QZ O)<|JB I I<|QI (Xm (v:=.int .i64 (Qc ((U.drop j).take (m+3)) (m))) (c:=U.map Qs++rest) (T':=3) rfl QZ .here (by rw[u0];exact Xd O))<|JB I I<|QI (Qk I I O)<|JB I I<|QI (QR I I I)<|QI (Qi I I I)<|Qv<|QC ?_
 refine QL I (λhc=>?_) λhc=>?_
 ·have hl:dv B9 ((U.drop j).take (m+3))<i.t*dv B9 v:=QBE hS t0 i.e (by have:=QK8 hc;rw[h9];omega);refine QLj 6 I<|QA (Jk I I O)<|QLi 8 I<|QA (Jk I I O)<|QA (Qj (i:=m+1) rfl wN Qd QZ O)<|QA (XY (n:=m+2) (sz:=1) (cs:=v.map Qs) rfl QZ (λF h=>(hG F h).1) O (JH (show m+1<v.length by omega)))<|QA (Qk I I O)<|QLi 9 I ?_
  refine QL I (λhc=>?_) λhc=>?_
  ·refine wA 6 I<|X6 ?_
   exact ZN (i.t-1) rfl (wO I) rfl λw h=>h.imp QJ3 λF h=>⟨h,OL (r:=i.r+Qc v (m+1)) hS (Sa hS.hu t0 hl) (by rw[Int.sub_mul,Int.one_mul,<-i.e];omega) (wm<|QK8 hc) (by rw[Int.sub_add_cancel];exact hl)⟩
  refine QK<|Qa ?_
  exact Qb (⟨i.t-1,i.r+Qc v (m+1),(Sa hS.hu t0 hl),O,wm<|QK9 hc,O,(by rw[Int.sub_mul,Int.one_mul,<-i.e];omega),(by rw[Int.sub_add_cancel];exact hl)⟩:GuI ((U.drop j).take (m+3)) v m) (by show(i.t-1).toNat<i.t.toNat;have:=(Sa hS.hu t0 hl);omega)
 refine Q7 ?_;refine wA 7 I ?_;exact ZN (i.t) rfl (wO I) rfl λw h=>h.imp QJ3 λF h=>⟨h,⟨t0,tb,cN hS t0 tb i.e (by have:=QK9 hc;rw[h9];omega),i.h⟩⟩
end Go.Proofs.YteldggljlnakmaaGreatDoor
namespace Ig
structure Rq(b:Int)(U v:List Int)(j:Nat)(t:Int)(i:Nat)(U':List Int)(br:Int):Prop where
 len:U'.length=U.length
 dg:DG b U'
 lo:U'.take j=U.take j
 hi:U'.drop (j+i)=U.drop (j+i)
 br0:0<=br
 br1:br<=b
 h:dv b U'+b^j*(t*dv b (v.take i))=dv b U+b^(j+i)*br
def Rq.start{b:Int}(hb:0<=b){U v:List Int}(hU:DG b U)(j:Nat)(t:Int):Rq b U v j t 0 U 0 :=
 ⟨rfl,hU,rfl,rfl,Int.le_refl _,hb,w9⟩
def z7{l:List Int}{p k:Nat}:Qc (l.drop p) k=Qc l (p+k):=by
 by_cases g:p+k<l.length
 ·rw[ZY tA,ZY g];simp
 rw[By tA,By O]
def Zk{l m:List Int}{p q:Nat}(h:l.drop p=m.drop p)(hq:p<=q):Qc l q=Qc m q:=by
 have:=congrArg (λx=>Qc x (q-p)) h;simp only[z7]at this;rw[show p+(q-p)=q by omega]at this;exact this
def vQ{b t x br:Int}(hb:1<b)(ht:0<=t/\t<b)(hx:0<=x/\x<b)(h:0<=br/\br<=b):0<=t*x/\t*x<=(b-1)*(b-1)/\0<=(t*x+br)/b/\(t*x+br)/b<b:=by
 have h0:=Int.mul_nonneg ht.1 hx.1;have h1:t*x<=(b-1)*(b-1):=Int.mul_le_mul O O hx.1 O;refine⟨h0,h1,Int.ediv_nonneg O O,Int.ediv_lt_of_lt_mul O ?_⟩;have e:(b-1)*(b-1)=b*b-2*b+1:=by grind
 omega
def Rq.step{b:Int}{U v U':List Int}{j i:Nat}{t br x br':Int}(h:Rq b U v j t i U' br)(hj:j+i<U.length)
  (hx:0<=x/\x<b) (hbr:br'<=b/\0<=br') (e:x-b*br'=Qc U (j+i)-(t*Qc v i+br)):Rq b U v j t (i+1) (U'.set (j+i) x) br':=by
 obtain⟨h1,h2,h3,h4,h5,h6,h7⟩:=h;have hd:Qc U' (j+i)=Qc U (j+i):=Zk h4 (Nat.le_refl _);refine⟨by simpa using h1,h2.set _ hx.1 hx.2,?_,?_,hbr.2,hbr.1,?_⟩
 ·rw[List.take_set_of_le O];exact h3
 ·rw[List.drop_set_of_lt O,<-Nat.add_assoc,<-List.drop_drop,h4,List.drop_drop]
 rw[HM b O,hd,Vl,<-Nat.add_assoc,Int.pow_succ];have e':b^(j+i)*(x-b*br')=b^(j+i)*(Qc U (j+i)-(t*Qc v i+br)):=by rw[e]
 rw[Int.pow_add]at *
 generalize b^i=p at *
 generalize b^j=q at *
 grind
structure Tv(b:Int)(U v:List Int)(j n:Nat)(t:Int)(U':List Int)(top:Int):Prop where
 len:U'.length=U.length
 dg:DG b (U'.set (j+n) 0)
 lo:U'.take j=U.take j
 hi:U'.drop (j+n+1)=U.drop (j+n+1)
 tp:Qc U' (j+n)=top
 h:dv b U'=dv b U-b^j*(t*dv b v)
def Rq.stop{b:Int}(hb:1<b){U v U':List Int}{j n:Nat}{t br:Int}(h:Rq b U v j t n U' br)(hn:v.length=n)(hj:j+n<U.length):Tv b U v j n t (U'.set (j+n) (Qc U (j+n)-br)) (Qc U (j+n)-br):=by
 obtain⟨h1,h2,h3,h4,h5,h6,h7⟩:=h;have hd:Qc U' (j+n)=Qc U (j+n):=Zk h4 (Nat.le_refl _);refine⟨by simpa using h1,?_,?_,?_,?_,?_⟩
 ·rw[List.set_set];exact h2.set _ (Int.le_refl _) O
 ·rw[List.take_set_of_le O];exact h3
 ·rw[List.drop_set_of_lt O,<-List.drop_drop,h4,List.drop_drop]
 ·rw[VC O,if_pos rfl]
 rw[HM b O,hd];rw[List.take_of_length_le O]at h7;generalize b^(j+n)=p at *
 generalize b^j=q at *
 grind
def ZK(b:Int)(l:List Int)(j:Nat):dv b l=dv b (l.take j)+b^j*dv b (l.drop j):=by
 by_cases h:j<=l.length
 ·exact Kb b l j h
 rw[List.take_of_length_le O,List.drop_of_length_le O];simp
def Tv.part{b:Int}(hb:0<b){U v U':List Int}{j n:Nat}{t top:Int}(h:Tv b U v j n t U' top):dv b (U'.drop j)=dv b (U.drop j)-t*dv b v:=by
 have e:=h.h;rw[ZK b U' j,ZK b U j,h.lo]at e;have hp:=pow_pos hb j;have e2:b^j*dv b (U'.drop j)=b^j*(dv b (U.drop j)-t*dv b v):=by
  rw[Int.mul_sub];generalize b^j*dv b (U'.drop j)=x at *;generalize b^j*dv b (U.drop j)=y at *;omega
 exact Int.eq_of_mul_eq_mul_left O e2
def Ei{l:List Int}{j n:Nat}(h:j+n<l.length):l.drop j=(l.drop j).take n++Qc l (j+n)::l.drop (j+n+1):=by
 have e:(l.drop j).drop n=Qc l (j+n)::l.drop (j+n+1):=by
  rw[List.drop_drop,XC h]
 rw[<-e,List.take_append_drop]
def CV{b:Int}(hb:1<b){U:List Int}{k n:Nat}(hU:DG b U)(h:dv b (U.drop k)<b^n):dv b (U.drop (k+n))=0:=by
 have e:=ZK b (U.drop k) n;rw[List.drop_drop]at e;have h1:=Qx (b:=b) O ((hU.drop k).take n);have h2:=Qx (b:=b) O (hU.drop (k+n));have hp:=pow_pos (b:=b) O n;rcases Int.lt_or_le 0 (dv b (U.drop (k+n)))with g | g
 ·have:b^n*1<=b^n*dv b (U.drop (k+n)):=Int.mul_le_mul_of_nonneg_left O O;rw[Int.mul_one]at this;omega
 omega
def Tv.sign{b:Int}(hb:1<b){U v U':List Int}{j n:Nat}{t top:Int}(h:Tv b U v j n t U' top)(hz:dv b (U.drop (j+n+1))=0)(hj:j+n<U.length):
  ∃lo,0<=lo/\lo<b^n/\dv b (U'.drop j)=lo+b^n*top:=by
 have hlen:=h.len;have hw:=Ei (l:=U') (j:=j) (n:=n) O;refine⟨dv b ((U'.drop j).take n),?_,?_,?_⟩
 ·have:DG b ((U'.drop j).take n):=by
   have:=((h.dg.drop j).take n);rw[List.drop_set,if_neg O,Nat.add_sub_cancel_left,List.take_set_of_le (Nat.le_refl _)]at this;exact this
  exact Qx O this
 ·have:DG b ((U'.drop j).take n):=by
   have:=((h.dg.drop j).take n);rw[List.drop_set,if_neg O,Nat.add_sub_cancel_left,List.take_set_of_le (Nat.le_refl _)]at this;exact this
  have h2:=Z9 (by omega:0<b) this;rw[show((U'.drop j).take n).length=n by simp;omega]at h2;exact h2
 have e:=congrArg (dv b) hw;rw[ZW,Yy,h.hi,hz,h.tp,show((U'.drop j).take n).length=n by simp;omega]at e;simpa using e
def Tv.QBH{b:Int}(hb:1<b){U v U':List Int}{j n:Nat}{t top:Int}(h:Tv b U v j n t U' top)(hj:j+n<U.length)(h0:0<=top)(ht:top<b)
  (g:dv b (U.drop j)<(t+1)*dv b v):DG b U'/\dv b (U'.drop j)<dv b v/\dv b U'=dv b U-b^j*(t*dv b v):=by
 have hp:=h.part O;refine⟨?_,?_,h.h⟩
 ·have e:U'=(U'.set (j+n) 0).set (j+n) top:=by
   rw[List.set_set];have:=h.tp;rw[ZY (by rw[h.len];exact hj)]at this;rw[<-this,List.set_getElem_self]
  rw[e];exact h.dg.set _ h0 ht
 rw[hp];rw[Int.add_mul,Int.one_mul]at g;omega
structure Ec(b:Int)(U v:List Int)(j n i:Nat)(U':List Int)(c:Int):Prop where
 len:U'.length=U.length
 dg:DG b (U'.set (j+n) 0)
 lo:U'.take j=U.take j
 hi:U'.drop (j+i)=U.drop (j+i)
 c0:0<=c
 c1:c<=1
 h:dv b U'+b^(j+i)*c=dv b U+b^j*dv b (v.take i)
def Ec.start{b:Int}{U v:List Int}{j n:Nat}(hU:DG b (U.set (j+n) 0)):Ec b U v j n 0 U 0 :=
 ⟨rfl,hU,rfl,rfl,Int.le_refl _,O,w9⟩
def Ec.step{b:Int}{U v U':List Int}{j n i:Nat}{c x c':Int}(h:Ec b U v j n i U' c)(hi:i<n)(hj:j+n<U.length)
  (hx:0<=x/\x<b) (hc:0<=c'/\c'<=1) (e:x+b*c'=Qc U (j+i)+Qc v i+c):Ec b U v j n (i+1) (U'.set (j+i) x) c':=by
 obtain⟨h1,h2,h3,h4,h5,h6,h7⟩:=h;have hd:Qc U' (j+i)=Qc U (j+i):=Zk h4 (Nat.le_refl _);refine⟨by simpa using h1,?_,?_,?_,hc.1,hc.2,?_⟩
 ·rw[List.set_comm _ _ O];exact h2.set _ hx.1 hx.2
 ·rw[List.take_set_of_le O];exact h3
 ·rw[List.drop_set_of_lt O,<-Nat.add_assoc,<-List.drop_drop,h4,List.drop_drop]
 rw[HM b O,hd,Vl,<-Nat.add_assoc,Int.pow_succ];have e':b^(j+i)*(x+b*c')=b^(j+i)*(Qc U (j+i)+Qc v i+c):=by rw[e]
 rw[Int.pow_add]at *
 generalize b^i=p at *
 generalize b^j=q at *
 grind
def Ec.Qc{b:Int}(hb:1<b){U v U':List Int}{j n i:Nat}{c:Int}(h:Ec b U v j n i U' c)(hi:i<n):0<=Qc U' (j+i)/\Qc U' (j+i)<b:=by
 have:=h.dg.Qc O (j+i);by_cases g:j+n<U'.length
 ·rw[VC g,if_neg O]at this;exact this
 rw[List.set_eq_of_length_le O]at this;exact this
def Ec.QBH{b:Int}(hb:1<b){U v U1 U':List Int}{j n:Nat}{t top c:Int}(h:Ec b U1 v j n n U' c)(hs:Tv b U v j n t U1 top)(hU:DG b U)(hv:DG b v)(hn:v.length=n)(hz:dv b (U.drop (j+n+1))=0)(hj:j+n<U.length)(h0:top<0)
  (g:(t-1)*dv b v<=dv b (U.drop j)):DG b (U'.set (j+n) (top+c))/\dv b ((U'.set (j+n) (top+c)).drop j)<dv b v/\dv b (U'.set (j+n) (top+c))=dv b U-b^j*((t-1)*dv b v)/\0<=t-1/\(U'.set (j+n) (top+c)).length=U.length:=by
 obtain⟨lo,l0,l1,l2⟩:=hs.sign hb hz hj;have hp:=hs.part O;have hlen:=hs.len;obtain⟨a1,a2,a3,a4,a5,a6,a7⟩:=h;have hd:Ig.Qc U' (j+n)=top:=by rw[Zk a4 (Nat.le_refl _),hs.tp]
 rw[List.take_of_length_le O]at a7;have hv0:=Qx (b:=b) O hv;have hv1:=Z9 (b:=b) O hv;rw[hn]at hv1;have hB:=pow_pos (b:=b) O n;have hw:dv b (U'.set (j+n) (top+c))=dv b U-b^j*((t-1)*dv b v):=by
  rw[HM b O,hd];have e:=hs.h;generalize b^(j+n)=p at *
  generalize b^j=q at *
  grind
 have hlo:(U'.set (j+n) (top+c)).take j=U.take j:=by
  rw[List.take_set_of_le O,a3,hs.lo]
 have hpart:dv b ((U'.set (j+n) (top+c)).drop j)=dv b (U.drop j)-(t-1)*dv b v:=by
  have e:=hw;rw[ZK b _ j,ZK b U j,hlo]at e;have hq:=pow_pos (b:=b) O j;have e2:b^j*dv b ((U'.set (j+n) (top+c)).drop j)=b^j*(dv b (U.drop j)-(t-1)*dv b v):=by
   rw[Int.mul_sub];generalize b^j*dv b ((U'.set (j+n) (top+c)).drop j)=x at *;generalize b^j*dv b (U.drop j)=y at *;omega
  exact Int.eq_of_mul_eq_mul_left O e2
 have hneg:dv b (U1.drop j)<0:=by
  rw[l2];have:b^n*top<=b^n*(-1):=Int.mul_le_mul_of_nonneg_left O O;omega
 have hlt:dv b ((U'.set (j+n) (top+c)).drop j)<dv b v:=by
  rw[hpart,Int.sub_mul,Int.one_mul];omega
 have hge:0<=dv b ((U'.set (j+n) (top+c)).drop j):=by rw[hpart];omega
 have hsd:dv b ((U'.set (j+n) (top+c)).drop j)=dv b ((U'.drop j).take n)+b^n*(top+c):=by
  have hw2:=congrArg (dv b) (Ei (l:=U'.set (j+n) (top+c)) (j:=j) (n:=n) tA);have e3:(U'.set (j+n) (top+c)).drop (j+n+1)=U'.drop (j+n+1):=List.drop_set_of_lt O;rw[ZW,Yy,VC (show j+n<U'.length by omega),if_pos rfl,e3]at hw2;have:dv b (U'.drop (j+n+1))=0:=by
   rw[<-List.drop_drop,a4,List.drop_drop,hs.hi];exact hz
  have e2:((U'.set (j+n) (top+c)).drop j).take n=(U'.drop j).take n:=by
   rw[List.drop_set,if_neg O,Nat.add_sub_cancel_left,List.take_set_of_le (Nat.le_refl _)]
  rw[this,e2,show((U'.drop j).take n).length=n by simp;omega]at hw2;simpa using hw2
 have hdg:DG b ((U'.drop j).take n):=by
  have:=((a2.drop j).take n);rw[List.drop_set,if_neg O,Nat.add_sub_cancel_left,List.take_set_of_le (Nat.le_refl _)]at this;exact this
 have d0:=Qx (b:=b) O hdg;have d1:=Z9 (b:=b) O hdg;rw[show((U'.drop j).take n).length=n by simp;omega]at d1;have ht0:top+c=0:=by
  rw[hsd]at hlt hge;have q1:¬1<=top+c:=λq=>by
   have:b^n*1<=b^n*(top+c):=Int.mul_le_mul_of_nonneg_left q O;omega
  have q2:¬top+c<=-1:=λq=>by
   have:b^n*(top+c)<=b^n*(-1):=Int.mul_le_mul_of_nonneg_left q O;omega
  omega
 refine⟨?_,hlt,hw,?_,tA⟩
 ·rw[ht0];exact a2
 rcases Int.lt_or_le (t-1) 0 with q | q
 ·exfalso;have u0:=Qx (b:=b) O (hU.drop j);have:t*dv b v<=0:=Int.mul_nonpos_of_nonpos_of_nonneg O hv0;omega
 exact q
end Ig
namespace Go.Proofs.YteldggljlnakmaaGreatDoor
variable{a b l o u:List Int}{c i j k m:Nat}{w:World}{F F':Gs}{ra rb:Sr}{x y:Operand}{s:List UInt8}{cs news rest:List Value}{α ι:Type}{T e et kt yT:TypeId}{q:Option Addr}{f z zx:Int}{P:Program}{seen:List Nat}
open Go.RowKit Ig
def el{α:Type}[Inhabited α](l:List α)(i:Nat):α:=l.getD i default
theorem J8[Inhabited α]{l:List α}{i:Nat}(h:i<l.length):el l i=l[i]:=by simp[el,h]
theorem Ql[Inhabited α]{l:List α}{i:Nat}(h:i<l.length):el l i∈l:=by grind[J8,List.getElem_mem]
theorem Q4[Inhabited α]{f:α->List Value}{k:Nat}(hf:∀x,(f x).length=k){l:List α}{i j:Nat}{u:Value}(h:i<l.length)(hj:(f (el l i))[j]?=some u):(l.flatMap f)[i*k+j]?=some u:=by
 grind[Nat.lt_or_ge,ON,J8]
def ZF[Inhabited α]{f:α->Value}{l:List α}{i:Nat}(h:i<l.length):(l.map f)[i*1]?=some (f (el l i)):=by
 rw[Nat.mul_one,List.getElem?_map,List.getElem?_eq_getElem h,J8 h];rfl
def XF[Inhabited α]{l:List α}{i:Nat}(h:i<l.length):l.take (i+1)=l.take i++[el l i]:=by
 rw[List.take_succ_eq_append_getElem h,J8 h]
def BX[Inhabited α]{l:List α}{i:Nat}(h:i<l.length):l.drop i=el l i::l.drop (i+1):=by
 rw[List.drop_eq_getElem_cons h,J8 h]
def YL(h:i<l.length):Qc l i=el l i:=by rw[ZY h,J8 h]
def QAf(q:Option Addr):Nat:=(q.getD ⟨0,0,none⟩).block
def QAe(q:Option Addr):Nat:=(q.getD ⟨0,0,none⟩).off
section
variable[Dr][df:Df]{P:Program}{Q:Exit->Act->World->Prop}{N:Nat}{m:Sl}{E E0:Env}{ops:Array Oper}{l:List Oper}{w0:World}{F0:Gs}{bs:List (Nat×Obj)}{G:Gs->Prop}{ty:TypeId}
theorem Qo{n sz sz':Nat}{g:Bool}(i:Nat)(hr:∀F,G F->Qu F q n sz' cs)(hx:ev m x=some (.slice q n c))(hy:ev m y=some (.int .i64 (i:Int)))(hT:Ga P T=some e)(hs:Zd P e=some (g,sz))(hi:i<n):
  Qt P N m (St ⟨w0,F0,bs,G⟩) (.indexAddr T x y) ty (.pointer (some ⟨QAf q,QAe q+i*sz,none⟩)):=λa w _ _ _ _ ha hw=>by
 obtain⟨F,hF⟩:=id hw;obtain⟨b,off,rfl⟩:=(hr F hF.hG).ptr O;exact Qj hx hy hT hs hi a w _ _ _ _ ha hw
theorem Qg{n sz:Nat}(j:Nat){u:Value}(hr:∀F,G F->Qu F q n sz cs)(hn:0<n)(hx:ev m x=some (.pointer (some ⟨QAf q,QAe q+j,none⟩)))(ht:Zd P T=some (false,k))(hu:cs[j]?=some u):
  Qt P N m (St ⟨w0,F0,bs,G⟩) (.load T x) ty u:=λa w _ _ _ _ ha hw=>by
 obtain⟨F,hF⟩:=id hw;obtain⟨b,off,rfl⟩:=(hr F hF.hG).ptr hn;exact XY hx ht hr hn hu a w _ _ _ _ ha hw
theorem JG{n sz:Nat}{vs:List Value}(j:Nat)(hr:∀F,G F->Qu F q n sz cs)(hn:0<n)(hx:ev m x=some (.pointer (some ⟨QAf q,QAe q+j,none⟩)))(ht:Zd P T=some (true,k))(hl:vs.length=k)(hu:∀i v,vs[i]?=some v->cs[j+i]?=some v):
  Qt P N m (St ⟨w0,F0,bs,G⟩) (.load T x) ty (.agg vs.toArray):=λa w _ _ _ _ ha hw=>by
 obtain⟨F,hF⟩:=id hw;obtain⟨b,off,rfl⟩:=(hr F hF.hG).ptr hn;exact CA hx ht hr hn hl hu a w _ _ _ _ ha hw
theorem YT.append{m:Sl}:∀ {k l:Sl},YT m k->YT m l->YT m (k++l)
 |[],_,_,h=>h
 |(_,_)::_,_,⟨h1,h2⟩,h=>⟨h1,YT.append h2 h⟩
theorem Vv{c:Code}(K:Sl)(M:ι->Sl)(B:ι->List _)(R:ι->Gs->Prop)(μ:ι->Nat)(i0:ι)
  (hk:YT m K) (hm:YT m (M i0)) (hb:(B i0).Sublist bs) (hg:∀F,G F->R i0 F)
  (round:∀i,J P c (Exit.then (Sz N w0 F0 (λi=>K++M i) B (λi F=>G F/\R i F) μ i) Q) N (K++M i) ⟨w0,F0,B i,λF=>G F/\R i F⟩):J P (.loop c) Q N m ⟨w0,F0,bs,G⟩ :=
 KK (λi=>K++M i) B (λi F=>G F/\R i F) μ i0 (hk.append hm) hb (λF h=>⟨h,hg F h⟩) round
theorem ZH{c:Code}(K:Sl)(M:ι->Sl)(B:ι->List _)(R:ι->Gs->Prop)(μ:ι->Nat)(i0:ι)
  (hk:YT m K) (hm:YT m (M i0)) (round:∀i,J P c (Exit.then (Sz N w0 F0 (λi=>K++M i) B (λi F=>G F/\R i F) μ i) Q) N (K++M i) ⟨w0,F0,B i,λF=>G F/\R i F⟩)
  (hb:(B i0).Sublist bs:=by first | exact List.Sublist.refl _ | (repeat' (first | exact List.Sublist.refl _ | exact List.nil_sublist _ | refine List.Sublist.cons_cons _ ?_ | refine List.Sublist.cons _ ?_))) (hg:∀F,G F->R i0 F:=by intro F h;first | exact h | exact⟨h,trivial⟩ | (repeat' (first | exact trivial | exact h.2 | exact h.1.2 | exact h.1.1.2 | exact h.1.1.1.2 | exact h.1.1.1.1.2 | exact h.1.1.1.1.1.2 | exact h.1.1.1.1.1.1.2 | exact h.1.1.1.1.1.1.1.2 | exact h.1.1.1.1.1.1.1.1.2 | exact h.1.1.1.1.1.1.1.1.1.2 | exact h.1 | exact h.1.1 | exact h.1.1.1 | exact h.1.1.1.1 | exact h.1.1.1.1.1 | exact h.1.1.1.1.1.1 | exact h.1.1.1.1.1.1.1 | exact h.1.1.1.1.1.1.1.1 | exact h.1.1.1.1.1.1.1.1.1 | refine And.intro ?_ ?_))):J P (.loop c) Q N m ⟨w0,F0,bs,G⟩:=Vv K M B R μ i0 hk hm hb hg round
theorem Jo{c:Code}(K:Sl)(M:ι->Sl)(μ:ι->Nat)(i0:ι)(hk:YT m K)(hm:YT m (M i0))
  (round:∀i,J P c (Exit.then (Sz N w0 F0 (λi=>K++M i) (λ_=>bs) (λ_=>G) μ i) Q) N (K++M i) ⟨w0,F0,bs,G⟩):J P (.loop c) Q N m ⟨w0,F0,bs,G⟩ :=
 KK (λi=>K++M i) (λ_=>bs) (λ_=>G) μ i0 (hk.append hm) QJ3 tC round
theorem Zu{x y:Code}(K M:Sl)(hk:YT m K)(h1:J P x (XM λa w=>JO N (K++M) a/\St ⟨w0,F0,bs,G⟩ w) N m ⟨w0,F0,bs,G⟩)(h2:J P y Q N (K++M) ⟨w0,F0,bs,G⟩):J P (.seq x y) Q N m ⟨w0,F0,bs,G⟩ :=
 QAB _ _ _ h1 h2
theorem Ba{x y:Code}(K:Sl)(M:ι->Sl)(B:ι->List _)(R:ι->Gs->Prop)(hk:YT m K)(h1:J P x (XM λa w=>∃i,JO N (K++M i) a/\St ⟨w0,F0,B i,λF=>G F/\R i F⟩ w) N m ⟨w0,F0,bs,G⟩)
  (h2:∀i,J P y Q N (K++M i) ⟨w0,F0,B i,λF=>G F/\R i F⟩):J P (.seq x y) Q N m ⟨w0,F0,bs,G⟩ :=
 Hg (λi=>K++M i) B (λi F=>G F/\R i F) h1 h2
end
def Al:(1:Int)<B9:=wv
theorem TT{n:Nat}(db:DG B9 b)(zb:NZ b)(hn:b.length=n+1):1<=Qc b n/\1<=B9/(Qc b n+1)/\B9/(Qc b n+1)<B9/\B9/(Qc b n+1)*(Qc b n+1)<=B9:=by
 have hd:=db.Qc JE n;have h1:1<=Qc b n:=by
  have hlt:n<b.length:=O;have:Qc b n≠0:=by
   intro e;refine zb ?_;rw[List.getLast?_eq_getElem?,hn,Nat.add_sub_cancel,List.getElem?_eq_getElem hlt];rw[ZY hlt]at e;rw[e]
  omega
 have h9:B9=1000000000:=rfl;refine⟨h1,?_,?_,Int.ediv_mul_le _ O⟩
 ·exact(Int.le_ediv_iff_mul_le O).2 O
 exact Int.ediv_lt_of_lt_mul O (by rw[Int.mul_add];have:B9*1<=B9*Qc b n:=Int.mul_le_mul_of_nonneg_left h1 O;omega)
theorem xj{v:List Int}{n:Nat}(db:DG B9 b)(zb:NZ b)(hn:b.length=n+1)(dv':DG B9 v)(zv:NZ v)(h:dv B9 v=dv B9 b*f)(h1:1<=f)(h2:f*(Qc b n+1)<=B9):v.length=n+1:=by
 have hlt:n<b.length:=O;have e1:dv B9 b=dv B9 (b.take n)+B9^n*Qc b n:=by
  have:=Vl B9 b n;rw[List.take_of_length_le O]at this;exact this
 have e2:=Z9 JE (db.take n);rw[show(b.take n).length=n by simp;omega]at e2;have hb0:B9^n<=dv B9 b:=by
  have:=De JE db zb (by intro e;rw[e]at hn;simp at hn);rw[hn,Nat.add_sub_cancel]at this;exact this
 have hp:=pow_pos JE n;have hup:dv B9 b<B9^n*(Qc b n+1):=by rw[Int.mul_add,Int.mul_one];omega
 have hv1:dv B9 v<B9^(n+1):=by
  rw[h,Int.pow_succ];have:dv B9 b*f<B9^n*(Qc b n+1)*f:=Int.mul_lt_mul_of_pos_right hup O;have q:B9^n*(Qc b n+1)*f<=B9^n*B9:=by
   rw[Int.mul_assoc,Int.mul_comm (Qc b n+1)];exact Int.mul_le_mul_of_nonneg_left h2 O
  omega
 have hv0:B9^n<=dv B9 v:=by
  rw[h];have:dv B9 b*1<=dv B9 b*f:=Int.mul_le_mul_of_nonneg_left h1 O;omega
 rcases Nat.lt_trichotomy v.length (n+1)with g | g | g
 ·have h3:=Z9 JE dv';have h4:=Ig.YR (b:=B9) wv (show v.length<=n by omega);omega
 ·exact g
 have h3:=De JE dv' zv (by intro e;rw[e]at g;simp at g);have h4:=Ig.YR (b:=B9) wv (show n+1<=v.length-1 by omega);omega
def QA0{b:Int}(hb:0<b){U:List Int}{k:Nat}(hU:DG b U):b^k*dv b (U.drop k)<=dv b U:=by
 rw[ZK b U k];have:=Qx hb (hU.take k);omega
structure Dw(a v:List Int)(f:Int)(n:Nat) where
 k:Nat
 U:List Int
 Q:List Int
 le:k+n<=a.length+1
 lu:U.length=a.length+1
 lq:Q.length=a.length+1-n
 du:DG B9 U
 dq:DG B9 Q
 lt:dv B9 (U.drop k)<dv B9 v
 h:dv B9 a*f=dv B9 v*(B9^k*dv B9 (Q.drop k))+dv B9 U
def Dw.start{a b v U:List Int}{f:Int}{n:Nat}(da:DG B9 a)(db:DG B9 b)(zb:NZ b)(hn:b.length=n+1)(hv:dv B9 v=dv B9 b*f)(h1:1<=f)(du:DG B9 U)(lu:U.length=a.length+1)(hU:dv B9 U=dv B9 a*f)(hl:n+1<=a.length+1):Dw a v f (n+1) where
 k:=a.length+1-(n+1)
 U:=U
 Q:=List.replicate (a.length+1-(n+1)) 0
 le:=O
 lu:=lu
 lq:=w9
 du:=du
 dq:=DG.replicate JE _
 lt:=by
  have hb0:B9^n<=dv B9 b:=by
   have:=De JE db zb (by intro e;rw[e]at hn;simp at hn);rw[hn,Nat.add_sub_cancel]at this;exact this
  have h2:=QA0 JE (k:=a.length-n) du;have h3:=Z9 JE da;have h4:dv B9 a*f<B9^a.length*f:=Int.mul_lt_mul_of_pos_right h3 O;have h5:B9^a.length*f=B9^(a.length-n)*(B9^n*f):=by rw[<-Int.mul_assoc,<-Int.pow_add];congr 2;omega
  rw[hU]at h2;have h6:B9^(a.length-n)*dv B9 (U.drop (a.length-n))<B9^(a.length-n)*(B9^n*f):=O;have h7:dv B9 (U.drop (a.length-n))<B9^n*f:=Int.lt_of_mul_lt_mul_left h6 (wm<|pow_pos JE (a.length-n));have h8:B9^n*f<=dv B9 b*f:=Int.mul_le_mul_of_nonneg_right hb0 O;rw[show a.length+1-(n+1)=a.length-n by omega,hv];omega
 h:=by
  rw[List.drop_of_length_le w9,Tl,Int.mul_zero,Int.mul_zero,Int.zero_add,hU]
def Dw.zero{v:List Int}{n:Nat}(i:Dw a v f n)(dv':DG B9 v)(hv:v.length=n):dv B9 (i.U.drop (i.k+n))=0:=by
 have:=Z9 JE dv';rw[hv]at this;exact CV Al i.du (Int.lt_trans i.lt this)
theorem Dw.jd{v:List Int}(i:Dw a v f (m+2))(dv':DG B9 v)(zv:0<Qc v (m+1))(hv:v.length=m+2)(hk:0<i.k):Vo B9 ((i.U.drop (i.k-1)).take (m+3)) v m/\dv B9 (i.U.drop (i.k-1))=dv B9 ((i.U.drop (i.k-1)).take (m+3)):=by
 have hz:=i.zero dv' hv;have hle:=i.le;have hlu:=i.lu;have e:dv B9 (i.U.drop (i.k-1))=dv B9 ((i.U.drop (i.k-1)).take (m+3)):=by
  have:=ZK B9 (i.U.drop (i.k-1)) (m+3);rw[List.drop_drop,show i.k-1+(m+3)=i.k+(m+2) by omega,hz]at this;simpa using this
 refine⟨⟨(i.du.drop _).take _,dv',tA,hv,zv,?_⟩,e⟩;rw[<-e,XC O,Yy,show i.k-1+1=i.k by omega];have hd:=i.du.Qc JE (i.k-1);have hlt:=i.lt;have:B9*dv B9 (i.U.drop i.k)<=B9*(dv B9 v-1):=Int.mul_le_mul_of_nonneg_left O wv;rw[Int.mul_sub,Int.mul_one]at this;omega
def Dw.next{a v:List Int}{f:Int}{n:Nat}(i:Dw a v f n)(hk:0<i.k)(hn:0<n){U1:List Int}{t:Int}(t0:0<=t)(t1:t<B9)(h1:DG B9 U1)(h2:dv B9 (U1.drop (i.k-1))<dv B9 v)(h3:dv B9 U1=dv B9 i.U-B9^(i.k-1)*(t*dv B9 v))(h4:U1.length=i.U.length):Dw a v f n where
 k:=i.k-1
 U:=U1
 Q:=i.Q.set (i.k-1) t
 le:=wm i.le
 lu:=by rw[h4,i.lu]
 lq:=by rw[List.length_set,i.lq]
 du:=h1
 dq:=i.dq.set _ t0 t1
 lt:=h2
 h:=by
  have hle:=i.le;have hlq:=i.lq;rw[h3,XC (l:=i.Q.set (i.k-1) t) (by rw[List.length_set];omega),Yy,VC O,if_pos rfl,List.drop_set_of_lt O,show i.k-1+1=i.k by omega,i.h];have e:B9^i.k=B9^(i.k-1)*B9:=by rw[<-Int.pow_succ];congr 1;omega
  rw[e];generalize B9^(i.k-1)=p;generalize dv B9 (i.Q.drop i.k)=q;generalize dv B9 i.U=u;generalize dv B9 v=y;generalize B9=B
  grind
theorem Dw.stop{v:List Int}{n:Nat}(i:Dw a v f n)(hk:i.k=0)(db:DG B9 b)(da:DG B9 a)(hv:dv B9 v=dv B9 b*f)(h1:1<=f)(hb:0<dv B9 b)(dv':DG B9 v)(lv:v.length=n):
  dv B9 i.Q=dv B9 a/dv B9 b/\dv B9 (i.U.take n)=f*(dv B9 a%dv B9 b):=by
 have h:=i.h;have lt:=i.lt;rw[hk,List.drop_zero]at lt;have hz:=i.zero dv' lv;rw[hk,Nat.zero_add]at hz;have e0:dv B9 (i.U.take n)=dv B9 i.U:=by
  rw[ZK B9 i.U n,hz];simp
 rw[hk,List.drop_zero,Int.pow_zero,Int.one_mul,hv]at h;rw[hv]at lt;have u0:=Qx JE i.du;rw[e0];have e1:dv B9 i.U=f*(dv B9 a-dv B9 b*dv B9 i.Q):=by rw[Int.mul_sub];grind
 have lt2:f*(dv B9 a-dv B9 b*dv B9 i.Q)<f*dv B9 b:=by rw[<-e1,Int.mul_comm f (dv B9 b)];exact lt
 have r1:dv B9 a-dv B9 b*dv B9 i.Q<dv B9 b:=Int.lt_of_mul_lt_mul_left lt2 O;have r0:0<=dv B9 a-dv B9 b*dv B9 i.Q:=by
  rcases Int.lt_or_le (dv B9 a-dv B9 b*dv B9 i.Q) 0 with g | g
  ·have:f*(dv B9 a-dv B9 b*dv B9 i.Q)<=f*(-1):=Int.mul_le_mul_of_nonneg_left O O;omega
  exact g
 have q:dv B9 a/dv B9 b=dv B9 i.Q:=ZX hb (by rw[Int.mul_comm];omega) (by rw[Int.add_mul,Int.one_mul,Int.mul_comm];omega);refine⟨q.symm,?_⟩;rw[e1];have:=Int.emod_def (dv B9 a) (dv B9 b);rw[this,q]
section
variable[Dr][df:Df]{P:Program}{Q:Exit->Act->World->Prop}{N:Nat}{m:Sl}{ops:Array Oper}{l:List Oper}{w0:World}{F0:Gs}{bs:List (Nat×Obj)}{G:Gs->Prop}{ty:TypeId}{pos:String}{aft:Array Edge}
theorem Zv{d:Nat}{t:TypeId}{sz:Nat}{g:Bool}(ht:P.underlying t=some (.slice e))(hs:Zd P e=some (g,sz))(k:∀b,JS P ops Q l N ((d,.slice (some ⟨b,0,none⟩) 0 0)::m) ⟨w0,F0,(b,.cells #[] e (0,0))::bs,G⟩)(hu:Vy e=true:=by rfl)(hd:Jq N (some d)=true:=by rfl):
  JS P ops Q (⟨some d,.buildSlice t 0 #[],ty,pos,aft,none⟩::l) N m ⟨w0,F0,bs,G⟩:=λa w ha hw=>wpList_plain rfl λK hK=>by
 refine upon_value (v:=.slice (some ⟨w.heap.size,0,none⟩) 0 0) (w':=w.alloc (.cells #[] e)) ?_ (hK _ _ (k _ _ _ (ha.put hd _) (hw.alloc _ (XR hu))));have hrun:(Instr.buildSlice t 0 #[]).run P w = .ok (.slice (some ⟨w.heap.size,0,none⟩) 0 0) (w.alloc (.cells #[] e)):=by
  have hf:Instr.fill (λi=>some (i*sz,sz)) (Array.map (λx=>(#[]:Array Value)[x%(#[]:Array Value).size]!) (Array.range 0)) []=some #[]:=by simp[Instr.fill]
  simp only[Instr.buildSlice,Sem.run_bind,run_underlying ht,Result.andThen_ok,Ys hs,Nat.zero_mul,if_neg (show ¬0>2^24 by omega),Sem.run_pure,if_true,hf,newRow,run_newObj];rfl
 simp[execOp,hrun]
theorem PB{e':TypeId}{sz n:Nat}{v:Value}{ob:List (Nat×Obj)}{S:World->Prop}(hx:ev m x=some v)(hr:Qp e' sz v n cs ob)(hT:Ga P T=some e):Qt P N m S (.call ⟨.builtin .len,#[x],#[T]⟩) ty (.int .i64 n):=by
 cases hr with
 |nil=>exact QW hx hT
 |some=>exact QW hx hT
theorem Qp.big{sz n:Nat}{v:Value}{ob:List (Nat×Obj)}(hr:Qp T sz v n cs ob)(hn:0<n):∃b cap rest,v = .slice (Option.some ⟨b,0,Option.none⟩) n cap/\ob=[(b,.cells (cs++rest).toArray T (0,0))]/\n<=cap:=by
 cases hr with
 |nil=>exact absurd hn (Nat.lt_irrefl 0)
 |some h1 h2 h3 h4=>exact⟨_,_,_,rfl,rfl,h3⟩
theorem Src.QHR{sz b off:Nat}(hr:∀F,G F->Qu F (some ⟨b,off,none⟩) k sz news)(hk:0<k)(hl:news.length=k*sz):Src ⟨w0,F0,bs,G⟩ sz (.slice (.some ⟨b,off,none⟩) k c) k news :=
 ⟨hl,.inr ⟨_,_,rfl,λw hw j v hv=>by rw[V1];exact KN hw hr hk hv⟩⟩
end
theorem JJ.own{b n:Nat}(h:F b=some ((l.map Qs++rest).toArray,T))(hl:l.length=n)(hn:n<=c):JJ F ⟨some ⟨b,0,none⟩,n,c⟩ l:=by
 refine⟨⟨by simp[hl],λ_=>⟨b,0,_,T,rfl,h,λj u hu=>?_⟩⟩,hl,hn⟩;have hj:j<(l.map Qs).length:=by rcases Nat.lt_or_ge j (l.map Qs).length with g | g;exact g;rw[List.getElem?_eq_none g]at hu;cases hu
 rw[Nat.zero_add,List.getElem?_toArray,List.getElem?_append,if_pos hj];exact hu
theorem JJ.QHX{b n:Nat}(h:F b=some ((l.map Qs).toArray,T))(hl:l.length=n)(hn:n<=c):JJ F ⟨some ⟨b,0,none⟩,n,c⟩ l:=JJ.own (rest:=[]) (by rw[List.append_nil];exact h) hl hn
def JJ.one{b:Nat}{x:Int}(h:F b=some (([Value.int .i64 x]:List Value).toArray,T)):JJ F ⟨some ⟨b,0,none⟩,1,1⟩ [x]:=⟨Qu.of h rfl,rfl,Nat.le_refl _⟩
def JJ.take{n:Nat}(h:JJ F ⟨q,n,c⟩ l)(hk:k<=n):JJ F ⟨q,k,c⟩ (l.take k):=by
 have hn:=h.2.1;have hc:=h.2.2;dsimp only at hn hc;exact⟨h.1.take hn hk,tA,by show k<=c;omega⟩
def Vi{m:List Int}(hl:DG B9 l)(hm:DG B9 m)(zl:NZ l)(h:dv B9 l<=dv B9 m):l.length<=m.length:=by
 rcases Nat.lt_or_ge m.length l.length with g | g
 ·have:=Xg Al hm hl zl g;omega
 exact g
def I9(x:Int):dv B9 [x]=x:=by simp[dv]
theorem jy{x r t:Int}(hf:0<f)(h:f*x=f*r+t)(h0:0<=t)(h1:t<f):r=x:=by
 have e:t=f*(x-r):=by rw[Int.mul_sub];omega
 rcases Int.lt_trichotomy (x-r) 0 with g | g | g
 ·have:f*(x-r)<=f*(-1):=Int.mul_le_mul_of_nonneg_left O O;omega
 ·omega
 have:f*1<=f*(x-r):=Int.mul_le_mul_of_nonneg_left O O;omega
def QAI(a b:List Int)(c:(Sr×List Int)×(Sr×List Int))(F:Gs):Prop :=
 (JJ F c.1.1 c.1.2/\DG B9 c.1.2/\NZ c.1.2/\dv B9 c.1.2=dv B9 a/dv B9 b)/\(JJ F c.2.1 c.2.2/\DG B9 c.2.2/\NZ c.2.2/\dv B9 c.2.2=dv B9 a%dv B9 b)
theorem gJ(nb:b.length=1)(db:DG B9 b)(c:(Sr×List Int)×Int){k:Nat}
  (h:JJ F c.1.1 c.1.2/\DG B9 c.1.2/\NZ c.1.2/\0<=c.2/\c.2<Qc b 0/\dv B9 a=Qc b 0*dv B9 c.1.2+c.2/\c.1.2.length<=a.length) (h':JJ F ⟨some ⟨k,0,none⟩,(Q3 [c.2]).length,1⟩ (Q3 [c.2])) :
  QAI a b ((c.1.1,c.1.2),(⟨some ⟨k,0,none⟩,(Q3 [c.2]).length,1⟩,Q3 [c.2])) F:=by
 obtain⟨h1,h2,h3,h4,h5,h6,_⟩:=h;have e:dv B9 b=Qc b 0:=by
  obtain⟨x,rfl⟩:=List.length_eq_one_iff.1 nb;simp[dv,Qc]
 have b0:=db.Qc JE 0;refine⟨⟨h1,h2,h3,?_⟩,h',(DG.cons h4 O (DG.nil _)).Q3,Xi _,?_⟩
 ·show dv B9 c.1.2=_;rw[e];exact(ZX O (by rw[Int.mul_comm];omega) (by rw[Int.add_mul,Int.one_mul,Int.mul_comm];omega)).symm
 show dv B9 (Q3 [c.2])=_;rw[XB,I9,e,Zy (q:=dv B9 c.1.2) (by rw[Int.mul_comm];omega) (by rw[Int.add_mul,Int.one_mul,Int.mul_comm];omega),Int.mul_comm];omega
structure QIP(a:List Int)(f:Int) where
 U:List Int
 v:Value
 ob:List (Nat×Obj)
 le:U.length<=a.length+1
 du:DG B9 U
 h:dv B9 U=dv B9 a*f
 hr:Qp 3 1 v U.length (U.map Qs) ob
structure QIN(U v:List Int)(j:Nat)(t:Int) where
 i:Nat
 U':List Int
 br:Int
 le:i<=v.length
 h:Rq B9 U v j t i U' br
structure QIa(U v:List Int)(j n:Nat) where
 i:Nat
 U':List Int
 c:Int
 le:i<=n
 h:Ig.Ec B9 U v j n i U' c
@[reducible] def QHF (c:(Sr×List Int)×(Sr×List Int)):Value:=.tuple #[.slice c.1.1.q c.1.1.n c.1.1.cap,.slice c.2.1.q c.2.1.n c.2.1.cap]
set_option maxHeartbeats 4000000 in
theorem W1(hF:Fits F w)(hA:JJ F ra a)(hB:JJ F rb b)(da:DG B9 a)(db:DG B9 b)(za:NZ a)(zb:NZ b)(hb:0<dv B9 b)(la:a.length<=10000000)(lb:b.length<=10000000):
  QQ prog 163 [ra.v,rb.v] w F QHF (λc F=>QAI a b c F):=by
 obtain⟨q,n,c⟩:=ra;obtain⟨q',n',c'⟩:=rb;have na:=hA.2.1;have nb:=hB.2.1;dsimp only at na nb;have h9:B9=1000000000:=rfl;have nb0:0<n':=by
  rcases Nat.eq_zero_or_pos n' with g | g
  ·rw[g]at nb;rw[List.eq_nil_of_length_eq_zero nb]at hb;simp at hb
  exact g
 dsimp only[Sr.v];refine QQ.go (G:=λF=>JJ F ⟨q,n,c⟩ a/\JJ F ⟨q',n',c'⟩ b) func163 hF ⟨hA,hB⟩ ?_;refine wA 11 I<|QJ I (λ_ _ f k=>Wj f (ra:=⟨q,n,c⟩) (rb:=⟨q',n',c'⟩) k.1 (k.2) (da) (db) (za) (zb) O O) λ_=>QLi 3 I ?_
 refine QL I (λhc=>?_) λhc=>?_
 ·have hlt:dv B9 a<dv B9 b:=by have:=QK8 hc;unfold Zb at this;split at this;assumption;split at this<;>omega
  refine wA 8 I ?_;exact J7 (((⟨none,0,0⟩,[]),(⟨q,n,c⟩,a)):(Sr×List Int)×(Sr×List Int)) I (wP I I) (rfl) λF h9=>⟨⟨⟨Qu.nil F _ _,rfl,Nat.le_refl _⟩,DG.nil _,by simp[NZ],by rw[Tl];exact(Int.ediv_eq_zero_of_lt (Qx JE da) hlt).symm⟩,h9.1.1,da,za,(Int.emod_eq_of_lt (Qx JE da) hlt).symm⟩
 have hge:dv B9 b<=dv B9 a:=by have:=QK9 hc;unfold Zb at this;split at this;exact absurd this wv;omega
 refine QLj 6 I<|QA (QW I Qd)<|QLi 3 I ?_
 refine QL I (λhc=>?_) λhc=>?_
 ·have hn1:n'=1:=wm<|QK8 hc
  subst hn1;obtain⟨f1,_⟩:=TT (n:=0) db zb nb;have bx:=db.Qc JE 0;have d0:=bx.2;refine wA 4 I<|QA (Qo (n:=1) (0) (λF h9=>(h9.1.2).1) rfl wN Qd QZ O)<|QA (Qg (n:=1) ((0)*1) (λF h9=>(h9.1.2).1) O rfl QZ (JH (o:=b) O))<|QJ I (λ_ _ f k=>Em f (ra:=⟨q,n,c⟩) k.1.1 (da) O O (d0)) λc37=>QLi 8 I<|Xy _ (λ_ _ f k=>k.2.2) λp37=>wA 3 I<|Qw I (JR Qd) QZ Hj I I λb42=>QJ I (λ_ _ f k=>Wy f (r:=⟨some ⟨b42,0,none⟩,1,1⟩) (JJ.one k.2) w9) λc43=>QLi 5 I ?_
  exact J7 (((c37.1.1,c37.1.2),(⟨some ⟨b42,0,none⟩,(Q3 [c37.2]).length,1⟩,Q3 [c37.2])):(Sr×List Int)×(Sr×List Int)) I (wP I I) (rfl) λF h9=>gJ nb db c37 h9.1.1.2 h9.2
 have hn2:n'≠1:=λe=>QK9 hc O;obtain⟨m,rfl⟩:∃m,n'=m+2:=⟨n'-2,O⟩;obtain⟨f1,f2,f3,f4⟩:=TT (n:=m+1) db zb nb;have bx:=db.Qc JE (m+1);rw[h9]at bx f2 f3 f4;have d1f:DG B9 [1000000000/(Qc b (m+1)+1)]:=DG.cons O f3 (DG.nil _);refine QLj 6 I<|QA (QW I Qd)<|QA (Jk I I O)<|QA (Qo (n:=(m+2)) (m+1) (λF h9=>(h9.1.2).1) rfl wN Qd QZ O)<|QA (Qg (n:=(m+2)) ((m+1)*1) (λF h9=>(h9.1.2).1) O rfl QZ (JH (o:=b) O))<|QA (Qk I I O)<|QA (WO I I O O O)<|Qw I (JR Qd) QZ Hj I I λb52=>QLi 7 I ?_
 refine QJ I (λ_ _ f k=>Wz f (ra:=⟨q',m+2,c'⟩) (rb:=⟨some ⟨b52,0,none⟩,1,1⟩) k.1.1.2 (JJ.one k.2) (db) (d1f) O (by first | omega | (simp;done) | (simp;omega))) (λc55=>?_);rcases c55 with ⟨v55,l55⟩;dsimp only;refine JM _ (λw F hF ⟨⟨⟨⟨hA,hB⟩,_⟩,hs52⟩,⟨h55,h55p⟩⟩=>And.intro h55.2 h55p) (λp55=>wR rfl<|QG ?_);obtain⟨⟨n55,c55⟩,d55,e55,z55,m55⟩:=p55;rw[I9]at e55;have l55l:l55.length=m+2:=xj db zb nb d55 z55 e55 f2 f4;obtain⟨qv,nv,cv⟩:=v55;dsimp only at n55 c55 ⊢;obtain rfl:nv=m+2:=O;have zv:0<Qc l55 (m+1):=wm ((TT (n:=m+1) d55 z55 l55l).1);have hlab:b.length<=a.length:=Vi db da zb hge;refine wA 2 I<|QA (QW I Qd)<|QLi 5 I<|Zv (JR Qd) QZ λb58=>wB 2 I ?_
 refine QJ I (λ_ _ f k=>Wz f (ra:=⟨q,n,c⟩) (rb:=⟨some ⟨b52,0,none⟩,1,1⟩) k.1.1.1.1 (JJ.one k.1.2) (da) (d1f) O (by first | omega | (simp;done) | (simp;omega))) (λc61=>?_);rcases c61 with ⟨v61,l61⟩;dsimp only;refine JM _ (λw F hF ⟨⟨⟨⟨⟨hA,hB⟩,_⟩,hs52⟩,⟨h55,h55p⟩⟩,⟨h61,h61p⟩⟩=>And.intro h61.2 h61p) (λp61=>?_);obtain⟨⟨n61,c61⟩,d61,e61,z61,m61⟩:=p61;rw[I9]at e61;have hpos:0<l61.length:=by
  rcases Nat.eq_zero_or_pos l61.length with g | g
  ·rw[List.eq_nil_of_length_eq_zero g,Tl]at e61;have:0<dv B9 a*(1000000000/(Qc b (m+1)+1)):=Int.mul_pos O O;omega
  exact g
 obtain⟨qa,na',ca⟩:=v61;dsimp only at n61 c61 ⊢;refine JM _ (λ_ _ f h=>h.2.1.1.ptr (by dsimp only;omega)) (λhq=>?_);obtain⟨qab,qao,hq⟩:=hq;dsimp only at hq;subst hq;simp only[List.length_singleton]at m61;refine Zj (bs1:=[]) (ob:=[(b58,.cells #[] 3 (0,0))]) (n:=0) (k:=na') (sz:=1) (olds:=[]) (news:=l61.map Qs) rfl rfl Qd QZ Hj rfl Ws (Qp.some (l:=[]) (rest:=[]) rfl rfl (Nat.le_refl _) (Nat.zero_le _)) (Src.QHR (λF h=>h.2.1.1) O tA) O O (λv hv=>by obtain⟨x,_,rfl⟩:=List.mem_map.1 hv;rfl) (λv62 ob62 hr62=>QLi 5 I<|ZH (ι:=QIP a (1000000000/(Qc b (m+1)+1))) [(0,_),(8,_),(9,_),(10,_)] (λi=>[(11,i.v)]) (λi=>i.ob) (λi F=>True) (λi=>a.length+1-i.U.length) (⟨l61,v62,ob62,O,d61,e61,by rw[n61];simpa using hr62⟩) wW wT λi=>?_);have hle:=i.le;refine wA 4 I<|QA (PB I i.hr Qd)<|QJj I<|QA (QW I Qd)<|QA (Qk I I O)<|QLi 3 I ?_
 refine QL I (λhc=>?_) λhc=>?_
 ·refine QLj 5 I<|Qw I (JR Qd) QZ Hj I I λb70=>?_
  refine Zj (bs1:=[]) (ob:=i.ob) (k:=1) (sz:=1) (news:=[.int .i64 0]) I I Qd QZ Hj I Ws i.hr (Src.row (off:=0) tE (λj v hv=>by rw[Nat.zero_add];show([.int .i64 0].toArray)[j]?=some v;rw[List.getElem?_toArray];exact hv) rfl) O O (Zn wT) (λv71 ob71 hr71=>?_);refine wB 2 I<|Qa ?_
  exact Qb (⟨i.U++[0],v71,ob71,by have:=QK8 hc;simp;omega,i.du.append (DG.cons wv wv (DG.nil _)),by rw[XW,i.h];simp,by simpa[Qs]using hr71⟩) (by have:=QK8 hc;show a.length+1-(i.U++[0]).length<a.length+1-i.U.length;rw[List.length_append,List.length_singleton];omega)
 refine Q7 ?_;refine QG ?_;have hle0:=i.le;have hU:i.U.length=a.length+1:=wm<|QK9 hc
 obtain⟨U0,vU,obU,hle0,du0,hU0,hr0⟩:=i;dsimp only at hU hle0 hU0 ⊢;rw[hU]at hr0;obtain⟨bu,cu,rest,rfl,rfl,hcu⟩:=hr0.big O;refine wA 2 I<|QA (QW I Qd)<|QJj I<|QA (Jk I I O)<|Y8 (n:=a.length+1-(m+2)) (bytes:=8) wN wN Qd QZ Hj I Ws O O λbq=>?_
 rw[show JL [Value.int .i64 0] (a.length+1-(m+2))=(List.replicate (a.length+1-(m+2)) (0:Int)).map Qs by rw[Zl];simp[Qs]];refine Xu (List.Perm.swap _ _ _)<|QLi 7 I<|QA (QW I Qd)<|QJj I<|QA (Jk I I O)<|QA (Jk I I O)<|wR I<|QO<|ZH (ι:=Dw a l55 (1000000000/(Qc b (m+1)+1)) (m+2)) [(8,_),(9,_),(10,_),(11,_),(12,_)] (λi2=>[(13,.int .i64 ((i2.k:Int)-1))]) (λi2=>[(bu,.cells (i2.U.map Qs++rest).toArray 3 (0,0)),(bq,.cells (i2.Q.map Qs).toArray 3 (0,0))]) (λi2 F=>True) (λi2=>i2.k) (Dw.start da db zb nb e55 f2 du0 hU hU0 O) wX ⟨(congrArg (λz:Int=>some (Value.int .i64 z)) (by simp only[Dw.start];omega)),trivial⟩ λi2=>?_
 have hle2:=i2.le;have lu2:=i2.lu;have lq2:=i2.lq;refine wA 7 I ?_;refine QL I (λhc=>?_) λhc=>?_
 ·have hk0:0<i2.k:=wm<|QK8 hc
  rw[show((i2.k:Int)-1)=((i2.k-1:Nat):Int) by omega];obtain⟨hst,hwe⟩:=i2.jd d55 zv l55l hk0;have hz0:=i2.zero d55 l55l;refine QLj 9 I<|Xj (bs1:=_) rfl (List.Perm.refl _) (jw (rest:=rest) (U:=i2.U) (v:=l55) (j:=(i2.k-1)) (m:=m) (rv:=⟨qv,m+2,cv⟩) lu2 O O (λF h9=>h9.1.1.1.2.1) hst) λt89=>JM _ (λ_ _ f h=>h.2) λg89=>?_
  obtain⟨t0,t1,t2,t3⟩:=g89;rw[<-hwe]at t2 t3;refine QLi 15 I<|ZH (ι:=QIN i2.U l55 (i2.k-1) t89) [(8,_),(9,_),(10,_),(11,_),(12,_),(13,_),(14,_)] (λi3=>[(15,.int .i64 (i3.br)),(16,.int .i64 ((i3.i:Nat):Int))]) (λi3=>[(bu,.cells (i3.U'.map Qs++rest).toArray 3 (0,0)),(bq,.cells (i2.Q.map Qs).toArray 3 (0,0))]) (λi3 F=>True) (λi3=>l55.length-i3.i) (⟨0,i2.U,0,Nat.zero_le _,Rq.start wv i2.du _ _⟩) wZ wU λi3=>?_
  have hle3:=i3.le;have lU3:=i3.h.len;have br0:=i3.h.br0;have br1:=i3.h.br1;rw[h9]at br1;refine wA 8 I ?_;refine QL I (λhc=>?_) λhc=>?_
  ·have hi3:i3.i<m+2:=wm<|QK8 hc
   have bd:=vQ Al ⟨t0,t1⟩ (d55.Qc JE i3.i) ⟨i3.h.br0,i3.h.br1⟩;simp only[h9]at bd;have bu3:=i3.h.dg.Qc JE ((i2.k-1)+i3.i);rw[h9]at bu3;have hd3:Qc i3.U' ((i2.k-1)+i3.i)=Qc i2.U ((i2.k-1)+i3.i):=Zk i3.h.hi (Nat.le_refl _);refine QLj 9 I<|QA (Qo (n:=(m+2)) (i3.i) (λF h9=>(h9.1.1.1.1.1.2.1).1) rfl rfl Qd QZ O)<|QA (Qg (n:=(m+2)) ((i3.i)*1) (λF h9=>(h9.1.1.1.1.1.2.1).1) O rfl QZ (JH (o:=l55) O))<|QA (VN I I O)<|QJj I<|QA (Qk I I O)<|QLi 8 I<|QA (Qk I I O)<|QA (Qj (i:=(i2.k-1)+i3.i) rfl wN Qd QZ O)<|QA (Xm (c:=(i3.U').map Qs++rest) (T':=3) rfl QZ .here (Xd (by first | omega | (simp only[List.length_set];omega))))<|QJj I<|QA (Kr I I O O)<|QA (Jk I I O)<|QLi 6 I<|QA (WO I I O O O)<|QLi 6 I ?_
   refine QLi 4 I ?_;refine QL I (λhc=>?_) λhc=>?_
   ·have hx:=QK8 hc;refine wS I<|QA (Qk I I O)<|QLi 5 I<|QA (Qk I I O)<|QLi 7 I<|QA (Qk I I O)<|QJj I<|QA (Qj (i:=(i2.k-1)+i3.i) rfl wN Qd QZ O)<|QS (vs:=[_]) I I I QZ I .here (Z3 (by first | omega | (simp only[List.length_set];omega)) (((Qc (i3.U') ((i2.k-1)+i3.i)-(((t89*Qc l55 (i3.i))+i3.br)%1000000000))+1000000000))) wT<|QF<|Qa<|QLk 3 I<|QA (Qk I I O)<|wB 2 I ?_
    exact Qb (⟨i3.i+1,((i3.U').set ((i2.k-1)+i3.i) (((Qc (i3.U') ((i2.k-1)+i3.i)-(((t89*Qc l55 (i3.i))+i3.br)%1000000000))+1000000000))),((((t89*Qc l55 (i3.i))+i3.br)/1000000000)+1),O,i3.h.step O (by rw[h9];omega) (by rw[h9];omega) (by rw[h9,<-hd3];omega)⟩)
   have hx:=QK9 hc;refine QLj 6 I<|QA (Qk I I O)<|QJj I<|QA (Qj (i:=(i2.k-1)+i3.i) rfl wN Qd QZ O)<|QS (vs:=[_]) I I I QZ I .here (Z3 (by first | omega | (simp only[List.length_set];omega)) ((Qc (i3.U') ((i2.k-1)+i3.i)-(((t89*Qc l55 (i3.i))+i3.br)%1000000000)))) wT<|QF<|Qa<|QLk 3 I<|QA (Qk I I O)<|wB 2 I ?_
   exact Qb (⟨i3.i+1,((i3.U').set ((i2.k-1)+i3.i) ((Qc (i3.U') ((i2.k-1)+i3.i)-(((t89*Qc l55 (i3.i))+i3.br)%1000000000)))),(((t89*Qc l55 (i3.i))+i3.br)/1000000000),O,i3.h.step O (by rw[h9];omega) (by rw[h9];omega) (by rw[h9,<-hd3];omega)⟩)
  have hi3:i3.i=m+2:=wm<|QK9 hc
  refine Q7 ?_;refine QG ?_;have hs3:Rq B9 i2.U l55 (i2.k-1) t89 (m+2) i3.U' i3.br:=by have:=i3.h;rw[hi3]at this;exact this
  have hd3:Qc i3.U' ((i2.k-1)+(m+2))=Qc i2.U ((i2.k-1)+(m+2)):=Zk hs3.hi (Nat.le_refl _);have hS:=hs3.stop Al l55l O;rw[<-hd3]at hS;have bu4:=i2.du.Qc JE ((i2.k-1)+(m+2));rw[h9,<-hd3]at bu4;have htp:=hS.tp;have hz1:dv B9 (i2.U.drop ((i2.k-1)+(m+2)+1))=0:=by rw[show(i2.k-1)+(m+2)+1=i2.k+(m+2) by omega];exact hz0
  refine wA 4 I<|QA (Qk I I O)<|wB 3 I<|QA (Qk I I O)<|QA (Qj (i:=(i2.k-1)+(m+2)) I wN Qd QZ O)<|QA (Xm (c:=(i3.U').map Qs++rest) (T':=3) rfl QZ .here (Xd (by first | omega | (simp only[List.length_set];omega))))<|QJj I<|QA (Jk I I O)<|QA (Qj (i:=(i2.k-1)+(m+2)) I wN Qd QZ O)<|QS (vs:=[_]) I I I QZ I .here (Z3 (by first | omega | (simp only[List.length_set];omega)) ((Qc (i3.U') ((i2.k-1)+(m+2))-i3.br))) wT<|QLi 8 I<|QA (Qk I I O)<|QA (Qj (i:=(i2.k-1)+(m+2)) I wN Qd QZ O)<|QA (Xm (c:=(((i3.U').set ((i2.k-1)+(m+2)) ((Qc (i3.U') ((i2.k-1)+(m+2))-i3.br)))).map Qs++rest) (T':=3) rfl QZ .here (Xd (by first | omega | (simp only[List.length_set];omega))))<|QLi 3 I ?_
  refine QL I (λhc=>?_) λhc=>?_
  ·have hneg:Qc i3.U' ((i2.k-1)+(m+2))-i3.br<0:=by have:=QK8 hc;rw[htp]at this;exact this
   refine wS I<|QA (Jk I I O)<|QLi 15 I<|ZH (ι:=QIa (i3.U'.set ((i2.k-1)+(m+2)) (Qc i3.U' ((i2.k-1)+(m+2))-i3.br)) l55 (i2.k-1) (m+2)) [(8,_),(9,_),(10,_),(11,_),(12,_),(13,_),(14,_)] (λi4=>[(19,.int .i64 (i4.c)),(20,.int .i64 ((i4.i:Nat):Int))]) (λi4=>[(bu,.cells (i4.U'.map Qs++rest).toArray 3 (0,0)),(bq,.cells (i2.Q.map Qs).toArray 3 (0,0))]) (λi4 F=>True) (λi4=>m+2-i4.i) (⟨0,_,0,Nat.zero_le _,Ec.start hS.dg⟩) wZ wU λi4=>?_
   have hle4:=i4.le;have lU4:=i4.h.len;rw[List.length_set]at lU4;have c40:=i4.h.c0;have c41:=i4.h.c1;refine wA 8 I ?_;refine QL I (λhc=>?_) λhc=>?_
   ·have hi4:i4.i<m+2:=wm<|QK8 hc
    have bu5:=i4.h.Qc Al hi4;have bv5:=d55.Qc JE i4.i;rw[h9]at bu5 bv5;have hd4:=Zk i4.h.hi (Nat.le_refl _);refine QLj 5 I<|JC QJ3 mixed wu<|QI (QD I)<|QI (QD I)<|QI (QD I)<|QI (Qk I I O)<|QI (Qj (i:=(i2.k-1)+i4.i) rfl wN Qd QZ O)<|QI (Xm (c:=(i4.U').map Qs++rest) (T':=3) rfl QZ .here (Xd (by first | omega | (simp only[List.length_set];omega))))<|QI (QD I)<|QI (QD I)<|QI (Qo (n:=(m+2)) (i4.i) (λF h9=>(h9.1.1.1.1.1.1.2.1).1) rfl rfl Qd QZ O)<|QI (Qg (n:=(m+2)) ((i4.i)*1) (λF h9=>(h9.1.1.1.1.1.1.2.1).1) O rfl QZ (JH (o:=l55) O))<|QI (Qk I I O)<|QI (QD I)<|QI (Qk I I O)<|QI (QE I)<|Qv<|QLk 6 I<|QA (Qk I I O)<|QJj I<|QA (Kr I I O O)<|QA (Qj (i:=(i2.k-1)+i4.i) rfl wN Qd QZ O)<|QS (vs:=[_]) I I I QZ I .here (Z3 (by first | omega | (simp only[List.length_set];omega)) ((((Qc (i4.U') ((i2.k-1)+i4.i)+Qc l55 (i4.i))+i4.c)%1000000000))) wT<|QLi 4 I<|QA (WO I I O O O)<|wB 2 I<|Qa<|QC ?_
    refine wA 2 I<|QA (Qk I I O)<|wB 2 I ?_
    exact Qb (⟨i4.i+1,((i4.U').set ((i2.k-1)+i4.i) ((((Qc (i4.U') ((i2.k-1)+i4.i)+Qc l55 (i4.i))+i4.c)%1000000000))),(((Qc (i4.U') ((i2.k-1)+i4.i)+Qc l55 (i4.i))+i4.c)/1000000000),O,i4.h.step hi4 (by rw[List.length_set];omega) (by rw[h9];omega) O (by rw[h9,<-hd4];omega)⟩)
   have hi4:i4.i=m+2:=wm<|QK9 hc
   refine Q7 ?_;have hA4:Ig.Ec B9 (i3.U'.set ((i2.k-1)+(m+2)) (Qc i3.U' ((i2.k-1)+(m+2))-i3.br)) l55 (i2.k-1) (m+2) (m+2) i4.U' i4.c:=by have:=i4.h;rw[hi4]at this;exact this
   have hd5:Qc i4.U' ((i2.k-1)+(m+2))=Qc i3.U' ((i2.k-1)+(m+2))-i3.br:=by rw[Zk hA4.hi (Nat.le_refl _)];exact htp
   have hS5:Tv B9 i2.U l55 (i2.k-1) (m+2) t89 (i3.U'.set ((i2.k-1)+(m+2)) (Qc i3.U' ((i2.k-1)+(m+2))-i3.br)) (Qc i4.U' ((i2.k-1)+(m+2))):=by rw[hd5];exact hS
   obtain⟨g1,g2,g3,g4,g5⟩:=hA4.QBH Al hS5 i2.du d55 l55l hz1 O (by rw[hd5];exact hneg) t2;have lU4:=i4.h.len;rw[List.length_set]at lU4;have b5:Qc i4.U' ((i2.k-1)+(m+2))=Qc i3.U' ((i2.k-1)+(m+2))-i3.br:=hd5;refine wA 4 I<|QA (Qk I I O)<|wB 3 I<|QA (Qk I I O)<|QA (Qj (i:=(i2.k-1)+(m+2)) I wN Qd QZ O)<|QA (Xm (c:=(i4.U').map Qs++rest) (T':=3) rfl QZ .here (Xd (by first | omega | (simp only[List.length_set];omega))))<|QJj I<|QA (Qk I I O)<|QA (Qj (i:=(i2.k-1)+(m+2)) I wN Qd QZ O)<|QS (vs:=[_]) I I I QZ I .here (Z3 (by first | omega | (simp only[List.length_set];omega)) ((Qc (i4.U') ((i2.k-1)+(m+2))+i4.c))) wT<|QLi 6 I<|QA (Qj (i:=(i2.k-1)) I wN Qd QZ O)<|QS (vs:=[_]) I I I QZ I .u1 (WY (by first | omega | (simp only[List.length_set];omega)) ((t89-1))) wT<|QF<|Qa<|QLk 3 I<|QA (Jk I I O)<|wB 2 I ?_
   exact Qb (i2.next hk0 O (t:=t89-1) g4 O g1 g2 g3 g5) (by show i2.k-1<i2.k;omega)
  have hneg:0<=Qc i3.U' ((i2.k-1)+(m+2))-i3.br:=by have:=QK9 hc;rw[htp]at this;omega
  obtain⟨g1,g2,g3⟩:=hS.QBH Al O hneg (by rw[h9];omega) t3;refine QLj 6 I<|QA (Qj (i:=(i2.k-1)) I wN Qd QZ O)<|QS (vs:=[_]) I I I QZ I .u1 (WY (by first | omega | (simp only[List.length_set];omega)) (t89)) wT<|QF<|Qa<|QLk 3 I<|QA (Jk I I O)<|wB 2 I ?_
  exact Qb (i2.next hk0 O (t:=t89) t0 t1 g1 g2 g3 hS.len) (by show i2.k-1<i2.k;omega)
 have hk0:i2.k=0:=wm<|QK9 hc
 refine Q7 ?_;refine QG ?_;obtain⟨s1,s2⟩:=i2.stop hk0 db da e55 f2 hb d55 l55l;have lt40:=Xn (i2.U.take (m+2));rw[List.length_take]at lt40;refine Jf (b:=bu) .here<|Jf (b:=bq) .here<|JC QJ3 mixed wu<|QI (QD I)<|QI (QD I)<|QI (IY (m+2) rfl rfl rfl Qd QZ O)<|QV I (λ_ _ f k=>Wy f (r:=⟨some ⟨bu,0,none⟩,m+2,cu⟩) ((JJ.own k.1.2 i2.lu hcu).take O) (by rw[List.length_take];omega)) λc196=>QI (QD I)<|QI (Qo (n:=1) (0) (λF h9=>(Qu.of (n:=1) (sz:=1) h9.1.1.1.1.1.1.2 I)) I wN Qd QZ O)<|QI (Qg (n:=1) ((0)*1) (λF h9=>(Qu.of (n:=1) (sz:=1) h9.1.1.1.1.1.1.2 I)) O rfl QZ I)<|QV I (λ_ _ f k=>Em f (a:=Q3 (i2.U.take (m+2))) (ra:=⟨some ⟨bu,0,none⟩,(Q3 (i2.U.take (m+2))).length,cu⟩) k.2 ((i2.du.take _).Q3) O (f2) (f3)) λc200=>QI (QD I)<|QI (QU I I)<|QI (QU I I)<|QI (QE I)<|QI (QE I)<|Qv<|QC<|wS I<|QJ I (λ_ _ f k=>Wy f (r:=⟨some ⟨bq,0,none⟩,a.length+1-(m+2),a.length+1-(m+2)⟩) (JJ.QHX k.1.1.2 i2.lq (Nat.le_refl _)) O) λc204=>QLi 6 I ?_
 exact J7 (((⟨some ⟨bq,0,none⟩,(Q3 i2.Q).length,a.length+1-(m+2)⟩,Q3 i2.Q),(c200.1.1,c200.1.2)):(Sr×List Int)×(Sr×List Int)) I (wP I I) (rfl) λF h9=>⟨⟨h9.2,i2.dq.Q3,Xi _,by show dv B9 (Q3 i2.Q)=_;rw[XB];exact s1⟩,h9.1.2.1,h9.1.2.2.1,h9.1.2.2.2.1,jy O (by rw[<-s2,<-XB];exact h9.1.2.2.2.2.2.2.1) h9.1.2.2.2.2.1 h9.1.2.2.2.2.2.1⟩
section
variable{P:Program}{N:Nat}{m:Sl}{S:World->Prop}{ty:TypeId}
def Sm(P:Program)(T:TypeId):Bool:=match P.underlying T with
 |some .bool=>true
 |_=>false
def pK(h:Sm P T=true):P.underlying T=some .bool:=by
 unfold Sm at h;split at h
 ·assumption
 cases h
theorem N1(hT:Sm P T=true)(a b:Bool)(w:World):(Op.equal T (.bool a) (.bool b)).run P w = .ok (a==b) w:=by
 have e:∃n,Op.maxDepth=n+1:=⟨Op.maxDepth-1,wv⟩;obtain⟨n,e⟩:=e;unfold Op.equal;rw[e];unfold Op.equalIn;simp[run_underlying (pK hT)]
theorem QAj{a b:Bool}(hT:Sm P T=true)(hx:ev m x=some (.bool a))(hy:ev m y=some (.bool b)):Qt P N m S (.binOp .eql T x y yT) ty (.bool (a==b)):=λs w _ _ _ _ ha _=>by
 simp only[execOp,ha.ev hx,ha.ev hy,eqGuard,binOp,Sem.run_bind,Sem.run_pure,Result.andThen_ok,N1 hT];rfl
theorem QAi{a b:Bool}(hT:Sm P T=true)(hx:ev m x=some (.bool a))(hy:ev m y=some (.bool b)):Qt P N m S (.binOp .neq T x y yT) ty (.bool (!(a==b))):=λs w _ _ _ _ ha _=>by
 simp only[execOp,ha.ev hx,ha.ev hy,eqGuard,binOp,Sem.run_bind,Sem.run_pure,Result.andThen_ok,N1 hT];rfl
end
structure Ri where
 neg:Bool
 r:Sr
 l:List Int
@[reducible] def Ri.v (x:Ri):Value:=.agg #[.bool x.neg,.slice x.r.q x.r.n x.r.cap]
def BH(neg:Bool)(l:List Int):Int:=if neg=true then -dv B9 l else dv B9 l
def Yp(F:Gs)(x:Ri)(z:Int):Prop:=JJ F x.r x.l/\DG B9 x.l/\NZ x.l/\z=BH x.neg x.l/\(x.neg=true->0<dv B9 x.l)
def Yp.le{x:Ri}(h:Yp F x z)(k:Gs.le F F'):Yp F' x z:=⟨h.1.le k,h.2⟩
instance{x:Ri}{z:Int}: Up (λF=>Yp F x z):=⟨λk h=>Yp.le h k⟩
abbrev H2(P:Program)(f:FuncId)(args:List Value)(w:World)(F:Gs)(z:Int):Prop:=QQ P f args w F Ri.v λx F=>Yp F x z
structure Vr(neg:Bool)(l:List Int)(z:Int):Prop where
 dg:DG B9 l
 nz:NZ l
 e:z=BH neg l
 ng:neg=true->0<dv B9 l
def Yp.p{x:Ri}(h:Yp F x z):Vr x.neg x.l z:=⟨h.2.1,h.2.2.1,h.2.2.2.1,h.2.2.2.2⟩
def Vr.v0{neg:Bool}(h:Vr neg l z):0<=dv B9 l:=Qx JE h.dg
theorem Vr.abs{neg:Bool}(h:Vr neg l z):(z.natAbs:Int)=dv B9 l:=by
 have:=h.v0;rw[h.e,BH];split<;>omega
theorem QHm(h:DG B9 l)(z:NZ l):l.length<=sz (dv B9 l):=by
 rcases Nat.eq_zero_or_pos l.length with g | g
 ·omega
 have h1:=De JE h z (by intro e;rw[e]at g;simp at g);have h2:=BF (dv B9 l);have h3:=Qx JE h;rcases Nat.lt_or_ge (sz (dv B9 l)) l.length with q | q
 ·exfalso;have h4:(2:Int)^(l.length-1)<=B9^(l.length-1):=by
   have:∀n:Nat,(2:Int)^n<=B9^n:=by
    intro n
    induction n with
    |zero=>simp
    |succ n ih =>
     rw[Int.pow_succ,Int.pow_succ];exact Int.mul_le_mul ih wv wv (Int.le_of_lt (pow_pos JE n))
   exact this _
  have h5:(2:Int)^sz (dv B9 l)<=2^(l.length-1):=Ig.YR wv O;have h6:((dv B9 l).natAbs:Int)<((2^sz (dv B9 l):Nat):Int):=Int.ofNat_lt.2 h2;rw[Int.natCast_pow]at h6;have:((2:Nat):Int)=2:=rfl;rw[this]at h6;omega
 exact q
theorem Vr.len{neg:Bool}(h:Vr neg l z):l.length<=sz z:=by
 have:=QHm h.dg h.nz;have e:sz (dv B9 l)=sz z:=by
  rw[<-h.abs];unfold sz;simp
 omega
theorem Vr.neg{neg:Bool}(h:Vr neg l z):neg=decide (z<0):=by
 have h0:=h.v0;cases neg with
 |true=>have:=h.ng I;have e:=h.e;simp only[BH,if_true]at e;symm;rw[decide_eq_true_eq];omega
 |false=>have e:=h.e;simp only[BH]at e;symm;rw[decide_eq_false_iff_not];simp at e;omega
theorem Vr.zero{neg:Bool}(h:Vr neg l z):l=[]↔z=0:=by
 have:=KJ Al h.dg h.nz;have e:=h.abs;rw[<-this];omega
def jO(h:DG B9 l):(0<(Q3 l).length)↔0<dv B9 l:=by
 have h1:=KJ Al h.Q3 (Xi l);rw[XB]at h1;have h2:=Qx JE h;rw[<-List.length_eq_zero_iff]at h1;omega
theorem Zx{r:Sr}{neg:Bool}(hF:Fits F w)(hR:JJ F r l)(dg:DG B9 l)(hl:l.length<=1000000000):H2 prog 225 [.bool neg,r.v] w F (BH neg l):=by
 obtain⟨q,n,c⟩:=r;have hn:=hR.2.1;dsimp only[Sr.v]at hn ⊢;have hlz:=Xn l;have htp:=jO dg;have hv0:=Qx JE dg;refine QQ.go (G:=λF=>JJ F ⟨q,n,c⟩ l) func225 hF hR ?_;refine QKt<|Qe ZE λb4=>QLi 5 I<|QJ I (λ_ _ f k=>Wy f (r:=⟨q,n,c⟩) k (hl)) λc6=>QLi 7 I ?_
 refine Qn (t:=8) rfl (λhb8=>?_) λhb8=>?_
 ·refine wB 3 I<|QA (QW I Qd)<|wB 4 I<|QA (Jr I xP ZE (wQ I I I))<|QS (vs:=[_,_]) I I I Q2 I .here .h2 wU<|QJi<|QT ?_
  exact QM ((⟨decide ((((Q3 l).length:Nat):Int)>0),⟨q,(Q3 l).length,c⟩,Q3 l⟩:Ri)) I (.J4 (c:=[_,_]) I Q2 .here .nil) (rfl) λF ⟨hR,h6⟩=>⟨h6,dg.Q3,Xi _,by show BH neg l=BH (decide ((((Q3 l).length:Nat):Int)>0)) (Q3 l);rw[BH,BH,XB];cases neg<;>simp_all<;>omega,λhh=>by show 0<dv B9 (Q3 l);rw[XB];simp_all⟩
 refine wB 5 I<|QA (Jr I xP ZE (wQ I I I))<|QS (vs:=[_,_]) I I I Q2 I .here .h2 wU<|QJi<|QT ?_
 exact QM ((⟨false,⟨q,(Q3 l).length,c⟩,Q3 l⟩:Ri)) I (.J4 (c:=[_,_]) I Q2 .here .nil) (rfl) λF ⟨hR,h6⟩=>⟨h6,dg.Q3,Xi _,by show BH neg l=BH false (Q3 l);rw[BH,BH,XB];cases neg<;>simp_all<;>omega,λhh=>by show 0<dv B9 (Q3 l);rw[XB];simp_all⟩
theorem OR:Sm prog 4=true:=wu
def pG{x y:Int}(h:Zb x y>=0):y<=x:=by
 unfold Zb at h;split at h
 ·omega
 split at h<;>omega
def yH{x y:Int}(h:¬Zb x y>=0):x<=y:=by
 unfold Zb at h;split at h
 ·omega
 split at h<;>omega
theorem Us{x:Ri}(hF:Fits F w)(hx:Yp F x zx)(hz:sz zx<=1000000):H2 prog 240 [x.v] w F (-zx):=by
 obtain⟨xn,⟨xq,xm,xc⟩,xl⟩:=x;have px:=hx.p;have lx:=px.len;have kx:=hx.1.2.1;have vx:=px.v0;dsimp only at px lx kx vx;dsimp only[Ri.v];have eqn : -zx=BH (!xn) xl:=by rw[px.e];cases xn<;>simp[BH]
 refine QQ.go (G:=λF=>Yp F ⟨xn,⟨xq,xm,xc⟩,xl⟩ zx) func240 hF hx ?_;refine QKt<|Q8 I (vs:=[_,_]) I λb1=>Qe ZE λb2=>QJi<|QKt<|QA (QH I Yx Y9)<|QA (Qf I Y9 .u1 .h1)<|QA (YD I)<|QA (QH I XV Q5)<|QA (Qf I Q5 .u1 (.skip .h1))<|QJ I (λ_ _ f k=>Zx f (r:=⟨xq,xm,xc⟩) (l:=xl) (neg:=!xn) k.1 (px.dg) O) λc8=>QS (vs:=[_,_]) I I I Q2 I .here .h2 wU<|QJi<|QT ?_
 exact QM (c8) rfl (.J4 (c:=[_,_]) I Q2 .here .nil) (rfl) λF h9=>(by rw[eqn];exact h9.2)
theorem YP{x y:Ri}{zy:Int}(hF:Fits F w)(hx:Yp F x zx)(hy:Yp F y zy)(hzx:sz zx<=1000000)(hzy:sz zy<=1000000):H2 prog 193 [x.v,y.v] w F (zx*zy):=by
 obtain⟨xn,⟨xq,xm,xc⟩,xl⟩:=x;have px:=hx.p;have lx:=px.len;have kx:=hx.1.2.1;have vx:=px.v0;dsimp only at px lx kx vx;obtain⟨yn,⟨yq,ym,yc⟩,yl⟩:=y;have py:=hy.p;have ly:=py.len;have ky:=hy.1.2.1;have vy:=py.v0;dsimp only at py ly ky vy;dsimp only[Ri.v];refine QQ.go (G:=λF=>Yp F ⟨xn,⟨xq,xm,xc⟩,xl⟩ zx/\Yp F ⟨yn,⟨yq,ym,yc⟩,yl⟩ zy) func193 hF ⟨hx,hy⟩ ?_;refine QKt<|Q8 I (vs:=[_,_]) I λb2=>Q8 I (vs:=[_,_]) I λb3=>Qe ZE λb4=>QJi<|QG<|JC (.cons _ tF) mixed wu<|QI (QH I Yx Y9)<|QI (Qf I Y9 .u1 .h1)<|QI (QH I Yx Y9)<|QI (Qf I Y9 .here .h1)<|QI (QAi OR I I)<|QI (QH I XV Q5)<|QI (Qf I Q5 .u1 (.skip .h1))<|QI (QH I XV Q5)<|QI (Qf I Q5 .here (.skip .h1)) ?_
 refine QV I (λ_ _ f k=>Wz f (a:=xl) (b:=yl) (ra:=⟨xq,xm,xc⟩) (rb:=⟨yq,ym,yc⟩) k.1.1 (k.2.1) (px.dg) (py.dg) O (by first | omega | (simp;done) | (simp;omega))) (λc14=>?_);rcases c14 with ⟨v14,l14⟩;dsimp only;refine WI _ (λw F hF ⟨⟨hx,hy⟩,⟨h14,h14p⟩⟩=>And.intro h14.2 h14p) (λp14=>?_);have eqn:zx*zy=BH (!(xn==yn)) l14:=by
  have e14:=p14.2.2.1;rw[px.e,py.e];unfold BH;rw[e14];cases xn<;>cases yn<;>simp[Int.mul_neg,Int.neg_mul]
 have m14:=p14.2.2.2.2;refine QV I (λ_ _ f k=>Zx f (r:=v14) (l:=l14) (neg:=!(xn==yn)) k.2.1 (p14.2.1) O) (λc15=>Ju (vs:=[_,_]) I I I Q2 I .here tF (λ_ h=>h.1.1) .h2 wU<|Qv<|QC<|QT ?_);exact QM (c15) rfl (.J4 (c:=[_,_]) I Q2 .here .nil) (rfl) λF h9=>(by rw[eqn];exact h9.2)
theorem Lr{x y:Ri}{zy:Int}(hF:Fits F w)(hx:Yp F x zx)(hy:Yp F y zy)(hzx:sz zx<=1000000)(hzy:sz zy<=1000000):H2 prog 238 [x.v,y.v] w F (zx+zy):=by
 obtain⟨xn,⟨xq,xm,xc⟩,xl⟩:=x;have px:=hx.p;have lx:=px.len;have kx:=hx.1.2.1;have vx:=px.v0;dsimp only at px lx kx vx;obtain⟨yn,⟨yq,ym,yc⟩,yl⟩:=y;have py:=hy.p;have ly:=py.len;have ky:=hy.1.2.1;have vy:=py.v0;dsimp only at py ly ky vy;dsimp only[Ri.v];refine QQ.go (G:=λF=>Yp F ⟨xn,⟨xq,xm,xc⟩,xl⟩ zx/\Yp F ⟨yn,⟨yq,ym,yc⟩,yl⟩ zy) func238 hF ⟨hx,hy⟩ ?_;refine QKt<|Q8 I (vs:=[_,_]) I λb2=>Q8 I (vs:=[_,_]) I λb3=>Qe ZE λb4=>QLi 5 I<|QA (QH I Yx Y9)<|QA (Qf I Y9 .u2 .h1)<|QA (QH I Yx Y9)<|QA (Qf I Y9 .u1 .h1)<|QA (QAj OR I I)<|QF<|QC ?_
 refine QL I (λhc=>?_) λhc=>?_
 ·have hne:xn=yn:=by simpa using hc
  refine QG<|JC (.cons _ tF) mixed wu<|QI (QH I Yx Y9)<|QI (Qf I Y9 .u1 .h1)<|QI (QH I XV Q5)<|QI (Qf I Q5 .u1 (.skip .h1))<|QI (QH I XV Q5)<|QI (Qf I Q5 .here (.skip .h1)) ?_
  refine QV I (λ_ _ f k=>TL f (a:=xl) (b:=yl) (ra:=⟨xq,xm,xc⟩) (rb:=⟨yq,ym,yc⟩) k.1.1 (k.2.1) (px.dg) (py.dg) O (by first | omega | (simp;done) | (simp;omega))) (λc16=>?_);rcases c16 with ⟨v16,l16⟩;dsimp only;refine WI _ (λw F hF ⟨⟨hx,hy⟩,⟨h16,h16p⟩⟩=>And.intro h16.2 h16p) (λp16=>?_);have eqn:zx+zy=BH xn l16:=by
   have e16:=p16.2.2.1;rw[px.e,py.e,hne];unfold BH;rw[e16];cases yn<;>simp<;>omega
  have m16:=p16.2.2.2;refine QV I (λ_ _ f k=>Zx f (r:=v16) (l:=l16) (neg:=xn) k.2.1 (p16.2.1) O) (λc17=>Ju (vs:=[_,_]) I I I Q2 I .here tF (λ_ h=>h.1.1) .h2 wU<|Qv<|QC<|QT ?_);exact QM (c17) rfl (.J4 (c:=[_,_]) I Q2 .here .nil) (rfl) λF h9=>(by rw[eqn];exact h9.2)
 have hne:xn=!yn:=by cases xn<;>cases yn<;>simp_all
 refine QLj 5 I<|QA (QH I XV Q5)<|QA (Qf I Q5 .u2 (.skip .h1))<|QA (QH I XV Q5)<|QA (Qf I Q5 .u1 (.skip .h1))<|QJ I (λ_ _ f k=>Wj f (a:=xl) (b:=yl) (ra:=⟨xq,xm,xc⟩) (rb:=⟨yq,ym,yc⟩) k.1.1 (k.2.1) (px.dg) (py.dg) (px.nz) (py.nz) O O) λ_=>QLi 3 I ?_
 refine QL I (λhc=>?_) λhc=>?_
 ·have hle:dv B9 yl<=dv B9 xl:=pG (QK8 hc);have hll:=Vi py.dg px.dg py.nz hle;refine QG<|JC (.cons _ tF) mixed wu<|QI (QH I Yx Y9)<|QI (Qf I Y9 .u1 .h1)<|QI (QH I XV Q5)<|QI (Qf I Q5 .u1 (.skip .h1))<|QI (QH I XV Q5)<|QI (Qf I Q5 .here (.skip .h1)) ?_
  refine QV I (λ_ _ f k=>DN f (a:=xl) (b:=yl) (ra:=⟨xq,xm,xc⟩) (rb:=⟨yq,ym,yc⟩) k.1.1.1 (k.1.2.1) (px.dg) (py.dg) O O (hle)) (λc30=>?_);rcases c30 with ⟨v30,l30⟩;dsimp only;refine WI _ (λw F hF ⟨⟨⟨hx,hy⟩,_⟩,⟨h30,h30p⟩⟩=>And.intro h30.2 h30p) (λp30=>?_);have eqn:zx+zy=BH xn l30:=by
   have e30:=p30.2.2.1;rw[px.e,py.e,hne];unfold BH;rw[e30];cases yn<;>simp<;>omega
  have m30:=p30.2.2.2;refine QV I (λ_ _ f k=>Zx f (r:=v30) (l:=l30) (neg:=xn) k.2.1 (p30.2.1) O) (λc31=>Ju (vs:=[_,_]) I I I Q2 I .here tF (λ_ h=>h.1.1) .h2 wU<|Qv<|QC<|QT ?_);exact QM (c31) rfl (.J4 (c:=[_,_]) I Q2 .here .nil) (rfl) λF h9=>(by rw[eqn];exact h9.2)
 have hle:dv B9 xl<=dv B9 yl:=yH (QK9 hc);have hll:=Vi px.dg py.dg px.nz hle;refine QLj 3 I<|JC (.cons _ tF) mixed wu<|QI (QH I Yx Y9)<|QI (Qf I Y9 .here .h1)<|QI (QH I XV Q5)<|QI (Qf I Q5 .here (.skip .h1))<|QI (QH I XV Q5)<|QI (Qf I Q5 .u1 (.skip .h1)) ?_
 refine QV I (λ_ _ f k=>DN f (a:=yl) (b:=xl) (ra:=⟨yq,ym,yc⟩) (rb:=⟨xq,xm,xc⟩) k.1.2.1 (k.1.1.1) (py.dg) (px.dg) O O (hle)) (λc38=>?_);rcases c38 with ⟨v38,l38⟩;dsimp only;refine WI _ (λw F hF ⟨⟨⟨hx,hy⟩,_⟩,⟨h38,h38p⟩⟩=>And.intro h38.2 h38p) (λp38=>?_);have eqn:zx+zy=BH yn l38:=by
  have e38:=p38.2.2.1;rw[px.e,py.e,hne];unfold BH;rw[e38];cases yn<;>simp<;>omega
 have m38:=p38.2.2.2;refine QV I (λ_ _ f k=>Zx f (r:=v38) (l:=l38) (neg:=yn) k.2.1 (p38.2.1) O) (λc39=>Ju (vs:=[_,_]) I I I Q2 I .here tF (λ_ h=>h.1.1) .h2 wU<|Qv<|QC<|QT ?_);exact QM (c39) rfl (.J4 (c:=[_,_]) I Q2 .here .nil) (rfl) λF h9=>(by rw[eqn];exact h9.2)
structure QIZ(A B:Int) where
 ra:Sr
 rb:Sr
 a:List Int
 b:List Int
 da:DG B9 a
 db:DG B9 b
 za:NZ a
 zb:NZ b
 la:a.length<=10000000
 lb:b.length<=10000000
 nb:b.length=rb.n
 h:Int.gcd (dv B9 a) (dv B9 b)=Int.gcd A B
def CZ(x y:Int):Int.gcd y (x%y)=Int.gcd x y:=by
 rw[Int.gcd_comm y,Int.emod_def]
 first | rw[Int.gcd_sub_mul_left_left] | rw[Int.gcd_sub_mul_right_left] | rw[Int.gcd_sub_mul_left] | simp
theorem SB(hF:Fits F w)(hA:JJ F ra a)(hB:JJ F rb b)(da:DG B9 a)(db:DG B9 b)(za:NZ a)(zb:NZ b)(la:a.length<=10000000)(lb:b.length<=10000000):
  QQ prog 94 [ra.v,rb.v] w F (λ(c:Sr×List Int)=>.slice c.1.q c.1.n c.1.cap) (λc F=>JJ F c.1 c.2/\DG B9 c.2/\NZ c.2/\dv B9 c.2=(Int.gcd (dv B9 a) (dv B9 b):Int)):=by
 refine QQ.go (G:=λF=>JJ F ra a/\JJ F rb b) func94 hF ⟨hA,hB⟩ ?_;refine wA 7 I<|ZH (ι:=QIZ (dv B9 a) (dv B9 b)) [] (λi=>[(0,.slice i.ra.q i.ra.n i.ra.cap),(1,.slice i.rb.q i.rb.n i.rb.cap)]) (λi=>[]) (λi F=>JJ F i.ra i.a/\JJ F i.rb i.b) (λi=>(dv B9 i.b).toNat) (⟨ra,rb,a,b,da,db,za,zb,la,lb,hB.2.1,rfl⟩) trivial wU λi=>?_
 have hla:=i.la;have hlb:=i.lb;have hnb:=i.nb;refine wA 4 I<|QA (QW I Qd)<|QLi 3 I ?_
 refine QL I (λhc=>?_) λhc=>?_
 ·have hpos:0<dv B9 i.b:=by
   have h1:=KJ Al i.db i.zb;have h2:=Qx JE i.db;rw[<-List.length_eq_zero_iff]at h1;have:=QK8 hc;omega
  have hm0:=Int.emod_nonneg (dv B9 i.a) (Int.ne_of_gt hpos);have hm1:=Int.emod_lt_of_pos (dv B9 i.a) hpos;refine QLj 3 I<|wS rfl<|QJj rfl<|QJ rfl (λ_ _ f k=>W1 f (a:=i.a) (b:=i.b) (ra:=i.ra) (rb:=i.rb) k.2.1 (k.2.2) (i.da) (i.db) (i.za) (i.zb) (hpos) O O) λc13=>QJj rfl<|QA (QU rfl rfl)<|QA (QU rfl rfl)<|QJk rfl<|wR rfl<|Xy _ (λ_ _ f h=>And.intro h.2.2.2 h.2.2.1.2.1) λq13=>?_
  obtain⟨q13,n13⟩:=q13;refine wA 6 I<|Qa ?_
  exact Qb (⟨i.rb,c13.2.1,i.b,c13.2.2,i.db,q13.1,i.zb,q13.2.1,i.lb,by have:=Vi q13.1 i.db q13.2.1 (by rw[q13.2.2];omega);omega,n13,by rw[q13.2.2,CZ];exact i.h⟩) (hg:=λF ⟨⟨⟨hA,hB⟩,⟨hR1,hR2⟩⟩,h13⟩=>⟨⟨hA,hB⟩,⟨hR2,h13.2.1⟩⟩)
 have hz:i.b=[]:=by
  have:=QK9 hc;exact List.eq_nil_of_length_eq_zero O
 refine Q7 ?_;refine wA 7 I ?_;exact QM ((i.ra,i.a):Sr×List Int) rfl (wO I) (rfl) λF h9=>⟨h9.2.1,i.da,i.za,by have e:=i.h;rw[hz,Tl,Int.gcd_zero_right]at e;have:=Qx JE i.da;show dv B9 i.a=_;omega⟩
section
variable{P:Program}{N:Nat}{m:Sl}{S:World->Prop}{ty:TypeId}
theorem xE{a b:Int}(hx:ev m x=some (.int .i64 a))(hy:ev m y=some (.int .i64 b))(h:1<b)(h0 : -9223372036854775808<=a)(h1:a<=9223372036854775807):Qt P N m S (.binOp .quo T x y yT) ty (.int .i64 (a.tdiv b)):=by
 have:=Lv (P:=P) (N:=N) (m:=m) (S:=S) (ty:=ty) (T:=T) (yT:=yT) hx hy O;have e:=Int.natAbs_tdiv a b;have e2:a.natAbs.div b.natAbs<=a.natAbs:=Nat.div_le_self _ _;have e3:a.natAbs.div b.natAbs<=a.natAbs/2:=Nat.div_le_div_left O wv;rw[IntWalk.i64_in _ O]at this;exact this
end
def TC(neg:Bool)(m:Nat):Int:=if neg=true then -(m:Int)else(m:Int)
def vY(neg:Bool)(m:Nat):(TC neg m).tmod 1000000000=TC neg (m%1000000000):=by
 unfold TC;split
 ·rw[Int.neg_tmod];exact congrArg Neg.neg (Int.ofNat_tmod m 1000000000).symm
 exact(Int.ofNat_tmod m 1000000000).symm
def Ln(neg:Bool)(m:Nat):(TC neg m).tdiv 1000000000=TC neg (m/1000000000):=by
 unfold TC;split
 ·rw[Int.neg_tdiv];exact congrArg Neg.neg (Int.ofNat_tdiv m 1000000000).symm
 exact(Int.ofNat_tdiv m 1000000000).symm
def jj(n:Int):n=TC (decide (n<0)) n.natAbs:=by
 unfold TC;by_cases h:n<0
 ·simp[h];omega
 simp[h];omega
def EC(neg:Bool)(m:Nat):TC neg m=m\/TC neg m = -(m:Int):=by
 unfold TC;split
 ·exact .inr rfl
 exact .inl rfl
structure WhI(M:Nat) where
 m:Nat
 out:List Int
 v:Value
 ob:List (Nat×Obj)
 le:m<=M
 l3:out.length<=3
 dg:DG B9 out
 h:dv B9 out+B9^out.length*(m:Int)=M
 hr:Qp 3 1 v out.length (out.map Qs) ob
theorem WhI.two{M:Nat}(i:WhI M)(hM:M<=9223372036854775808)(h0:0<i.m):i.out.length<=2:=by
 rcases Nat.lt_or_ge 2 i.out.length with g | g
 ·exfalso;have e:i.out.length=3:=wm i.l3;have h:=i.h;have h1:=Qx JE i.dg;rw[e]at h;have h2:B9^3*1<=B9^3*(i.m:Int):=Int.mul_le_mul_of_nonneg_left O wv;have h3:B9^3=1000000000000000000000000000:=wv;rw[h3]at h2 h;omega
 exact g
theorem LV{m M:Nat}(h:dv B9 l+B9^l.length*(m:Int)=M):dv B9 (l++[((m%1000000000:Nat):Int)])+B9^(l++[((m%1000000000:Nat):Int)]).length*((m/1000000000:Nat):Int)=M:=by
 rw[XW,List.length_append,List.length_singleton,Int.pow_succ,Int.mul_assoc,Int.add_assoc,<-Int.mul_add,<-h];have e:((m%1000000000:Nat):Int)+B9*((m/1000000000:Nat):Int)=m:=by
  have h9:B9=1000000000:=rfl;rw[h9];omega
 rw[e]
theorem Wg{n:Int}(hF:Fits F w)(hn : -9223372036854775808<=n/\n<=9223372036854775807):H2 prog 162 [.int .i64 n] w F n:=by
 refine QQ.go (G:=λF=>True) func162 hF trivial ?_;refine QKt<|Qe ZE λb2=>QLi 16 I<|ZH (ι:=WhI n.natAbs) [(2,_),(4,_)] (λi=>[(0,.int .i64 (TC (decide (n<0)) i.m)),(3,i.v)]) (λi=>(b2,.cells [.bool false,.slice none 0 0].toArray 164 (0,0))::i.ob) (λi F=>True) (λi=>i.m) (⟨n.natAbs,[],.slice none 0 0,[],Nat.le_refl _,w9,DG.nil _,w9,.nil⟩) wU ⟨congrArg (λz:Int=>some (Value.int .i64 z)) (jj n),rfl,trivial⟩ λi=>?_
 have hle:=i.le;have hM:n.natAbs<=9223372036854775808:=O;have hcs:=EC (decide (n<0)) i.m;have hsr : -9223372036854775808<=TC (decide (n<0)) i.m/\TC (decide (n<0)) i.m<=9223372036854775807:=by unfold TC;split<;>rename_i g<;>simp at g<;>omega
 refine wA 7 I ?_;refine QL I (λhc=>?_) λhc=>?_
 ·have h9:B9=1000000000:=rfl;have hm0:0<i.m:=by
   rcases Nat.eq_zero_or_pos i.m with g | g
   ·rw[g]at hc;cases hd:decide (n<0)<;>simp[TC,hd]at hc
   exact g
  have l2:=i.two hM hm0;refine QLj 6 I<|QA (uZ I I wv) ?_
  rw[vY];refine QLi 10 I ?_;refine QL I (λhc=>?_) λhc=>?_
  ·have e1:TC (decide (n<0)) (i.m%1000000000) = -(((i.m%1000000000):Nat):Int):=by
    have:=QK8 hc;rcases EC (decide (n<0)) (i.m%1000000000)with g | g<;>omega
   rw[e1];refine wA 2 I<|QA (Jk I I O)<|QLi 7 I<|Qw I (JR Qd) QZ Hj I I λb18=>Xu (bs':=[(b2,.cells [.bool false,.slice none 0 0].toArray 164 (0,0))]++i.ob) (List.Perm.refl _) ?_
   refine Zj (ob:=i.ob) (k:=1) (sz:=1) (news:=[.int .i64 (0 - -(((i.m%1000000000):Nat):Int))]) I I Qd QZ Hj I Ws i.hr (Src.row (off:=0) tE (λj v hv=>by rw[Nat.zero_add];show([.int .i64 (0 - -(((i.m%1000000000):Nat):Int))].toArray)[j]?=some v;rw[List.getElem?_toArray];exact hv) rfl) O O (Zn wT) (λv19 ob19 hr19=>?_);refine QLi 5 I<|QA (xE I I wv O O) ?_
   rw[Ln];refine wB 2 I<|Qa ?_
   exact Qb (⟨i.m/1000000000,i.out++[(((i.m%1000000000):Nat):Int)],v19,ob19,O,by rw[List.length_append,List.length_singleton];omega,i.dg.append (DG.cons O (by show _<B9;rw[h9];omega) (DG.nil _)),LV i.h,by simpa[Qs]using hr19⟩)
  have e1:TC (decide (n<0)) (i.m%1000000000)=(((i.m%1000000000):Nat):Int):=by
   have:=QK9 hc;rcases EC (decide (n<0)) (i.m%1000000000)with g | g<;>omega
  rw[e1];refine QLj 6 I<|Qw I (JR Qd) QZ Hj I I λb18=>Xu (bs':=[(b2,.cells [.bool false,.slice none 0 0].toArray 164 (0,0))]++i.ob) (List.Perm.refl _) ?_
  refine Zj (ob:=i.ob) (k:=1) (sz:=1) (news:=[.int .i64 ((((i.m%1000000000):Nat):Int))]) I I Qd QZ Hj I Ws i.hr (Src.row (off:=0) tE (λj v hv=>by rw[Nat.zero_add];show([.int .i64 ((((i.m%1000000000):Nat):Int))].toArray)[j]?=some v;rw[List.getElem?_toArray];exact hv) rfl) O O (Zn wT) (λv19 ob19 hr19=>?_);refine QLi 5 I<|QA (xE I I wv O O) ?_
  rw[Ln];refine wB 2 I<|Qa ?_
  exact Qb (⟨i.m/1000000000,i.out++[(((i.m%1000000000):Nat):Int)],v19,ob19,O,by rw[List.length_append,List.length_singleton];omega,i.dg.append (DG.cons O (by show _<B9;rw[h9];omega) (DG.nil _)),LV i.h,by simpa[Qs]using hr19⟩)
 have hm0:i.m=0:=by
  rcases hcs with g | g
  ·rw[g]at hc;simp at hc;exact hc
  rw[g]at hc;simp at hc;exact hc
 refine Q7 ?_;refine QG ?_;have hfin:=i.h;rw[hm0]at hfin;have l3:=i.l3;obtain⟨r,hv,hrn,hrc,hfix⟩:=Qp.fix (w0:=w) (F0:=F) (bs1:=[(b2,.cells [.bool false,.slice none 0 0].toArray 164 (0,0))]) (G:=λF=>True/\True) i.hr;refine Hh hfix ?_;rw[hv];refine wA 3 I<|QJ I (λ_ _ f k=>Zx f (r:=r) (l:=i.out) (neg:=decide (n<0)) ⟨by rw[hrn];exact k.2,by rw[hrn],O⟩ (i.dg) O) λc24=>QS (vs:=[_,_]) I I I Q2 I .here .h2 wU<|QJi<|QT ?_
 have e:n=BH (decide (n<0)) i.out:=by
  have e2:=jj n;unfold BH;unfold TC at e2;split at e2<;>rename_i hs<;>simp only[hs]<;>simp<;>omega
 exact QM (c24) rfl (.J4 (c:=[_,_]) I Q2 .here .nil) (rfl) λF ⟨⟨⟨hT,_⟩,hX⟩,h24⟩=>(by rw[<-e]at h24;exact h24)
theorem V6{x:Int}{least:Nat}(hF:Fits F w)(h0:0<=x)(hn:x<=9223372036854775807)(hl:least<=1000):QY prog 237 [.int .i64 x,.int .i64 (least:Int)] w F (tx (EO x.toNat least)):=by
 have:=IV (n:=x.toNat) (least:=least) hF O hl;rw[Int.toNat_of_nonneg h0]at this;exact this
theorem Pp{n:Nat}(h:0<n):EO n 1=Lib.decDigits n:=by
 have hne:(Lib.decDigits n).length≠0:=λe=>YW n (List.eq_nil_of_length_eq_zero e);unfold EO hd Vd;rw[if_neg O,show 1-(Lib.decDigits n).length=0 by omega];rfl
def Sg(n:Nat):EO n 9=Vd 9 (Lib.decDigits n):=by
 unfold EO hd;split
 ·rename_i h;subst h;rw[X8];decide
 rfl
theorem BO{n:Nat}(h:n<1000000000):(EO n 9).length=9:=by
 rw[Sg,U6];have:=Zo (u:=n) (k:=9) O wv;rw[Lib.decDigits_length];exact this
structure yQ(l:List Int) where
 k:Nat
 s:List UInt8
 le:k<l.length
 ps:0<dv B9 (l.drop k)
 sl:s.length<=20+9*(l.length-k)
 h:s=Lib.decDigits (dv B9 (l.drop k)).toNat
theorem Hs(hd:DG B9 l)(hz:NZ l)(h0:0<l.length):dv B9 (l.drop (l.length-1))=Qc l (l.length-1)/\0<Qc l (l.length-1):=by
 have e:=XC (l:=l) (k:=l.length-1) O;rw[List.drop_of_length_le (i:=l.length-1+1) O]at e;refine⟨by rw[e];simp[dv],?_⟩;obtain⟨h1,_⟩:=TT (n:=l.length-1) hd hz O;omega
def yQ.start{l:List Int}(hd:DG B9 l)(hz:NZ l)(h0:0<l.length):yQ l:=⟨l.length-1,EO (Qc l (l.length-1)).toNat 1,O,by rw[(Hs hd hz h0).1];exact(Hs hd hz h0).2,by
  have b:=hd.Qc JE (l.length-1);have h9:B9=1000000000:=rfl;rw[Pp (wm<|(Hs hd hz h0).2),Lib.decDigits_length];have:=Zo (u:=(Qc l (l.length-1)).toNat) (k:=9) (by rw[h9]at b;omega) wv;omega,by
  rw[Pp (wm<|(Hs hd hz h0).2),(Hs hd hz h0).1]⟩
def yQ.add(i:yQ l)(hd:DG B9 l)(hk:0<i.k):dv B9 (l.drop (i.k-1))=Qc l (i.k-1)+B9*dv B9 (l.drop i.k):=by
 have hle:=i.le;rw[XC O,Yy,show i.k-1+1=i.k by omega]
def yQ.next{l:List Int}(i:yQ l)(hd:DG B9 l)(hk:0<i.k):yQ l:=⟨i.k-1,i.s++EO (Qc l (i.k-1)).toNat 9,wm i.le,by
  rw[i.add hd hk];have b:=hd.Qc JE (i.k-1);have p:=i.ps;have:B9*1<=B9*dv B9 (l.drop i.k):=Int.mul_le_mul_of_nonneg_left O wv;have h9:B9=1000000000:=rfl;omega,by
  have b:=hd.Qc JE (i.k-1);have h9:B9=1000000000:=rfl;rw[h9]at b;have hle:=i.le;have hsl:=i.sl;rw[List.length_append,BO O];omega,by
  have b:=hd.Qc JE (i.k-1);have h9:B9=1000000000:=rfl;rw[h9]at b;have p:=i.ps;have e:=Kt (q:=(dv B9 (l.drop i.k)).toNat) O 9 (Qc l (i.k-1)).toNat wv O;rw[Sg,i.h,<-e,i.add hd hk];congr 1;generalize dv B9 (l.drop i.k)=D at *
  rw[h9];omega⟩
theorem Mh{x:Ri}(hF:Fits F w)(hx:Yp F x zx)(hz:sz zx<=1000000):QY prog 184 [x.v] w F (tx (XZ zx)):=by
 obtain⟨xn,⟨xq,xm,xc⟩,xl⟩:=x;have px:=hx.p;have lx:=px.len;have kx:=hx.1.2.1;have vx:=px.v0;dsimp only at px lx kx vx;dsimp only[Ri.v];have h9:B9=1000000000:=rfl;refine QQ.go (G:=λF=>Yp F ⟨xn,⟨xq,xm,xc⟩,xl⟩ zx) func184 hF hx ?_;refine QKt<|Q8 I (vs:=[_,_]) I λb1=>QLi 6 I<|QA (QH I XV Q5)<|QA (Qf I Q5 .here (.skip .h1))<|QA (QW I Qd)<|QLi 3 I ?_
 refine QL I (λhc=>?_) λhc=>?_
 ·have hx0:zx=0:=(px.zero).1 (List.eq_nil_of_length_eq_zero (by have:=hc;simp at this;omega));refine wA 6 I ?_;exact QL3 I I (by rw[hx0,Je wv];exact congrArg (λl=>tx l) X8) tB
 have hl0:0<xl.length:=by
  rcases Nat.eq_zero_or_pos xm with g | g
  ·rw[g]at hc;simp at hc
  omega
 obtain⟨d1,d2⟩:=Hs px.dg px.nz hl0;have b0:=px.dg.Qc JE (xl.length-1);rw[h9]at b0;refine QLj 4 I<|QA (QH I XV Q5)<|QA (Qf I Q5 .here (.skip .h1))<|QA (QH I XV Q5)<|QA (Qf I Q5 .here (.skip .h1))<|QA (QW I Qd)<|QA (Jk I I O)<|QA (Qo (n:=xm) (xl.length-1) (λF hx=>(hx.1).1) rfl wN Qd QZ O)<|QA (Qg (n:=xm) ((xl.length-1)*1) (λF hx=>(hx.1).1) O rfl QZ (JH (o:=xl) O))<|QJ I (λ_ _ f k=>V6 f (least:=1) O O O) λ_=>QLi 6 I<|QA (QH I XV Q5)<|QA (Qf I Q5 .here (.skip .h1))<|QA (QW I Qd)<|QA (Jk I I O)<|wR I<|QO<|Jo (ι:=yQ xl) [(1,_)] (λi=>[(3,tx i.s),(4,.int .i64 ((i.k:Int)-1))]) (λi=>i.k) (yQ.start px.dg px.nz hl0) wT ⟨rfl,(congrArg (λz:Int=>some (Value.int .i64 z)) (by simp only[yQ.start];omega)),trivial⟩ λi=>?_
 have hle:=i.le;have hsl:=i.sl;refine wA 7 I ?_;refine QL I (λhc=>?_) λhc=>?_
 ·have hk0:0<i.k:=wm<|QK8 hc
  have b1:=px.dg.Qc JE (i.k-1);rw[h9]at b1;have ln:=BO (n:=(Qc xl (i.k-1)).toNat) O;refine QLj 6 I<|QA (QH I XV Q5)<|QA (Qf I Q5 .here (.skip .h1))<|QJj I<|QA (Qo (n:=xm) (i.k-1) (λF h9=>(h9.1.1).1) rfl wN Qd QZ O)<|QA (Qg (n:=xm) ((i.k-1)*1) (λF h9=>(h9.1.1).1) O rfl QZ (JH (o:=xl) O))<|QJ I (λ_ _ f k=>V6 f (least:=9) O O O) λ_=>QA (XP I I O)<|wB 2 I<|Qa<|QLk 3 I<|QA (Jk I I O)<|wB 2 I ?_
  exact Qb (i.next px.dg hk0) (by show i.k-1<i.k;omega) ⟨rfl,rfl,(congrArg (λz:Int=>some (Value.int .i64 z)) (by simp only[yQ.next];omega)),trivial⟩
 have hk0:i.k=0:=wm<|QK9 hc
 have hi:=i.h;rw[hk0,List.drop_zero]at hi;have ha:=px.abs;refine Q7 ?_;refine QG<|QKt<|QA (QH I Yx Y9)<|QA (Qf I Y9 .here .h1)<|QF<|QC ?_
 refine QL I (λhc=>?_) λhc=>?_
 ·have hneg:zx<0:=by have:=px.neg;rw[hc]at this;exact QK8 this.symm
  refine wS I<|QA (XP I I tA)<|wR I<|QT ?_
  exact QL3 I I (by rw[Zq hneg,hi];exact congrArg (λn=>tx (45::Lib.decDigits n)) O) tB
 have hneg:¬zx<0:=by have:=px.neg;rw[hc]at this;exact QK9 this.symm
 refine QLj 9 I ?_;exact QL3 I I (by rw[Je O,hi];exact congrArg (λn=>tx (Lib.decDigits n)) O) tB
structure PaI(s:List UInt8) where
 s':List UInt8
 out:List Int
 v:Value
 ob:List (Nat×Obj)
 dg:DG B9 out
 al:XT s'=true
 ll:s'.length+9*out.length<=s.length
 h:(JF s':Int)*B9^out.length+dv B9 out=JF s
 hr:Qp 3 1 v out.length (out.map Qs) ob
def AE:((10^9:Nat):Int)=B9:=wv
theorem gA{s:List UInt8}{out:List Int}(h:(JF s:Int)*B9^out.length+dv B9 out=z)(hl:9<=s.length):(JF (s.take (s.length-9)):Int)*B9^(out++[(JF (s.drop (s.length-9)):Int)]).length+dv B9 (out++[(JF (s.drop (s.length-9)):Int)])=z:=by
 have e:=YF (s.take (s.length-9)) (s.drop (s.length-9));rw[List.take_append_drop,List.length_drop,show s.length-(s.length-9)=9 by omega]at e;rw[XW,List.length_append,List.length_singleton,Int.pow_succ,<-h,e,Int.natCast_add,Int.natCast_mul,AE];generalize B9^out.length=p;generalize ((JF (s.take (s.length-9)):Nat):Int)=a;generalize ((JF (s.drop (s.length-9)):Nat):Int)=b;generalize B9=B
 grind
def Bo(h:Lib.hasPrefix s [45]=true):1<=s.length:=by
 rcases Nat.eq_zero_or_pos s.length with g | g
 ·rw[List.eq_nil_of_length_eq_zero g]at h;simp[Lib.hasPrefix]at h
 omega
theorem Vp{Q:Exit->Act->World->Prop}{ops:Array Oper}{l:List Oper}{N:Nat}{m:Sl}{E E':Env}(h:∀w,St E w->St E' w)(k:JS P ops Q l N m E'):JS P ops Q l N m E:=λa w ha hw=>k a w ha (h w hw)
theorem QAq{t:List UInt8}{out:List Int}(h:(JF t:Int)*B9^out.length+dv B9 out=JF (Lib.trimPrefix s [45])):BH (Lib.hasPrefix s [45]) (out++[(JF t:Int)])=YQ s:=by
 have e:dv B9 (out++[(JF t:Int)])=JF (Lib.trimPrefix s [45]):=by
  rw[XW,<-h,Int.mul_comm];omega
 unfold BH YQ;rw[e];unfold Lib.trimPrefix;cases Lib.hasPrefix s [45]<;>simp
def R9{s:List UInt8}(h:XT s=true)(hl:s.length<=9):(JF s:Int)<B9:=by
 have h1:=K1 h;have h2:10^s.length<=10^9:=Nat.pow_le_pow_right wv hl;have h3:=AE;omega
theorem Wi(hF:Fits F w)(hs:XT (Lib.trimPrefix s [45])=true)(hl:s.length<=1000000):H2 prog 161 [tx s] w F (YQ s):=by
 refine QQ.go (G:=λF=>True) func161 hF trivial ?_;refine QKt<|Qe ZE λb2=>QF<|QC ?_
 refine Zu [(0,_),(2,_)] [(3,.bool (Lib.hasPrefix s [45]))] wU ?_ ?_
 ·refine wA 2 I<|QA (Jx I XO)<|wB 2 I ?_
  refine Qn (t:=8) rfl (λhb8=>?_) λhb8=>?_
  ·refine wB 3 I<|QA (KG (i:=0) rfl rfl XO (wm<|QK8 hb8))<|wB 5 I ?_
   exact J9 ⟨rfl,rfl,(congrArg (λb=>some (Value.bool b)) (by have h0:0<s.length:=(wm<|QK8 hb8);rw[Yt h0];exact Gu I)),trivial⟩
  refine wB 6 I ?_;exact J9 ⟨rfl,rfl,(congrArg (λb=>some (Value.bool b)) (by have h0:s.length=0:=(wm<|QK9 hb8);rw[List.eq_nil_of_length_eq_zero h0];rfl)),trivial⟩
 refine Zu [(2,_),(3,_)] [(0,tx (Lib.trimPrefix s [45]))] wU ?_ ?_
 ·refine wA 5 I ?_;refine QL I (λhc=>?_) λhc=>?_
  ·refine wA 2 I<|QA (Z2 (1) rfl rfl XO I (Bo hc))<|wB 2 I ?_
   exact J9 ⟨rfl,rfl,(congrArg (λl=>some (tx l)) (by unfold Lib.trimPrefix;rw[if_pos hc];rfl)),trivial⟩
  refine QK ?_;exact J9 ⟨rfl,rfl,(congrArg (λl=>some (tx l)) (by unfold Lib.trimPrefix;rw[hc];rfl)),trivial⟩
 have hln:(Lib.trimPrefix s [45]).length<=s.length:=Nu _ _;refine wA 7 I<|ZH (ι:=PaI (Lib.trimPrefix s [45])) [(2,_),(3,_)] (λi=>[(0,tx i.s'),(4,i.v)]) (λi=>(b2,.cells [.bool false,.slice none 0 0].toArray 164 (0,0))::i.ob) (λi F=>True) (λi=>i.s'.length) (⟨Lib.trimPrefix s [45],[],.slice none 0 0,[],DG.nil _,hs,w9,w9,.nil⟩) wU wU λi=>?_
 have hll:=i.ll;refine wA 4 I<|QA (Jx I XO)<|QLi 3 I ?_
 refine QL I (λhc=>?_) λhc=>?_
 ·have h9:9<i.s'.length:=wm<|QK8 hc
  refine QLj 8 I<|QA (Jx I XO)<|QA (Jk I I O)<|QA (Z2 (i.s'.length-9) rfl rfl XO wN O)<|QJ I (λ_ _ f k=>DM f (EU i.al _) (by rw[List.length_drop];omega)) λ_=>Qw I (JR Qd) QZ Hj I I λb26=>Xu (bs':=[(b2,.cells [.bool false,.slice none 0 0].toArray 164 (0,0))]++i.ob) (List.Perm.refl _) ?_
  refine Zj (ob:=i.ob) (k:=1) (sz:=1) (news:=[.int .i64 ((JF (i.s'.drop (i.s'.length-9)):Int))]) I I Qd QZ Hj I Ws i.hr (Src.row (off:=0) tE (λj v hv=>by rw[Nat.zero_add];show([.int .i64 ((JF (i.s'.drop (i.s'.length-9)):Int))].toArray)[j]?=some v;rw[List.getElem?_toArray];exact hv) rfl) O O (Zn wT) (λv27 ob27 hr27=>?_);refine QLi 6 I<|QA (Jx I XO)<|QA (Jk I I O)<|QA (V8 (i.s'.length-9) rfl rfl XO wN O)<|wB 2 I<|Qa ?_
  exact Qb (⟨i.s'.take (i.s'.length-9),i.out++[(JF (i.s'.drop (i.s'.length-9)):Int)],v27,ob27,i.dg.append (DG.cons O (R9 (EU i.al _) (by rw[List.length_drop];omega)) (DG.nil _)),Hy i.al _,by rw[List.length_take,List.length_append,List.length_singleton];omega,gA i.h O,by simpa[Qs]using hr27⟩) (by show(i.s'.take (i.s'.length-9)).length<i.s'.length;rw[List.length_take];omega)
 have h9:i.s'.length<=9:=wm<|QK9 hc
 refine Q7 ?_;refine wA 5 I<|QJ I (λ_ _ f k=>DM f (i.al) O) λ_=>Qw I (JR Qd) QZ Hj I I λb37=>Xu (bs':=[(b2,.cells [.bool false,.slice none 0 0].toArray 164 (0,0))]++i.ob) (List.Perm.refl _) ?_
 refine Zj (ob:=i.ob) (k:=1) (sz:=1) (news:=[.int .i64 ((JF i.s':Int))]) I I Qd QZ Hj I Ws i.hr (Src.row (off:=0) tE (λj v hv=>by rw[Nat.zero_add];show([.int .i64 ((JF i.s':Int))].toArray)[j]?=some v;rw[List.getElem?_toArray];exact hv) rfl) O O (Zn wT) (λv38 ob38 hr38=>?_);obtain⟨r,hv,hrn,hrc,hfix⟩:=Qp.fix (w0:=w) (F0:=F) (bs1:=[(b2,.cells [.bool false,.slice none 0 0].toArray 164 (0,0))]) (G:=_) hr38;refine Vp hfix ?_;rw[hv];refine QJ I (λw F hF ⟨⟨⟨⟨hT,_⟩,_⟩,hs37⟩,hX⟩=>Zx hF (r:=r) (l:=i.out++[(JF i.s':Int)]) (neg:=Lib.hasPrefix s [45]) ⟨by rw[hrn];simpa[Qs]using hX,by rw[hrn];simp,O⟩ (i.dg.append (DG.cons O (R9 i.al h9) (DG.nil _))) (by first | omega | (simp;omega))) (λc39=>QS (vs:=[_,_]) I I I Q2 I .here .h2 wU<|QJi<|QT ?_);exact QM (c39) rfl (.J4 (c:=[_,_]) I Q2 .here .nil) (rfl) λF ⟨⟨⟨⟨⟨hT,_⟩,_⟩,hs37⟩,hX⟩,h39⟩=>(by rw[QAq i.h]at h39;exact h39)
def Hr(z:Int):(XZ z).length<=sz z+2:=by
 have h:(Lib.decDigits z.natAbs).length<=sz z+1:=by
  rw[Lib.decDigits_length];refine Zo ?_ O;have h1:=BF z;have h2:2^sz z<=10^sz z:=Nat.pow_le_pow_left wv _;have h3:10^sz z<=10^(sz z+1):=Nat.pow_le_pow_right wv O;omega
 rcases Int.lt_or_le z 0 with g | g
 ·rw[Zq g,List.length_cons];omega
 rw[Je g];omega
def TY(n:Nat):(Lib.decDigits n).length<=sz (n:Int)+1:=by
 rw[Lib.decDigits_length];refine Zo ?_ O;have h1:=BF (n:Int);have h2:2^sz (n:Int)<=10^sz (n:Int):=Nat.pow_le_pow_left wv _;have h3:10^sz (n:Int)<=10^(sz (n:Int)+1):=Nat.pow_le_pow_right wv O;simp at h1;omega
theorem Hq(x:Rat):(Q6 x).length<=2*XH x+4:=by
 have h1:=Hr x.num;have h2:=TY x.den;have h3:=JU x;have h4:=JQ x;unfold Q6;split
 ·omega
 rw[List.length_append,List.length_cons];omega
def Sn{l:List UInt8}(h:l.contains 47=false):l.all (λc=>!Jh c)=true:=by
 rw[List.all_eq_true];intro c hc;have:c≠47:=by rintro rfl;simp[hc]at h
 simp[Jh,this]
def VT(z:Int):(XZ z).contains 47=false:=DS z wv wv
theorem ML{x:Rat}(h:x.den=1):Q6 x=XZ x.num/\ahead Jh (Q6 x)=(Q6 x).length:=by
 have e:Q6 x=XZ x.num:=by unfold Q6;rw[if_pos h]
 exact⟨e,by rw[e];exact Ss (Sn (VT _))⟩
theorem VY{x:Rat}(h:x.den≠1):ahead Jh (Q6 x)=(XZ x.num).length/\ahead Jh (Q6 x)<(Q6 x).length/\(Q6 x).take (ahead Jh (Q6 x))=XZ x.num/\(Q6 x).drop (ahead Jh (Q6 x)+1)=Lib.decDigits x.den:=by
 have e:Q6 x=XZ x.num++47::Lib.decDigits x.den:=by unfold Q6;rw[if_neg h]
 have h1:ahead Jh (Q6 x)=(XZ x.num).length:=by
  refine Sq (by rw[e];simp) ?_ ?_
  ·rw[e,List.take_append_of_le_length (Nat.le_refl _),List.take_length];exact Sn (VT _)
  simp[e,Jh]
 rw[h1];refine⟨rfl,by rw[e];simp,?_,?_⟩
 ·rw[e];simp
 rw[e,List.drop_append];simp
def RZ(x:Rat):(ahead Jh (Q6 x)=(Q6 x).length)↔x.den=1:=by
 constructor
 ·intro h;by_cases g:x.den=1
  ·exact g
  have:=(VY g).2.1;omega
 intro h;exact(ML h).2
def SH(z:Int):XT (Lib.trimPrefix (XZ z) [45])=true:=by rw[VQ];exact JN _
def Cf(n:Nat):XT (Lib.trimPrefix (Lib.decDigits n) [45])=true:=by rw[Yc (JN n)];exact JN _
def O4(n:Nat):YQ (Lib.decDigits n)=n:=by rw[ZJ (JN n),Jg]
@[reducible] def Ri.v2 (c:Ri×Ri):Value:=.tuple #[c.1.v,c.2.v]
theorem KX{x:Rat}(hF:Fits F w)(hl:XH x<=100000):QQ prog 93 [tx (Q6 x)] w F Ri.v2 (λc F=>Yp F c.1 x.num/\Yp F c.2 x.den):=by
 have hlen:=Hq x;refine QQ.go (G:=λF=>True) func93 hF trivial ?_;refine QKt<|Qe ZE λb2=>Qe ZE λb3=>QLi 11 I<|QJ I (λ_ _ f k=>Wh f O) λ_=>QLi 8 I<|QA (Jx I XO)<|QLi 3 I ?_
 refine QL I (λhc=>?_) λhc=>?_
 ·have hd:x.den=1:=(RZ x).1 (by have:(ahead Jh (Q6 x):Int)=((Q6 x).length:Int):=(by simpa using hc);omega);rw[(ML hd).1];refine wS I<|QJ I (λ_ _ f k=>Wi f (SH _) (by have:=Hr x.num;have:=JU x;omega)) λc14=>QJ I (λ_ _ f k=>Wg f wv) λc15=>QS (vs:=[_,_]) I I I Q2 I .u1 .h2 wU<|QS (vs:=[_,_]) I I I Q2 I .here .h2 wU<|QJi<|QT ?_
  exact J7 ((c14,c15):Ri×Ri) rfl (.J4 (c:=[_,_]) I Q2 .u1 (.J4 (c:=[_,_]) I Q2 .here .nil)) (rfl) λF ⟨⟨⟨hT,_⟩,h14⟩,h15⟩=>⟨by rw[ZT]at h14;exact h14,by have e:(x.den:Int)=1:=(by rw[hd];rfl);rw[e];exact h15⟩
 have hd:¬x.den=1:=λg=>by have:=(RZ x).2 g;rw[this]at hc;simp at hc
 obtain⟨k1,k2,k3,k4⟩:=VY hd;refine QLj 3 I<|JC (.cons _ (.cons _ .slnil)) mixed wu<|QI (QD I)<|QI (QD I)<|QI (V8 (ahead Jh (Q6 x)) I I XO I O) ?_
 rw[k3];refine QV I (λ_ _ f k=>Wi f (SH _) (by have:=Hr x.num;have:=JU x;omega)) (λc19=>QI (QD I)<|QI (QD I)<|QI (Qk I I O)<|QI (Z2 ((ahead Jh (Q6 x)+1)) I I XO wN O) ?_);rw[k4];refine QV I (λ_ _ f k=>Wi f (Cf _) (by have:=TY x.den;have:=JQ x;omega)) (λc24=>Ju (vs:=[_,_]) I I I Q2 I .u1 (.cons _ .slnil) (λ_ h=>h.1.1) .h2 wU<|Ju (vs:=[_,_]) I I I Q2 I .here (.cons _ .slnil) (λ_ h=>h.1.1) .h2 wU<|Qv<|QC<|QT ?_);exact J7 ((c19,c24):Ri×Ri) rfl (.J4 (c:=[_,_]) I Q2 .u1 (.J4 (c:=[_,_]) I Q2 .here .nil)) (rfl) λF ⟨⟨⟨hT,_⟩,Al⟩,h24⟩=>⟨by rw[ZT]at Al;exact Al,by rw[O4]at h24;exact h24⟩
structure QIW(zx zy:Int) where
 n:Ri
 d:Ri
 zn:Int
 zd:Int
 h:0<zd
 e:Rat.divInt zn zd=Rat.divInt zx zy
 sn:sz zn<=500000
 sd:sz zd<=500000
theorem dV{n d:Int}(h:0<d){neg:Bool}{l p:List Int}(hn:Vr neg l n)(hp:dv B9 p=dv B9 l/(Int.gcd n d:Int)):BH neg p=(Rat.divInt n d).num:=by
 rw[(YH h).1];have hg:(0:Int)<(Int.gcd n d:Int):=wm (K8 (x:=n) h);obtain⟨k,hk⟩:=Int.gcd_dvd_left (a:=n) (b:=d);have e:=hn.e;have hv:=hn.v0;unfold BH at e ⊢;rw[hp];cases neg with
 |true =>
  simp only[if_true]at e ⊢;have e2:dv B9 l=(Int.gcd n d:Int)*(-k):=by rw[Int.mul_neg,<-hk];omega
  rw[e2,Int.mul_ediv_cancel_left _ O];have e3:n/(Int.gcd n d:Int)=k:=by
   conv=>lhs;lhs;rw[hk]
   exact Int.mul_ediv_cancel_left _ O
  rw[e3];omega
 |false =>
  simp only[Bool.false_eq_true,if_false]at e ⊢;rw[<-e]
def dW{n d:Int}(h:0<d){neg:Bool}{l p:List Int}(hn:Vr neg l d)(hp:dv B9 p=dv B9 l/(Int.gcd n d:Int)):dv B9 p=((Rat.divInt n d).den:Int):=by
 rw[(YH h).2,hp];have:=hn.abs;congr 1;omega
def Aq{n d:Int}{a b:Bool}{m:List Int}(hn:Vr a l n)(hd:Vr b m d):Int.gcd (dv B9 l) (dv B9 m)=Int.gcd n d:=by
 rw[<-hn.abs,<-hd.abs];simp[Int.gcd]
def Az(x y:Int):Rat.divInt (-x) (-y)=Rat.divInt x y:=Rat.neg_divInt_neg x y
theorem PE(h:DG B9 l)(hz:NZ l):(l.length=1/\Qc l 0=1)↔dv B9 l=1:=by
 constructor
 ·rintro⟨h1,h2⟩;obtain⟨x,rfl⟩:=List.length_eq_one_iff.1 h1;simp[Qc]at h2;simp[dv,h2]
 intro e;have:l=[1]:=zu Al h (DG.cons wv wv (DG.nil _)) hz (by simp[NZ]) (by rw[e];simp[dv]);subst this;exact⟨rfl,rfl⟩
def Lu{x:Rat}(h:(x.den:Int)=1):XZ x.num=Q6 x:=by unfold Q6;rw[if_pos O]
theorem TK{x:Rat}(h:¬(x.den:Int)=1):XZ x.num++[47]++XZ (x.den:Int)=Q6 x:=by
 unfold Q6;rw[if_neg O,Je (z:=(x.den:Int)) O];simp
theorem KY{x y:Ri}{zy:Int}(hF:Fits F w)(hx:Yp F x zx)(hy:Yp F y zy)(h0:zy≠0)(hzx:sz zx<=500000)(hzy:sz zy<=500000):QY prog 192 [x.v,y.v] w F (tx (Q6 (Rat.divInt zx zy))):=by
 obtain⟨xn,⟨xq,xm,xc⟩,xl⟩:=x;have px:=hx.p;have lx:=px.len;have kx:=hx.1.2.1;have vx:=px.v0;dsimp only at px lx kx vx;obtain⟨yn,⟨yq,ym,yc⟩,yl⟩:=y;have py:=hy.p;have ly:=py.len;have ky:=hy.1.2.1;have vy:=py.v0;dsimp only at py ly ky vy;dsimp only[Ri.v];have hny:=py.neg;refine QQ.go (G:=λF=>Yp F ⟨xn,⟨xq,xm,xc⟩,xl⟩ zx/\Yp F ⟨yn,⟨yq,ym,yc⟩,yl⟩ zy) func192 hF ⟨hx,hy⟩ ?_;refine QKt<|Q8 I (vs:=[_,_]) I λb2=>Q8 I (vs:=[_,_]) I λb3=>QLi 3 I ?_
 refine Ba (ι:=QIW zx zy) [(2,_),(3,_)] (λi=>[]) (λi=>[(b3,.cells [.bool i.d.neg,.slice i.d.r.q i.d.r.n i.d.r.cap].toArray 164 (0,0)),(b2,.cells [.bool i.n.neg,.slice i.n.r.q i.n.r.n i.n.r.cap].toArray 164 (0,0))]) (λi F=>Yp F i.n i.zn/\Yp F i.d i.zd) wU ?_ ?_
 ·refine QKt<|QA (QH I Yx Y9)<|QA (Qf I Y9 .here .h1)<|QF<|QC ?_
  refine QL I (λhc=>?_) λhc=>?_
  ·refine JY 4 QJ3 mixed wu wu ?_;simp only[List.take_succ_cons,List.take_zero,List.drop_succ_cons,List.drop_zero];refine QI (wH I Q2 .u1)<|QV I (λ_ _ f k=>Us f (x:=⟨xn,⟨xq,xm,xc⟩,xl⟩) k.1 O) λc14=>QI (wH I Q2 .here)<|QV I (λ_ _ f k=>Us f (x:=⟨yn,⟨yq,ym,yc⟩,yl⟩) k.1.2 O) λc16=>X1<|QS (vs:=[_,_]) I I I Q2 I .u1 .h2 wU<|QS (vs:=[_,_]) I I I Q2 I .here .h2 wU<|QF ?_
   exact XG (⟨c14,c16,-zx,-zy,by rw[hc]at hny;have:=QK8 hny.symm;omega,Az _ _,by rw[Kq];exact hzx,by rw[Kq];exact hzy⟩)
  refine QK ?_;exact XG (⟨⟨xn,⟨xq,xm,xc⟩,xl⟩,⟨yn,⟨yq,ym,yc⟩,yl⟩,zx,zy,by rw[hc]at hny;have:=QK9 hny.symm;omega,rfl,hzx,hzy⟩)
 intro i;refine Xy _ (λ_ _ f h=>And.intro h.2.1.p (And.intro h.2.2.p (And.intro h.2.1.1.2.1 h.2.2.1.2.1))) (λpp=>?_);obtain⟨pn,pd,kn,kd⟩:=pp;have ln:=pn.len;have ld:=pd.len;have hsn:=i.sn;have hsd:=i.sd;have hi:=i.h;have gg:=Aq pn pd;have q1:=Ko (a:=i.zn) (b:=i.zd) O;have q2:=JU (Rat.divInt i.zn i.zd);have q3:=JQ (Rat.divInt i.zn i.zd);have q4:sz (Rat.divInt i.zn i.zd).num<=500000:=O;have q5:sz ((Rat.divInt i.zn i.zd).den:Int)<=500000:=O;refine QKt<|QA (QH I XV Q5)<|QA (Qf I Q5 .u1 (.skip .h1))<|QA (QH I XV Q5)<|QA (Qf I Q5 .here (.skip .h1)) ?_
 refine QJ I (λ_ _ f k=>SB f (a:=i.n.l) (b:=i.d.l) (ra:=i.n.r) (rb:=i.d.r) k.2.1.1 (k.2.2.1) (pn.dg) (pd.dg) (pn.nz) (pd.nz) O O) (λc21=>?_);rcases c21 with ⟨v21,l21⟩;dsimp only;refine JM _ (λw F hF ⟨⟨⟨hx,hy⟩,⟨hN,hD⟩⟩,⟨h21,h21p⟩⟩=>And.intro h21.2 h21p) (λp21=>wR rfl<|QG ?_);have g0:0<dv B9 l21:=by rw[p21.2.2.2,gg];have:=K8 (x:=i.zn) i.h;omega
 have l21l:l21.length<=i.d.l.length:=by
  refine Vi p21.2.1 pd.dg p21.2.2.1 ?_;rw[p21.2.2.2,gg];have h1:(Int.gcd i.zn i.zd:Int)<=i.zd:=Int.le_of_dvd i.h (Int.gcd_dvd_right (a:=i.zn) (b:=i.zd));have h2:=pd.abs;omega
 refine QB<|QA (QH rfl XV Q5)<|QA (Qf rfl Q5 .u1 (.skip .h1))<|QJj rfl<|QJ rfl (λ_ _ f k=>W1 f (a:=i.n.l) (b:=l21) (ra:=i.n.r) (rb:=v21) k.1.2.1.1 (k.2.1) (pn.dg) (p21.2.1) (pn.nz) (p21.2.2.1) (g0) O O) λc26=>QJj rfl<|QA (QU rfl rfl)<|QA (QU rfl rfl)<|QJk rfl<|wR rfl<|QG<|Xy _ (λ_ _ f h=>And.intro h.2.1.2 h.2.1.1.2.1) λp26=>?_
 obtain⟨p26,n26⟩:=p26;refine QB<|QA (QH rfl XV Q5)<|QA (Qf rfl Q5 .here (.skip .h1))<|QJj rfl<|QJ rfl (λ_ _ f k=>W1 f (a:=i.d.l) (b:=l21) (ra:=i.d.r) (rb:=v21) k.1.1.2.2.1 (k.1.2.1) (pd.dg) (p21.2.1) (pd.nz) (p21.2.2.1) (g0) O O) λc33=>QJj rfl<|QA (QU rfl rfl)<|QA (QU rfl rfl)<|QJk rfl<|wR rfl<|QG<|Xy _ (λ_ _ f h=>And.intro h.2.1.2 h.2.1.1.2.1) λp33=>?_
 obtain⟨p33,n33⟩:=p33;have en:BH i.n.neg c26.1.2=(Rat.divInt i.zn i.zd).num:=dV i.h pn (by rw[p26.2.2,p21.2.2.2,gg]);have ed:dv B9 c33.1.2=((Rat.divInt i.zn i.zd).den:Int):=dW i.h pd (by rw[p33.2.2,p21.2.2.2,gg]);have ed2:BH false c33.1.2=((Rat.divInt i.zn i.zd).den:Int):=by rw[<-ed];rfl
 have lnp:=Vi p26.1 pn.dg p26.2.1 (by rw[p26.2.2];exact Int.ediv_le_self _ pn.v0);have lnq:=Vi p33.1 pd.dg p33.2.1 (by rw[p33.2.2];exact Int.ediv_le_self _ pd.v0);have one1:=PE p33.1 p33.2.1;have lr1:=Hr (Rat.divInt i.zn i.zd).num;have lr2:=Hr ((Rat.divInt i.zn i.zd).den:Int);refine QB<|QA (QH I Yx Y9)<|QA (Qf I Y9 .u1 .h1)<|QJj I<|QJ I (λ_ _ f k=>Zx f (r:=c26.1.1) (l:=c26.1.2) (neg:=i.n.neg) k.1.2.1.1 (p26.1) (by first | omega | (simp;omega))) λc39=>QJ I (λ_ _ f k=>Mh f (zx:=(Rat.divInt i.zn i.zd).num) (by rw[<-en];exact k.2) O) λ_=>QLi 7 I<|QA (QW I Qd)<|wB 2 I ?_
 refine Qn (t:=44) rfl (λhb44=>?_) λhb44=>?_
 ·have hn1:c33.1.1.n=1:=by simp at hb44;omega
  refine wB 3 I<|QA (Qo (n:=c33.1.1.n) (0) (λF h9=>(h9.1.1.2.1.1).1) rfl wN Qd QZ O)<|QP I I<|QA (Qg (n:=c33.1.1.n) ((0)*1) (λF h9=>(h9.1.1.2.1.1).1) O rfl QZ (JH (o:=c33.1.2) O))<|QLi 5 I ?_
  refine QL I (λhc=>?_) λhc=>?_
  ·refine wA 7 I ?_;exact QL3 I I (by rw[<-i.e];exact congrArg (λl=>tx l) (Lu (by rw[<-ed];exact one1.1 ⟨O,by simpa using hc⟩)).symm) tB
  refine QLj 5 I<|QA (XP I I tA)<|QJj I<|QJ I (λ_ _ f k=>Zx f (r:=c33.1.1) (l:=c33.1.2) (neg:=false) k.1.1.2.1.1 (p33.1) (by first | omega | (simp;omega))) λc54=>QJ I (λ_ _ f k=>Mh f (zx:=((Rat.divInt i.zn i.zd).den:Int)) (by rw[<-ed2];exact k.2) O) λ_=>QA (XP I I tA)<|wR I<|QT ?_
  exact QL3 I I (by rw[<-i.e];exact congrArg (λl=>tx l) (TK λg=>by have:=one1.2 (by rw[ed];exact g);rw[this.2]at hc;simp at hc).symm) tB
 have hn1:c33.1.1.n≠1:=by simp at hb44;omega
 refine QLi 7 I<|ZP I<|QLj 5 I<|QA (XP I I tA)<|QJj I<|QJ I (λ_ _ f k=>Zx f (r:=c33.1.1) (l:=c33.1.2) (neg:=false) k.1.1.2.1.1 (p33.1) (by first | omega | (simp;omega))) λc54=>QJ I (λ_ _ f k=>Mh f (zx:=((Rat.divInt i.zn i.zd).den:Int)) (by rw[<-ed2];exact k.2) O) λ_=>QA (XP I I tA)<|wR I<|QT ?_
 exact QL3 I I (by rw[<-i.e];exact congrArg (λl=>tx l) (TK λg=>by have:=one1.2 (by rw[ed];exact g);omega).symm) tB
def YJ(x:Rat):Rat:=if x.num<0 then -x else x
def xA(x:Rat):(YJ x).num=(x.num.natAbs:Int)/\(YJ x).den=x.den:=by
 unfold YJ;split
 ·exact⟨by rw[Rat.neg_num];omega,by rw[Rat.neg_den]⟩
 exact⟨O,rfl⟩
def CJ(h:z<0):XZ z=45::XZ (-z):=by
 rw[Zq h,Je (z:=-z) O];congr 2;omega
def DQ{x:Rat}(h:x.num<0):Q6 x=45::Q6 (-x):=by
 unfold Q6;rw[Rat.neg_num,Rat.neg_den,CJ h];split<;>rfl
theorem V7(x:Rat):Lib.hasPrefix (Q6 x) [45]=decide (x.num<0):=by
 by_cases h:x.num<0
 ·rw[DQ h];simp[Lib.hasPrefix,List.isPrefixOf,h]
 have e:(decide (x.num<0))=false:=by simpa using h
 rw[e];unfold Q6;rw[Je O];have hd:=JN x.num.natAbs;split
 ·exact Yb hd
 have hne:=YW x.num.natAbs;cases hl:Lib.decDigits x.num.natAbs with
 |nil=>exact absurd hl hne
 |cons c r =>
  have:=Yb hd;rw[hl]at this;simpa[Lib.hasPrefix,List.isPrefixOf]using this
def Uw(x:Rat):Lib.trimPrefix (Q6 x) [45]=Q6 (YJ x):=by
 unfold Lib.trimPrefix YJ;rw[V7];by_cases h:x.num<0
 ·rw[if_pos (by simpa using h),if_pos h,DQ h];rfl
 rw[if_neg (by simpa using h),if_neg h]
def jW(x:Rat):XH (YJ x)=XH x:=by
 unfold YJ;split
 ·exact RJ x
 rfl
def pR(x:Rat)(c:Int×Int×Bool):Prop:=c.2.2=true->c.1=x.num/\c.2.1=(x.den:Int)/\x.num.natAbs<1000000000/\x.den<1000000000
def N5{l:List UInt8}(h:XT l=true)(hl:l.length<=9):JF l<1000000000:=by
 have h1:=K1 h;have h2:10^l.length<=10^9:=Nat.pow_le_pow_right wv hl;omega
theorem DO{x:Rat}(hF:Fits F w)(hl:XH x<=100000):QQ prog 190 [tx (Q6 x)] w F (λ(c:Int×Int×Bool)=>.tuple #[.int .i64 c.1,.int .i64 c.2.1,.bool c.2.2]) (λc _=>pR x c):=by
 have hlen:=Hq x;have hlen2:=Hq (YJ x);rw[jW]at hlen2;obtain⟨an,ad⟩:=xA x;have hah:=Yz Jh (Q6 (YJ x));have anT:XZ (YJ x).num=Lib.decDigits x.num.natAbs:=by rw[an,Je O];rfl
 refine QQ.go (G:=λF=>True) func190 hF trivial ?_;refine wA 17 I<|QA (Jx I XO)<|QLi 3 I ?_
 refine QL I (λhc=>?_) λhc=>?_
 ·refine wA 8 I ?_;exact J7 ((0,0,false):Int×Int×Bool) rfl (.tmp rfl (wP rfl rfl)) (rfl) λF hT=>λh=>by cases h
 refine QK<|QC ?_
 refine Zu [(5,_)] [(6,.bool (decide (x.num<0)))] wT ?_ ?_
 ·refine wA 2 I<|QA (Jx I XO)<|wB 2 I ?_
  refine Qn (t:=17) rfl (λhb17=>?_) λhb17=>?_
  ·refine wB 3 I<|QA (KG (i:=0) rfl rfl XO (wm<|QK8 hb17))<|wB 5 I ?_
   exact J9 ⟨rfl,(congrArg (λb=>some (Value.bool b)) (by have h0:0<(Q6 x).length:=(wm<|QK8 hb17);rw[<-V7,Yt h0];exact Gu I)),trivial⟩
  refine wB 6 I ?_;exact J9 ⟨rfl,(congrArg (λb=>some (Value.bool b)) (by have h0:(Q6 x).length=0:=(wm<|QK9 hb17);rw[<-V7,List.eq_nil_of_length_eq_zero h0];rfl)),trivial⟩
 refine Zu [(6,_)] [(5,tx (Q6 (YJ x)))] wT ?_ ?_
 ·refine wA 5 I ?_;refine QL I (λhc=>?_) λhc=>?_
  ·refine wA 2 I<|QA (Z2 (1) rfl rfl XO I (by have:=Bo (s:=Q6 x) (by rw[V7];exact hc);omega))<|wB 2 I ?_
   exact J9 ⟨rfl,(congrArg (λl=>some (tx l)) (by rw[<-Uw];unfold Lib.trimPrefix;rw[if_pos (by rw[V7];exact hc)];rfl)),trivial⟩
  refine QK ?_;exact J9 ⟨rfl,(congrArg (λl=>some (tx l)) (by rw[<-Uw];unfold Lib.trimPrefix;rw[V7,hc];rfl)),trivial⟩
 refine wS I<|QJ I (λ_ _ f k=>Wh f O) λ_=>QLi 9 I ?_
 refine Qn (t:=29) rfl (λhb29=>?_) λhb29=>?_
 ·refine QLi 8 I<|ZB I<|wA 8 I ?_
  exact J7 ((0,0,false):Int×Int×Bool) rfl (.tmp rfl (wP rfl rfl)) (rfl) λF h9=>λh=>by cases h
 refine wB 3 I<|QA (Jx I XO)<|wB 3 I<|QA (Jk I I O)<|QLi 5 I ?_
 refine QL I (λhc=>?_) λhc=>?_
 ·refine wA 8 I ?_;exact J7 ((0,0,false):Int×Int×Bool) rfl (.tmp rfl (wP rfl rfl)) (rfl) λF h9=>λh=>by cases h
 have k9:ahead Jh (Q6 (YJ x))<=9/\(Q6 (YJ x)).length-ahead Jh (Q6 (YJ x))<=10:=by
  have ha:=Yz Jh (Q6 (YJ x))
  first | (simp at hc hb29;omega) | (simp at hc;omega)
 have kt:(Q6 (YJ x)).take (ahead Jh (Q6 (YJ x)))=XZ (YJ x).num:=by
  by_cases hd:(YJ x).den=1
  ·obtain⟨e1,e2⟩:=ML hd;rw[e2,List.take_length,e1]
  exact(VY hd).2.2.1
 have kr:JF ((Q6 (YJ x)).take (ahead Jh (Q6 (YJ x))))=x.num.natAbs:=by rw[kt,anT,Jg]
 have hnum:x.num.natAbs<1000000000:=by
  have h1:=N5 (l:=XZ (YJ x).num) (by rw[anT];exact JN _) (by rw[<-kt,List.length_take];omega);rw[anT,Jg]at h1;exact h1
 have pf:x.den<1000000000:=by
  rw[<-ad];by_cases hd:(YJ x).den=1
  ·omega
  obtain⟨e1,e2,e3,e4⟩:=VY hd;have h1:=N5 (l:=Lib.decDigits (YJ x).den) (JN _) (by rw[<-e4,List.length_drop];omega);rw[Jg]at h1;exact h1
 refine QLj 6 I<|QA (V8 (ahead Jh (Q6 (YJ x))) I I XO I O)<|QJ I (λ_ _ f k=>DM f (by rw[kt,anT];exact JN _) (by rw[List.length_take];omega)) λ_=>?_
 rw[kr];refine QLi 4 I ?_;refine Zu [(6,_),(8,_)] [(9,.int .i64 (x.den:Int))] wU ?_ ?_
 ·refine wA 4 I<|QA (Jx I XO)<|QLi 3 I ?_
  refine QL I (λhc=>?_) λhc=>?_
  ·have hlt:=QK8 hc;have hd:¬(YJ x).den=1:=λg=>by have:=(RZ (YJ x)).2 g;have:=QK8 hc;omega
   have kd:=(VY hd).2.2.2;have kd2:JF ((Q6 (YJ x)).drop (ahead Jh (Q6 (YJ x))+1))=x.den:=by rw[kd,Jg,ad]
   refine wA 3 I<|QA (Qk I I O)<|QA (Z2 ((ahead Jh (Q6 (YJ x))+1)) I I XO wN O)<|QJ I (λ_ _ f k=>DM f (by rw[kd];exact JN _) (by rw[List.length_drop];omega)) λ_=>?_
   rw[kd2];refine wB 2 I ?_;exact J9
  have hd:(YJ x).den=1:=(RZ (YJ x)).1 (by have:=QK9 hc;have:=Yz Jh (Q6 (YJ x));omega);refine QK ?_;exact J9 ⟨rfl,rfl,(congrArg (λz:Int=>some (Value.int .i64 z)) (by rw[<-ad,hd];rfl)),trivial⟩
 have hden:x.den<1000000000:=pf;refine Zu [(9,_)] [(8,.int .i64 (x.num))] wT ?_ ?_
 ·refine wA 5 I ?_;refine QL I (λhc=>?_) λhc=>?_
  ·refine wA 2 I<|QA (Jk I I O)<|wB 2 I ?_
   exact J9 ⟨rfl,(congrArg (λz:Int=>some (Value.int .i64 z)) (wm<|QK8 hc)),trivial⟩
  refine QK ?_;exact J9 ⟨rfl,(congrArg (λz:Int=>some (Value.int .i64 z)) (wm<|QK9 hc)),trivial⟩
 refine wA 10 I ?_;exact J7 ((x.num,(x.den:Int),true):Int×Int×Bool) rfl (.tmp rfl (wP I I)) (rfl) λF h9=>λ_=>⟨rfl,rfl,hnum,hden⟩
section
variable{P:Program}{N:Nat}{m:Sl}{S:World->Prop}{ty:TypeId}
theorem QAh{a b:Int}(hx:ev m x=some (.int .i64 a))(hy:ev m y=some (.int .i64 b))(h:0<b)(h0 : -9223372036854775807<=a)(h1:a<=9223372036854775807):Qt P N m S (.binOp .quo T x y yT) ty (.int .i64 (a.tdiv b)):=by
 have:=Lv (P:=P) (N:=N) (m:=m) (S:=S) (ty:=ty) (T:=T) (yT:=yT) hx hy O;have e:=Int.natAbs_tdiv a b;have e2:a.natAbs.div b.natAbs<=a.natAbs:=Nat.div_le_self _ _;rw[IntWalk.i64_in _ O]at this;exact this
end
theorem vf{x y:Int}(hF:Fits F w)(h0:0<=x)(h1:x<=9223372036854775807)(k0:0<=y)(k1:y<=9223372036854775807):QY prog 239 [.int .i64 x,.int .i64 y] w F (.int .i64 (Nat.gcd x.toNat y.toNat:Nat)):=by
 have:=QAd (a:=x.toNat) (b:=y.toNat) hF O O;rw[Int.toNat_of_nonneg h0,Int.toNat_of_nonneg k0]at this;exact this
def xp(z:Int):(if 0-z>z then 0-z else z)=((z.natAbs:Nat):Int):=by split<;>omega
def FC(n:Nat):EO n 1=Lib.decDigits n:=by
 rcases Nat.eq_zero_or_pos n with h | h
 ·subst h;unfold EO hd;rw[if_pos rfl,X8];rfl
 exact Pp h
theorem xa{n:Int}{d:Nat}(h:0<d):n.tdiv ((Nat.gcd n.natAbs d:Nat):Int)=(Rat.divInt n d).num:=by
 rw[(YH (x:=n) (y:=(d:Int)) O).1];have e:(Nat.gcd n.natAbs d:Nat)=Int.gcd n (d:Int):=by simp[Int.gcd]
 rw[e];exact Int.tdiv_eq_ediv_of_dvd (Int.gcd_dvd_left (a:=n) (b:=(d:Int)))
theorem xb{n:Int}{d:Nat}(h:0<d):(d:Int)/((Nat.gcd n.natAbs d:Nat):Int)=((Rat.divInt n d).den:Int):=by
 rw[(YH (x:=n) (y:=(d:Int)) O).2];have e:(Nat.gcd n.natAbs d:Nat)=Int.gcd n (d:Int):=by simp[Int.gcd]
 rw[e]
def gK(n:Int){d:Int}(h:d≠0):Rat.divInt (if d<0 then 0-n else n) (d.natAbs:Int)=Rat.divInt n d:=by
 split
 ·rename_i g;rw[show((d.natAbs:Nat):Int) = -d by omega,Int.zero_sub];exact Rat.neg_divInt_neg n d
 rw[show((d.natAbs:Nat):Int)=d by omega]
def xf{n:Int}{d:Nat}(h:0<d)(hn:n.natAbs<=4000000000000000000)(hd:d<=4000000000000000000):(Rat.divInt n d).num.natAbs<=4000000000000000000/\(Rat.divInt n d).den<=4000000000000000000/\0<(Rat.divInt n d).den:=by
 have e1:=xa (n:=n) h;have e2:=xb (n:=n) h;have k1:=Int.natAbs_tdiv n ((Nat.gcd n.natAbs d:Nat):Int);have k2:n.natAbs.div ((Nat.gcd n.natAbs d:Nat):Int).natAbs<=n.natAbs:=Nat.div_le_self _ _;have k3:(d:Int)/((Nat.gcd n.natAbs d:Nat):Int)<=(d:Int):=Int.ediv_le_self _ O;have k4:=(Rat.divInt n d).den_pos;rw[e1]at k1;omega
def U8(z:Int):(if z<0 then[45]else[])++Lib.decDigits z.natAbs=XZ z:=by
 split
 ·rename_i h;rw[Zq h];rfl
 rw[Je O];rfl
def jZ(h : -9223372036854775808<=z/\z<=9223372036854775807):sz z<=64:=by
 rw[XA];omega
theorem uR{num den:Int}(hF:Fits F w)(hn : -9223372036854775808<=num/\num<=9223372036854775807)(hd : -9223372036854775808<=den/\den<=9223372036854775807)(h0:den≠0):QY prog 191 [.int .i64 num,.int .i64 den] w F (tx (Q6 (Rat.divInt num den))):=by
 refine QQ.go (G:=λF=>True) func191 hF trivial ?_;refine wA 6 I ?_;refine Zu [(0,_),(1,_)] [(20,.bool (decide (num < -4000000000000000000\/num>4000000000000000000\/den < -4000000000000000000\/den>4000000000000000000)))] wU ?_ ?_
 ·refine wA 4 I ?_;refine Qn (t:=9) rfl (λhb9=>?_) λhb9=>?_
  ·refine wB 12 I ?_;exact J9 ⟨rfl,rfl,(congrArg (λb=>some (Value.bool b)) (by rw[Bool.eq_iff_iff];simp_all;try omega)),trivial⟩
  refine wB 6 I ?_;refine Qn (t:=13) rfl (λhb13=>?_) λhb13=>?_
  ·refine wB 8 I ?_;exact J9 ⟨rfl,rfl,(congrArg (λb=>some (Value.bool b)) (by rw[Bool.eq_iff_iff];simp_all;try omega)),trivial⟩
  refine wB 6 I ?_;refine Qn (t:=17) rfl (λhb17=>?_) λhb17=>?_
  ·refine wB 4 I ?_;exact J9 ⟨rfl,rfl,(congrArg (λb=>some (Value.bool b)) (by rw[Bool.eq_iff_iff];simp_all;try omega)),trivial⟩
  refine wB 6 I ?_;exact J9 ⟨rfl,rfl,(congrArg (λb=>some (Value.bool b)) (by rw[Bool.eq_iff_iff];simp_all;try omega)),trivial⟩
 refine QL I (λhc=>?_) λhc=>?_
 ·refine wS I<|QJ I (λ_ _ f k=>Wg f O) λc22=>QJj I<|QJ I (λ_ _ f k=>Wg f O) λc24=>QJ I (λ_ _ f k=>KY f (k.1.2) (k.2) (h0) (wm<|jZ hn) (wm<|jZ hd)) λ_=>wR I<|QT ?_
  exact QL3 I I (rfl) tB
 have hb:¬(num < -4000000000000000000\/num>4000000000000000000\/den < -4000000000000000000\/den>4000000000000000000):=QK9 hc;refine QK<|QC ?_
 refine Zu [] [(0,.int .i64 (if den<0 then 0-num else num)),(1,.int .i64 ((den.natAbs:Nat):Int))] trivial ?_ ?_
 ·refine wA 6 I ?_;refine QL I (λhc=>?_) λhc=>?_
  ·refine wA 2 I<|QA (Jk I I O)<|QJj I<|QA (Jk I I O)<|wB 3 I ?_
   exact J9 ⟨(congrArg (λz:Int=>some (Value.int .i64 z)) (if_pos (QK8 hc)).symm),(congrArg (λz:Int=>some (Value.int .i64 z)) (wm<|QK8 hc)),trivial⟩
  refine QK ?_;exact J9 ⟨(congrArg (λz:Int=>some (Value.int .i64 z)) (if_neg (QK9 hc)).symm),(congrArg (λz:Int=>some (Value.int .i64 z)) (wm<|QK9 hc)),trivial⟩
 have hq:=gK num h0;have b1:(if den<0 then 0-num else num).natAbs<=4000000000000000000:=by split<;>omega
 generalize (if den<0 then 0-num else num)=n1 at *
 obtain⟨c1,c2,c3⟩:=xf (n:=n1) (d:=den.natAbs) O b1 O;have hg:0<Nat.gcd n1.natAbs den.natAbs:=Nat.gcd_pos_of_pos_right _ O;have lr1:=Hr (Rat.divInt n1 (den.natAbs:Int)).num;have lr2:=TY (Rat.divInt n1 (den.natAbs:Int)).den;have lz1:=jZ (z:=(Rat.divInt n1 (den.natAbs:Int)).num) O;have lz2:=jZ (z:=((Rat.divInt n1 (den.natAbs:Int)).den:Int)) O;have e1:=xa (n:=n1) (d:=den.natAbs) O;have e2:=xb (n:=n1) (d:=den.natAbs) O;refine wA 4 I<|QA (Jk I I O)<|QA (qI I I) ?_
 rw[xp];refine QJj I<|QJ I (λ_ _ f k=>vf f O O O O) λ_=>wR I<|QG<|JC QJ3 mixed wu ?_
 simp only[Int.toNat_natCast];refine QI (QD I)<|QI (QD I)<|QI (QAh I I O O O) ?_
 rw[e1];refine QI (QD I)<|QI (QD I)<|QI (WO I I O O O) ?_
 rw[e2];refine QI (QE I)<|QI (QE I)<|Qv<|QLk 6 I ?_
 refine Zu [(0,_),(1,_)] [(6,tx (if(Rat.divInt n1 (den.natAbs:Int)).num<0 then[45]else[]))] wU ?_ ?_
 ·refine wA 6 I ?_;refine QL I (λhc=>?_) λhc=>?_
  ·refine wA 3 I ?_;exact J9 ⟨rfl,rfl,(congrArg (λl=>some (tx l)) (if_pos (QK8 hc)).symm),trivial⟩
  refine QK ?_;exact J9 ⟨rfl,rfl,(congrArg (λl=>some (tx l)) (if_neg (QK9 hc)).symm),trivial⟩
 refine wA 5 I<|QA (Jk I I O)<|QA (qI I I) ?_
 rw[xp];refine QJ I (λ_ _ f k=>V6 f (least:=1) O O O) (λ_=>?_);simp only[Int.toNat_natCast,FC];refine QA (XP I I (by have e:=congrArg List.length (U8 (Rat.divInt n1 (den.natAbs:Int)).num);rw[List.length_append]at e;omega))<|QLi 6 I ?_
 rw[U8];refine QLi 4 I ?_;refine QL I (λhc=>?_) λhc=>?_
 ·have hd1:¬((Rat.divInt n1 (den.natAbs:Int)).den:Int)=1:=wm<|QK8 hc
  refine wA 2 I<|QA (XP I I (by simp only[List.length_append,List.length_cons,List.length_nil];omega))<|QJj I<|QJ I (λ_ _ f k=>V6 f (least:=1) O O O) λ_=>?_
  simp only[Int.toNat_natCast,FC];refine QA (XP I I (by simp only[List.length_append,List.length_cons,List.length_nil];omega))<|QLi 10 I ?_
  exact QL3 I I (by rw[<-hq];exact congrArg (λl=>tx l) (by rw[<-TK hd1,AA])) tB
 have hd1:((Rat.divInt n1 (den.natAbs:Int)).den:Int)=1:=wm<|QK9 hc
 refine QLj 9 I ?_;exact QL3 I I (by rw[<-hq];exact congrArg (λl=>tx l) (Lu hd1).symm) tB
def DP:Q6 0=[48]:=by
 have h:(0:Rat).num=0:=rfl;unfold Q6;rw[if_pos w8,h,Je wv];exact X8
def U9(x:Rat):x.num<0↔x<0:=by rw[<-Rat.not_le,<-Rat.num_nonneg];omega
theorem L5(x:Rat):Ik (Q6 x)=Q6 (-x):=by
 unfold Ik GN;rw[V7];by_cases h0:Q6 x=[48]
 ·rw[if_pos h0];have hx:x=0:=by
   have hv:=ZT x.num;by_cases hd:x.den=1
   ·rw[(ML hd).1]at h0;rw[h0]at hv;have:x.num=0:=by rw[<-hv];rfl
    exact Rat.num_eq_zero.1 this
   have:=(VY hd).2.2.1;have h1:=(VY hd).2.1;rw[h0]at h1;have h2:=(VY hd).1;have h3:0<(XZ x.num).length:=by
    rcases Nat.eq_zero_or_pos (XZ x.num).length with g | g
    ·have e:=List.eq_nil_of_length_eq_zero g;unfold XZ at e;rcases Int.lt_or_le x.num 0 with q | q
     ·have:=Zq q;unfold XZ at this;rw[this]at e;cases e
     have:=Je q;unfold XZ at this;rw[this]at e;exact absurd e (YW _)
    exact g
   rw[h0]at h2;simp at h1;omega
  subst hx;have e:(-0:Rat)=0:=wv;rw[e,if_neg wv,if_pos rfl]
 rw[if_neg h0];by_cases hn:x.num<0
 ·rw[if_pos (show(decide (x.num<0))=true by simpa using hn),if_pos wv,DQ hn];rfl
 rw[if_neg (show ¬(decide (x.num<0))=true by simpa using hn),if_neg wv,if_neg wv];have h1:(-x).num<0:=by
  rw[Rat.neg_num];have:x.num≠0:=by
   intro e;have:=Rat.num_eq_zero.1 e;subst this;exact h0 DP
  omega
 have:=DQ h1;rw[Rat.neg_neg]at this;exact this.symm
theorem jf(x:Rat):GN (Q6 x)=Rt x.num:=by
 unfold GN;rw[V7];by_cases h0:x=0
 ·subst h0;rw[if_pos DP];rfl
 have hn:x.num≠0:=λe=>h0 (Rat.num_eq_zero.1 e);have h1:Q6 x≠[48]:=by
  intro e;have h2:=L5 x;unfold Ik GN at h2;rw[if_pos e,if_neg wv,if_pos rfl,e]at h2;by_cases hd:x.den=1
  ·have hv:=ZT x.num;rw[<-(ML hd).1,e]at hv;exact hn hv.symm
  have:=(VY hd).2.2.1;have hv:=ZT x.num;rw[<-this,e]at hv;have h3:=(VY hd).2.1;rw[e]at h3;have h4:ahead Jh [48]=1:=wv;rw[h4]at h3;exact absurd h3 wv
 rw[if_neg h1];unfold Rt;by_cases g:x.num<0
 ·rw[if_pos (show(decide (x.num<0))=true by simpa using g),if_pos g]
 rw[if_neg (show ¬(decide (x.num<0))=true by simpa using g),if_neg g,if_neg hn]
def QBt(x:Rat):Rt x.num=if x<0 then -1 else if x=0 then 0 else 1:=by
 unfold Rt;by_cases h:x<0
 ·rw[if_pos h,if_pos ((U9 x).2 h)]
 rw[if_neg h,if_neg (λg=>h ((U9 x).1 g))];by_cases h0:x=0
 ·rw[if_pos h0,if_pos (Rat.num_eq_zero.2 h0)]
 rw[if_neg h0,if_neg (λg=>h0 (Rat.num_eq_zero.1 g))]
def OH(n:Int):Q6 (n:Rat)=XZ n:=by unfold Q6;rw[if_pos w9];simp
theorem IS{n:Int}(hF:Fits F w)(hn : -9223372036854775808<=n/\n<=9223372036854775807):QY prog 114 [.int .i64 n] w F (tx (Q6 (n:Rat))):=by
 refine QQ.go (G:=λF=>True) func114 hF trivial ?_;refine wA 8 I<|QJ I (λ_ _ f k=>Wg f (hn)) λc4=>QJ I (λ_ _ f k=>Mh f (k.2) (wm<|jZ hn)) λ_=>wR I<|QT ?_
 exact QL3 I I (by rw[OH]) tB
theorem j7{x y:Rat}(hF:Fits F w)(hx:XH x<=100000)(hy:XH y<=100000):QY prog 188 [tx (Q6 x),tx (Q6 y)] w F (tx (Q6 (x+y))):=by
 refine QQ.go (G:=λF=>True) func188 hF trivial ?_;refine wA 8 I<|QJ I (λ_ _ f k=>DO f (hx)) λc17=>JM _ (λ_ _ f k=>k.2) λp17=>QLi 12 I<|QJ I (λ_ _ f k=>DO f (hy)) λc23=>JM _ (λ_ _ f k=>k.2) λp23=>QLi 14 I ?_
 refine Qn (t:=28) rfl (λhb28=>?_) λhb28=>?_
 ·refine QLi 5 I ?_;refine QL I (λhc=>?_) λhc=>?_
  ·refine QG ?_;obtain⟨a1,a2,a3,a4⟩:=p17 hb28;obtain⟨b1,b2,b3,b4⟩:=p23 hc;have xd:=x.den_pos;have yd:=y.den_pos;have e1:(x.num*y.den).natAbs<1000000000*1000000000:=by rw[Int.natAbs_mul];exact Nat.mul_lt_mul_of_lt_of_lt a3 O
   have e2:(y.num*x.den).natAbs<1000000000*1000000000:=by rw[Int.natAbs_mul];exact Nat.mul_lt_mul_of_lt_of_lt b3 O
   have e3:(x.num*y.num).natAbs<1000000000*1000000000:=by rw[Int.natAbs_mul];exact Nat.mul_lt_mul_of_lt_of_lt a3 b3
   have e4:((x.den:Int)*y.den).natAbs<1000000000*1000000000:=by rw[Int.natAbs_mul];exact Nat.mul_lt_mul_of_lt_of_lt O O
   have e5:(x.den:Int)*y.den≠0:=by have h1:=ZZ x;have h2:=ZZ y;exact Int.mul_ne_zero h1 h2
   rw[a1,a2,b1,b2];refine wA 3 I<|QA (VN I I O)<|wB 2 I<|QA (VN I I O)<|QA (Qk I I O)<|wB 2 I<|QA (VN I I O)<|QJ I (λ_ _ f k=>uR f O O (e5)) λ_=>wR I<|QT ?_
   exact QL3 I I (by rw[Vn]) tB
  refine QLj 3 I ?_;have s1:=JU x;have s2:=JQ x;have s3:=JU y;have s4:=JQ y;have m1:=Zi x.num y.den;have m2:=Zi y.num x.den;have m3:=Zi (x.den:Int) y.den;have m4:=Zi x.num y.num;have m5:=Nw (x.num*y.den) (y.num*x.den);have e5:(x.den:Int)*y.den≠0:=Int.mul_ne_zero (ZZ x) (ZZ y);refine wA 2 I<|QJ I (λ_ _ f k=>KX f (hx)) λc44=>wB 3 I<|Qe ZE λb11=>Qe ZE λb12=>QS (vs:=[_,_]) I I I Q2 I .u1 .h2 wU<|QS (vs:=[_,_]) I I I Q2 I .here .h2 wU<|QLi 5 I<|QJ I (λ_ _ f k=>KX f (hy)) λc49=>wB 3 I<|Qe ZE λb13=>Qe ZE λb14=>QS (vs:=[_,_]) I I I Q2 I .u1 .h2 wU<|QS (vs:=[_,_]) I I I Q2 I .here .h2 wU<|QJi<|QG<|JC QJ3 mixed wu<|QI (wH I Q2 .u3)<|QI (wH I Q2 .here)<|QV I (λ_ _ f k=>YP f (k.1.2.1) (k.2.2) O O) λc54=>QI (wH I Q2 .u1)<|QI (wH I Q2 .u2)<|QV I (λ_ _ f k=>YP f (k.1.2.1) (k.1.1.2.2) O O) λc57=>QV I (λ_ _ f k=>Lr f (k.1.2) (k.2) O O) λc58=>QI (wH I Q2 .u2)<|QI (wH I Q2 .here)<|QV I (λ_ _ f k=>YP f (k.1.1.1.1.2.2) (k.1.1.1.2.2) O O) λc61=>QV I (λ_ _ f k=>KY f (k.1.2) (k.2) (e5) O O) λ_=>QI (QE I)<|Qv<|QC ?_
  refine QT ?_;exact QL3 I I (by rw[Vn]) tB
 refine QLi 4 I<|ZP I<|QLj 3 I ?_
 have s1:=JU x;have s2:=JQ x;have s3:=JU y;have s4:=JQ y;have m1:=Zi x.num y.den;have m2:=Zi y.num x.den;have m3:=Zi (x.den:Int) y.den;have m4:=Zi x.num y.num;have m5:=Nw (x.num*y.den) (y.num*x.den);have e5:(x.den:Int)*y.den≠0:=Int.mul_ne_zero (ZZ x) (ZZ y);refine wA 2 I<|QJ I (λ_ _ f k=>KX f (hx)) λc44=>wB 3 I<|Qe ZE λb11=>Qe ZE λb12=>QS (vs:=[_,_]) I I I Q2 I .u1 .h2 wU<|QS (vs:=[_,_]) I I I Q2 I .here .h2 wU<|QLi 5 I<|QJ I (λ_ _ f k=>KX f (hy)) λc49=>wB 3 I<|Qe ZE λb13=>Qe ZE λb14=>QS (vs:=[_,_]) I I I Q2 I .u1 .h2 wU<|QS (vs:=[_,_]) I I I Q2 I .here .h2 wU<|QJi<|QG<|JC QJ3 mixed wu<|QI (wH I Q2 .u3)<|QI (wH I Q2 .here)<|QV I (λ_ _ f k=>YP f (k.1.2.1) (k.2.2) O O) λc54=>QI (wH I Q2 .u1)<|QI (wH I Q2 .u2)<|QV I (λ_ _ f k=>YP f (k.1.2.1) (k.1.1.2.2) O O) λc57=>QV I (λ_ _ f k=>Lr f (k.1.2) (k.2) O O) λc58=>QI (wH I Q2 .u2)<|QI (wH I Q2 .here)<|QV I (λ_ _ f k=>YP f (k.1.1.1.1.2.2) (k.1.1.1.2.2) O O) λc61=>QV I (λ_ _ f k=>KY f (k.1.2) (k.2) (e5) O O) λ_=>QI (QE I)<|Qv<|QC ?_
 refine QT ?_;exact QL3 I I (by rw[Vn]) tB
theorem IQ{x y:Rat}(hF:Fits F w)(hx:XH x<=100000)(hy:XH y<=100000):QY prog 120 [tx (Q6 x),tx (Q6 y)] w F (tx (Q6 (x*y))):=by
 refine QQ.go (G:=λF=>True) func120 hF trivial ?_;refine wA 8 I<|QJ I (λ_ _ f k=>DO f (hx)) λc17=>JM _ (λ_ _ f k=>k.2) λp17=>QLi 12 I<|QJ I (λ_ _ f k=>DO f (hy)) λc23=>JM _ (λ_ _ f k=>k.2) λp23=>QLi 14 I ?_
 refine Qn (t:=28) rfl (λhb28=>?_) λhb28=>?_
 ·refine QLi 5 I ?_;refine QL I (λhc=>?_) λhc=>?_
  ·refine QG ?_;obtain⟨a1,a2,a3,a4⟩:=p17 hb28;obtain⟨b1,b2,b3,b4⟩:=p23 hc;have xd:=x.den_pos;have yd:=y.den_pos;have e1:(x.num*y.den).natAbs<1000000000*1000000000:=by rw[Int.natAbs_mul];exact Nat.mul_lt_mul_of_lt_of_lt a3 O
   have e2:(y.num*x.den).natAbs<1000000000*1000000000:=by rw[Int.natAbs_mul];exact Nat.mul_lt_mul_of_lt_of_lt b3 O
   have e3:(x.num*y.num).natAbs<1000000000*1000000000:=by rw[Int.natAbs_mul];exact Nat.mul_lt_mul_of_lt_of_lt a3 b3
   have e4:((x.den:Int)*y.den).natAbs<1000000000*1000000000:=by rw[Int.natAbs_mul];exact Nat.mul_lt_mul_of_lt_of_lt O O
   have e5:(x.den:Int)*y.den≠0:=by have h1:=ZZ x;have h2:=ZZ y;exact Int.mul_ne_zero h1 h2
   rw[a1,a2,b1,b2];refine wA 3 I<|QA (VN I I O)<|wB 2 I<|QA (VN I I O)<|QJ I (λ_ _ f k=>uR f O O (e5)) λ_=>wR I<|QT ?_
   exact QL3 I I (by rw[Vf]) tB
  refine QLj 3 I ?_;have s1:=JU x;have s2:=JQ x;have s3:=JU y;have s4:=JQ y;have m1:=Zi x.num y.den;have m2:=Zi y.num x.den;have m3:=Zi (x.den:Int) y.den;have m4:=Zi x.num y.num;have m5:=Nw (x.num*y.den) (y.num*x.den);have e5:(x.den:Int)*y.den≠0:=Int.mul_ne_zero (ZZ x) (ZZ y);refine wA 2 I<|QJ I (λ_ _ f k=>KX f (hx)) λc40=>wB 3 I<|Qe ZE λb11=>Qe ZE λb12=>QS (vs:=[_,_]) I I I Q2 I .u1 .h2 wU<|QS (vs:=[_,_]) I I I Q2 I .here .h2 wU<|QLi 5 I<|QJ I (λ_ _ f k=>KX f (hy)) λc45=>wB 3 I<|Qe ZE λb13=>Qe ZE λb14=>QS (vs:=[_,_]) I I I Q2 I .u1 .h2 wU<|QS (vs:=[_,_]) I I I Q2 I .here .h2 wU<|QJi<|QG<|JC QJ3 mixed wu<|QI (wH I Q2 .u3)<|QI (wH I Q2 .u1)<|QV I (λ_ _ f k=>YP f (k.1.2.1) (k.2.1) O O) λc50=>QI (wH I Q2 .u2)<|QI (wH I Q2 .here)<|QV I (λ_ _ f k=>YP f (k.1.1.2.2) (k.1.2.2) O O) λc53=>QV I (λ_ _ f k=>KY f (k.1.2) (k.2) (e5) O O) λ_=>QI (QE I)<|Qv<|QC<|QT ?_
  exact QL3 I I (by rw[Vf]) tB
 refine QLi 4 I<|ZP I<|QLj 3 I ?_
 have s1:=JU x;have s2:=JQ x;have s3:=JU y;have s4:=JQ y;have m1:=Zi x.num y.den;have m2:=Zi y.num x.den;have m3:=Zi (x.den:Int) y.den;have m4:=Zi x.num y.num;have m5:=Nw (x.num*y.den) (y.num*x.den);have e5:(x.den:Int)*y.den≠0:=Int.mul_ne_zero (ZZ x) (ZZ y);refine wA 2 I<|QJ I (λ_ _ f k=>KX f (hx)) λc40=>wB 3 I<|Qe ZE λb11=>Qe ZE λb12=>QS (vs:=[_,_]) I I I Q2 I .u1 .h2 wU<|QS (vs:=[_,_]) I I I Q2 I .here .h2 wU<|QLi 5 I<|QJ I (λ_ _ f k=>KX f (hy)) λc45=>wB 3 I<|Qe ZE λb13=>Qe ZE λb14=>QS (vs:=[_,_]) I I I Q2 I .u1 .h2 wU<|QS (vs:=[_,_]) I I I Q2 I .here .h2 wU<|QJi<|QG<|JC QJ3 mixed wu<|QI (wH I Q2 .u3)<|QI (wH I Q2 .u1)<|QV I (λ_ _ f k=>YP f (k.1.2.1) (k.2.1) O O) λc50=>QI (wH I Q2 .u2)<|QI (wH I Q2 .here)<|QV I (λ_ _ f k=>YP f (k.1.1.2.2) (k.1.2.2) O O) λc53=>QV I (λ_ _ f k=>KY f (k.1.2) (k.2) (e5) O O) λ_=>QI (QE I)<|Qv<|QC<|QT ?_
 exact QL3 I I (by rw[Vf]) tB
theorem QDw{x y:Rat}(hF:Fits F w)(hx:XH x<=100000)(hy:XH y<=100000):QY prog 119 [tx (Q6 x),tx (Q6 y)] w F (tx (Q6 (x-y))):=by
 have hly:=Hq y;refine QQ.go (G:=λF=>True) func119 hF trivial ?_;refine wA 9 I<|QJ I (λ_ _ f k=>QAb f O) λ_=>?_
 rw[L5];refine QJ I (λ_ _ f k=>j7 f (hx) (by rw[RJ];exact hy)) (λ_=>wR I<|QT ?_);exact QL3 I I (by rw[Rat.sub_eq_add_neg]) tB
theorem O2(hF:Fits F w)(hl:s.length<=1000000)(h1:XT (Lib.trimPrefix (s.take (ahead Jh s)) [45])=true)(h2:ahead Jh s<s.length->XT (Lib.trimPrefix (s.drop (ahead Jh s+1)) [45])=true):QQ prog 93 [tx s] w F Ri.v2 (λc F=>Yp F c.1 (YQ (s.take (ahead Jh s)))/\(ahead Jh s<s.length->Yp F c.2 (YQ (s.drop (ahead Jh s+1))))):=by
 have hah:=Yz Jh s;refine QQ.go (G:=λF=>True) func93 hF trivial ?_;refine QKt<|Qe ZE λb2=>Qe ZE λb3=>QLi 11 I<|QJ I (λ_ _ f k=>Wh f O) λ_=>QLi 8 I<|QA (Jx I XO)<|QLi 3 I ?_
 refine QL I (λhc=>?_) λhc=>?_
 ·have hd:ahead Jh s=s.length:=by have:(ahead Jh s:Int)=(s.length:Int):=(by simpa using hc);omega
  refine wS I<|QJ I (λ_ _ f k=>Wi f (by rw[hd,List.take_length]at h1;exact h1) O) λc14=>QJ I (λ_ _ f k=>Wg f wv) λc15=>QS (vs:=[_,_]) I I I Q2 I .u1 .h2 wU<|QS (vs:=[_,_]) I I I Q2 I .here .h2 wU<|QJi<|QT ?_
  exact J7 ((c14,c15):Ri×Ri) rfl (.J4 (c:=[_,_]) I Q2 .u1 (.J4 (c:=[_,_]) I Q2 .here .nil)) (rfl) λF h9=>⟨by rw[hd,List.take_length];exact h9.1.2,λg=>O⟩
 have hd:ahead Jh s<s.length:=by rcases Nat.lt_or_ge (ahead Jh s) s.length with g | g;exact g;exact absurd (show ahead Jh s=s.length by omega) λe=>by rw[e]at hc;simp at hc
 refine QLj 3 I<|JC (.cons _ (.cons _ .slnil)) mixed wu<|QI (QD I)<|QI (QD I)<|QI (V8 (ahead Jh s) rfl rfl XO I O)<|QV I (λ_ _ f k=>Wi f (h1) (by rw[List.length_take];omega)) λc19=>QI (QD I)<|QI (QD I)<|QI (Qk I I O)<|QI (Z2 ((ahead Jh s+1)) I I XO wN O)<|QV I (λ_ _ f k=>Wi f (h2 hd) (by rw[List.length_drop];omega)) λc24=>Ju (vs:=[_,_]) I I I Q2 I .u1 (.cons _ .slnil) (λ_ h=>h.1.1) .h2 wU<|Ju (vs:=[_,_]) I I I Q2 I .here (.cons _ .slnil) (λ_ h=>h.1.1) .h2 wU<|Qv<|QC<|QT ?_
 exact J7 ((c19,c24):Ri×Ri) rfl (.J4 (c:=[_,_]) I Q2 .u1 (.J4 (c:=[_,_]) I Q2 .here .nil)) (rfl) λF h9=>⟨h9.1.2,λ_=>h9.2⟩
def Rm(s:List UInt8):Bool:=!Jw ((Lib.trimPrefix s [45]).take (ahead Jh (Lib.trimPrefix s [45])))||(Lib.hasPrefix s [45]&&(Lib.trimPrefix s [45]).take (ahead Jh (Lib.trimPrefix s [45]))==[48])
def Gd(s:List UInt8):List UInt8:=(Lib.trimPrefix s [45]).drop (ahead Jh (Lib.trimPrefix s [45])+1)
def Gx(s:List UInt8):Bool:=decide (ahead Jh (Lib.trimPrefix s [45])<(Lib.trimPrefix s [45]).length)
def P3(s:List UInt8):Bool:=Gx s&&(!Jw (Gd s)||(Gd s==[48]||Gd s==[49]))
def Rj(s:List UInt8):Bool:=decide (600<ahead Jh (Lib.trimPrefix s [45]))||decide (600<(Gd s).length)
def Tf(s:List UInt8):Bool:=Gx s&&!(Nat.gcd (JF ((Lib.trimPrefix s [45]).take (ahead Jh (Lib.trimPrefix s [45])))) (JF (Gd s))==1)
def Hd(s:List UInt8):Int:=if Rm s=true then 1 else if P3 s=true then 1 else if Rj s=true then 4 else if Tf s=true then 1 else 0
def Nq{l:List UInt8}(h:(!Jw l)=false):0<l.length:=by
 rcases Nat.eq_zero_or_pos l.length with g | g
 ·rw[List.eq_nil_of_length_eq_zero g]at h;simp[Jw]at h
 exact g
def vL{p:UInt8->Bool}(h:∀c∈s,p c=true):s.takeWhile p=s:=by
 induction s with
 |nil=>rfl
 |cons c r ih=>rw[List.takeWhile_cons_of_pos (h c w9),ih (λd hd=>h d (by simp[hd]))]
def Lg{l:List UInt8}(h:XT l=true):sz (JF l:Int)<=4*l.length:=by
 rw[XA];have h1:=K1 h;have h2:10^l.length<=2^(4*l.length):=by rw[Nat.pow_mul];exact Nat.pow_le_pow_left wv _
 simp;omega
theorem Cy(s:List UInt8):(ZS 47 s).1=s.take (ahead Jh s)/\(ZS 47 s).2.1=s.drop (ahead Jh s+1)/\(ZS 47 s).2.2=decide (ahead Jh s<s.length):=by
 have hf:(λc:UInt8=>!Jh c)=λc=>c != 47:=by funext c;simp[Jh,bne]
 have h1:=KM (λc:UInt8=>c != 47) s;have ha:ahead Jh s=(s.takeWhile λc=>c != 47).length:=by unfold ahead;rw[hf]
 rw[ha];by_cases hc:s.contains 47=true
 ·have e:ZS 47 s=(s.takeWhile (· != 47),(s.dropWhile (· != 47)).drop 1,true):=by unfold ZS;rw[if_pos hc]
  rw[e];obtain⟨r,hr⟩:=BM (show(47:UInt8)∈s by simpa using hc);have hd:=h1.2;rw[hr]at hd;refine⟨h1.1.symm,?_,?_⟩
  ·show(s.dropWhile (· != 47)).drop 1=_;rw[hr,<-List.drop_drop,hd]
  have:(s.takeWhile λc=>c != 47).length<s.length:=by
   have:=congrArg List.length hd;rw[List.length_drop,List.length_cons]at this;omega
  simp[this]
 have e:ZS 47 s=(s,[],false):=by unfold ZS;rw[if_neg hc]
 rw[e];have h2:s.takeWhile (λc=>c != 47)=s:=by
  refine vL λc hm=>?_;have:c≠47:=by rintro rfl;exact hc (by simpa using hm)
  simpa using this
 rw[h2];simp
theorem jP(s:List UInt8):Lib.trimPrefix (ZS 47 s).1 [45]=(ZS 47 (Lib.trimPrefix s [45])).1/\Lib.hasPrefix (ZS 47 s).1 [45]=Lib.hasPrefix s [45]/\(ZS 47 s).2=(ZS 47 (Lib.trimPrefix s [45])).2:=by
 cases s with
 |nil=>exact⟨rfl,rfl,rfl⟩
 |cons c r =>
  by_cases hc:c=45
  ·subst hc;have e:Lib.trimPrefix (45::r) [45]=r:=rfl;rw[e];unfold ZS;have h0:((45:UInt8)::r).contains 47=r.contains 47:=w9;rw[h0];split
   ·exact⟨rfl,rfl,rfl⟩
   exact⟨rfl,rfl,rfl⟩
  have hp:Lib.hasPrefix (c::r) [45]=false:=by
   rw[Yt w9];simpa using hc
  have e:Lib.trimPrefix (c::r) [45]=c::r:=by unfold Lib.trimPrefix;rw[if_neg (by rw[hp];decide)]
  rw[e];have e2:∀l:List UInt8,Lib.hasPrefix l [45]=false->Lib.trimPrefix l [45]=l:=λl h=>by unfold Lib.trimPrefix;rw[if_neg (by rw[h];decide)]
  have h3:Lib.hasPrefix (ZS 47 (c::r)).1 [45]=false:=by
   unfold ZS;split
   ·by_cases h47:c=47
    ·subst h47;rfl
    rw[List.takeWhile_cons_of_pos (by simpa using h47),Yt w9];simpa using hc
   exact hp
  exact⟨e2 _ h3,by rw[h3,hp],rfl⟩
def pH(h1:Rm s=false)(h2:P3 s=false)(hk:ahead Jh (Lib.trimPrefix s [45])<(Lib.trimPrefix s [45]).length):XT ((Lib.trimPrefix s [45]).take (ahead Jh (Lib.trimPrefix s [45])))=true/\XT (Gd s)=true:=by
 have hs:Gx s=true:=by simp[Gx];exact hk
 simp only[Rm,Bool.or_eq_false_iff,Bool.not_eq_false']at h1;simp only[P3,hs,Bool.true_and,Bool.or_eq_false_iff,Bool.not_eq_false']at h2;exact⟨KD h1.1,KD h2.1⟩
theorem Cq(s:List UInt8):Hd s=Q9 s:=by
 obtain⟨t1,t2,t3⟩:=jP s;obtain⟨c1,c2,c3⟩:=Cy (Lib.trimPrefix s [45]);have t4:(ZS 47 s).2.1=Gd s:=by rw[t3,c2];rfl
 have t5:(ZS 47 s).2.2=Gx s:=by rw[t3,c3];rfl
 have hlen:(Lib.trimPrefix s [45]).take (ahead Jh (Lib.trimPrefix s [45]))=(Lib.trimPrefix s [45]).take (ahead Jh (Lib.trimPrefix s [45])):=rfl;have hk:((Lib.trimPrefix s [45]).take (ahead Jh (Lib.trimPrefix s [45]))).length=ahead Jh (Lib.trimPrefix s [45]):=by
  rw[List.length_take];have:=Yz Jh (Lib.trimPrefix s [45]);omega
 unfold Q9 WU Hd FI Rm P3 Rj Tf;rw[t1,t2,t4,t5,c1,hk];generalize (Lib.trimPrefix s [45]).take (ahead Jh (Lib.trimPrefix s [45]))=a;generalize Gd s=d;generalize Gx s=f;generalize Lib.hasPrefix s [45]=n;have e:(!Jw a||(n&&a==[48])||(f&&(!Jw d||d==[48]||d==[49])))=((!Jw a||(n&&a==[48]))||(f&&(!Jw d||(d==[48]||d==[49])))):=by rw[Bool.or_assoc (!Jw d)]
 rw[e];cases (!Jw a||(n&&a==[48]))<;>cases (f&&(!Jw d||(d==[48]||d==[49])))<;>rfl
theorem EE(hF:Fits F w)(hl:s.length<=9223372036854775807):QY prog 44 [tx s] w F (.int .i64 (Q9 s)):=by
 rw[<-Cq];have hln:(Lib.trimPrefix s [45]).length<=s.length:=Nu _ _;have hah:=Yz Jh (Lib.trimPrefix s [45]);refine QQ.go (G:=λF=>True) func44 hF trivial ?_;refine wA 11 I ?_;refine Zu [(0,_)] [(3,tx (Lib.trimPrefix s [45]))] wT ?_ ?_
 ·refine Zu [(0,_),(3,_)] [(16,.bool (Lib.hasPrefix s [45]))] wU ?_ ?_
  ·refine wA 2 I<|QA (Jx I XO)<|wB 2 I ?_
   refine Qn (t:=12) rfl (λhb12=>?_) λhb12=>?_
   ·refine wB 3 I<|QA (KG (i:=0) rfl rfl XO (wm<|QK8 hb12))<|wB 4 I ?_
    exact J9 ⟨rfl,rfl,(congrArg (λb=>some (Value.bool b)) (by have h0:0<s.length:=(wm<|QK8 hb12);rw[Yt h0];exact Gu I)),trivial⟩
   refine wB 5 I ?_;exact J9 ⟨rfl,rfl,(congrArg (λb=>some (Value.bool b)) (by have h0:s.length=0:=(wm<|QK9 hb12);rw[List.eq_nil_of_length_eq_zero h0];rfl)),trivial⟩
  refine QL I (λhc=>?_) λhc=>?_
  ·refine wA 2 I<|QA (Z2 (1) rfl rfl XO I (Bo hc))<|wB 2 I ?_
   exact J9 ⟨rfl,(congrArg (λl=>some (tx l)) (by unfold Lib.trimPrefix;rw[if_pos hc];rfl)),trivial⟩
  refine QK ?_;exact J9 ⟨rfl,(congrArg (λl=>some (tx l)) (by unfold Lib.trimPrefix;rw[hc];rfl)),trivial⟩
 refine wS I<|QJ I (λ_ _ f k=>Wh f O) λ_=>wR I<|QG ?_
 refine Zu [(3,_),(4,_)] [(36,.bool (Rm s))] wU ?_ ?_
 ·refine wA 3 I<|QA (V8 ((ahead Jh (Lib.trimPrefix s [45]))) I I XO I O)<|QJ I (λ_ _ f k=>Ls f (by rw[List.length_take];omega)) λ_=>QA (YD I)<|QJj I ?_
  refine Qn (t:=26) rfl (λhb26=>?_) λhb26=>?_
  ·refine wB 4 I<|Jb I I<|Jb I I<|Jb I I<|Jb I I<|wB 3 I ?_
   exact J9 ⟨rfl,rfl,(congrArg (λb=>some (Value.bool b)) (by simp[Rm]at hb26 ⊢;simp[hb26])),trivial⟩
  refine wB 3 I<|QA (KG (i:=0) rfl rfl Wd (by have h1:=Nq hb26;rw[List.length_take]at h1;omega))<|wB 4 I ?_
  refine Qn (t:=30) rfl (λhb30=>?_) λhb30=>?_
  ·refine wB 5 I<|QA (V8 ((ahead Jh (Lib.trimPrefix s [45]))) I I XO I O)<|QP I I<|QA (ZD I I)<|wB 4 I ?_
   exact J9 ⟨rfl,rfl,(congrArg (λb=>some (Value.bool b)) (by have h0:0<s.length:=(by have h1:=Nq hb26;rw[List.length_take]at h1;omega);have hp:Lib.hasPrefix s [45]=true:=(by rw[Yt h0,<-Gu (z:=45) rfl];exact hb30);simp[Rm]at hb26 ⊢;simp[hb26,hp])),trivial⟩
  refine wB 8 I ?_;exact J9 ⟨rfl,rfl,(congrArg (λb=>some (Value.bool b)) (by have h0:0<s.length:=(by have h1:=Nq hb26;rw[List.length_take]at h1;omega);have hp:Lib.hasPrefix s [45]=false:=(by rw[Yt h0,<-Gu (z:=45) rfl];exact hb30);simp[Rm]at hb26 ⊢;simp[hb26,hp])),trivial⟩
 refine QL I (λhc=>?_) λhc=>?_
 ·have hb1:Rm s=true:=hc;refine wA 6 I ?_;exact QL3 I I (congrArg (Value.int .i64) (by simp[Hd,hb1])) tB
 have hb1:Rm s=false:=hc;refine QLj 3 I ?_;refine Zu [(3,_),(4,_)] [(62,.bool (P3 s))] wU ?_ ?_
 ·refine wA 3 I<|QA (Jx I XO)<|wB 2 I ?_
  refine Qn (t:=41) rfl (λhb41=>?_) λhb41=>?_
  ·refine wB 5 I<|QA (Qk I I (by first | omega | (simp only[decide_eq_true_eq]at *;omega)))<|QP I I<|QA (Z2 (((ahead Jh (Lib.trimPrefix s [45]))+1)) I I XO wN (wm<|QK8 hb41))<|QP I I<|QJ I (λ_ _ f k=>Ls f (by rw[List.length_drop];omega)) λ_=>QP I I<|QA (YD I)<|wB 2 I ?_
   refine Qn (t:=48) rfl (λhb48=>?_) λhb48=>?_
   ·refine wB 18 I ?_;exact J9 ⟨rfl,rfl,(congrArg (λb=>some (Value.bool b)) (by have h1:Gx s=true:=(by simp[Gx];simpa using hb41);simp[P3,h1];simp at hb48;exact .inl hb48)),trivial⟩
   refine wB 5 I<|QA (Qk I I (by first | omega | (simp only[decide_eq_true_eq]at *;omega)))<|QP I I<|QA (Z2 (((ahead Jh (Lib.trimPrefix s [45]))+1)) I I XO wN (wm<|QK8 hb41))<|QP I I<|QA (ZD I I)<|wB 4 I ?_
   refine Qn (t:=55) rfl (λhb55=>?_) λhb55=>?_
   ·refine wB 9 I ?_;exact J9 ⟨rfl,rfl,(congrArg (λb=>some (Value.bool b)) (by have h1:Gx s=true:=(by simp[Gx];simpa using hb41);simp[P3,h1];exact .inr (.inl (by simpa[Gd]using hb55)))),trivial⟩
   refine wB 5 I<|QA (Qk I I (by first | omega | (simp only[decide_eq_true_eq]at *;omega)))<|QP I I<|QA (Z2 (((ahead Jh (Lib.trimPrefix s [45]))+1)) I I XO wN (wm<|QK8 hb41))<|QP I I<|QA (ZD I I)<|wB 4 I ?_
   exact J9 ⟨rfl,rfl,(congrArg (λb=>some (Value.bool b)) (by have h1:Gx s=true:=(by simp[Gx];simpa using hb41);simp at hb48 hb55;simp[P3,h1,Gd,hb48,hb55])),trivial⟩
  refine wB 7 I<|Jb I I<|Jb I I<|Jb I I<|Jb I I<|Jb I I<|wB 2 I<|Jb I I<|Jb I I<|Jb I I<|Jb I I<|Jb I I<|wB 3 I ?_
  exact J9 ⟨rfl,rfl,(congrArg (λb=>some (Value.bool b)) (by have h1:Gx s=false:=(by simp[Gx];simpa using hb41);simp[P3,h1])),trivial⟩
 refine QL I (λhc=>?_) λhc=>?_
 ·have hb2:P3 s=true:=hc;refine wA 6 I ?_;exact QL3 I I (congrArg (Value.int .i64) (by simp[Hd,hb1,hb2])) tB
 have hb2:P3 s=false:=hc;refine QLj 3 I ?_;refine Zu [(3,_),(4,_)] [(72,.bool (Rj s))] wU ?_ ?_
 ·refine wA 4 I ?_;refine Qn (t:=65) rfl (λhb65=>?_) λhb65=>?_
  ·refine wB 8 I ?_;exact J9 ⟨rfl,rfl,(congrArg (λb=>some (Value.bool b)) (by have:=QK8 hb65;simp[Rj];left;omega)),trivial⟩
  refine wB 3 I<|QA (Jx I XO)<|wB 3 I<|QA (Jk I I O)<|QP I I<|QA (Jk I I O)<|wB 4 I ?_
  exact J9 ⟨rfl,rfl,(congrArg (λb=>some (Value.bool b)) (by rw[Bool.eq_iff_iff];have:=QK9 hb65;simp[Rj,Gd];omega)),trivial⟩
 refine QL I (λhc=>?_) λhc=>?_
 ·have hb3:Rj s=true:=hc;refine wA 6 I ?_;exact QL3 I I (congrArg (Value.int .i64) (by simp[Hd,hb1,hb2,hb3])) tB
 have hb3:Rj s=false:=hc;have hk6:ahead Jh (Lib.trimPrefix s [45])<=600:=by simp[Rj]at hb3;exact hb3.1
 refine QLj 7 I<|QA (Jx I XO)<|QLi 3 I ?_
 refine QL I (λhc=>?_) λhc=>?_
 ·have hk:ahead Jh (Lib.trimPrefix s [45])<(Lib.trimPrefix s [45]).length:=wm<|QK8 hc
  obtain⟨da,dd⟩:=pH hb1 hb2 hk;refine wS I<|QJ I (λ_ _ f k=>O2 f (s:=(Lib.trimPrefix s [45])) (by have h6:(Gd s).length<=600:=(by simp[Rj]at hb3;exact hb3.2);have h7:(Gd s).length=(Lib.trimPrefix s [45]).length-(ahead Jh (Lib.trimPrefix s [45])+1):=(by unfold Gd;rw[List.length_drop]);omega) (by rw[Yc da];exact da) λ_=>by rw[show(List.drop (ahead Jh (Lib.trimPrefix s [45])+1) (Lib.trimPrefix s [45]))=Gd s from rfl,Yc dd];exact dd) λc79=>QJj rfl<|QA (QU rfl rfl)<|QA (QU rfl rfl)<|Qe ZE λb5=>Qe ZE λb6=>QS (vs:=[_,_]) rfl rfl rfl Q2 rfl .u1 .h2 wU<|QS (vs:=[_,_]) rfl rfl rfl Q2 rfl .here .h2 wU<|QJi<|QG<|Xy _ (λ_ _ f h=>And.intro h.2.1.p (And.intro (h.2.2 hk).p (And.intro h.2.1.1.2.1 (h.2.2 hk).1.2.1))) λpp=>?_
  obtain⟨pa,pd,na,nd⟩:=pp;rw[ZJ da]at pa;have pd2:=pd;rw[show YQ ((Lib.trimPrefix s [45]).drop (ahead Jh (Lib.trimPrefix s [45])+1))=JF (Gd s)from ZJ dd]at pd2;have la:=pa.len;have ld:=pd2.len;have sa:=Lg da;have sd:=Lg dd;have h600:(Gd s).length<=600:=by simp[Rj]at hb3;exact hb3.2
  rw[List.length_take]at sa;refine QB<|QA (QH I XV Q5)<|QA (Qf I Q5 .u1 (.skip .h1))<|QA (QH I XV Q5)<|QA (Qf I Q5 .here (.skip .h1)) ?_
  refine QJ I (λ_ _ f k=>SB f (a:=c79.1.l) (b:=c79.2.l) (ra:=c79.1.r) (rb:=c79.2.r) k.2.1.1 ((k.2.2 hk).1) (pa.dg) (pd.dg) (pa.nz) (pd.nz) O O) (λc86=>?_);rcases c86 with ⟨v86,l86⟩;dsimp only;refine JM _ (λw F hF ⟨⟨⟨hT,_⟩,h79⟩,⟨h86,h86p⟩⟩=>And.intro h86.2 h86p) (λp86=>QJk rfl<|QF<|QC ?_);refine Zu [] [(95,.bool (Tf s))] trivial ?_ ?_
  ·have hgc:dv B9 l86=(Nat.gcd (JF ((Lib.trimPrefix s [45]).take (ahead Jh (Lib.trimPrefix s [45])))) (JF (Gd s)):Nat):=by
    rw[p86.2.2.2,Aq pa pd2];rfl
   have hone:=PE p86.2.1 p86.2.2.1;have hsl:Gx s=true:=by simp[Gx];exact hk
   refine wA 2 I<|QA (QW I Qd)<|wB 2 I ?_
   refine Qn (t:=90) rfl (λhb90=>?_) λhb90=>?_
   ·refine wB 6 I ?_;exact J9 ⟨(congrArg (λb=>some (Value.bool b)) (by have h1:¬l86.length=1:=(by simp at hb90;omega);rw[Bool.eq_iff_iff];simp[Tf,hsl];intro g;exact h1 (hone.2 (by rw[hgc,g];rfl)).1)),trivial⟩
   have hn1:v86.n=1:=by simp at hb90;omega
   refine wB 3 I<|QA (Qo (n:=v86.n) (0) (λF h9=>(h9.2.1).1) rfl wN Qd QZ O)<|QP I I<|QA (Qg (n:=v86.n) ((0)*1) (λF h9=>(h9.2.1).1) O rfl QZ (JH (o:=l86) O))<|wB 4 I ?_
   exact J9 ⟨(congrArg (λb=>some (Value.bool b)) (by have h1:l86.length=1:=O;rw[Bool.eq_iff_iff];simp[Tf,hsl];exact not_congr ⟨λe=>by have h2:=hone.1 ⟨h1,e⟩;rw[hgc]at h2;omega,λe=>(hone.2 (by rw[hgc,e];rfl)).2⟩)),trivial⟩
  refine QL I (λhc=>?_) λhc=>?_
  ·have hg4:Tf s=true:=hc;refine wA 6 I ?_;exact QL3 I I (congrArg (Value.int .i64) (by simp[Hd,hb1,hb2,hb3,hg4])) tB
  have hg4:Tf s=false:=hc;refine QLj 8 I ?_;exact QL3 I I (congrArg (Value.int .i64) (by simp[Hd,hb1,hb2,hb3,hg4])) tB
 have hg4:Tf s=false:=by have:=QK9 hc;simp[Tf,Gx];intro g;omega
 refine QLj 8 I ?_;exact QL3 I I (congrArg (Value.int .i64) (by simp[Hd,hb1,hb2,hb3,hg4])) tB
theorem j5(hF:Fits F w)(hl:s.length<=1000000):QY prog 44 [tx s] w F (.int .i64 (Q9 s)) :=
 EE hF (Nat.le_trans hl wv)
structure Yj{α:Type}(l:List α)(f:α->Int) where
 i:Nat
 le:i<=l.length
 h:Qz (l.map f)=Qz ((l.map f).drop i)
section
variable{α:Type}[Inhabited α]{l:List α}{f:α->Int}
def TV(hi:i<l.length):(l.map f)[i]'(by simpa using hi)=f (el l i):=by rw[List.getElem_map,J8 hi]
def Yj.next(s:Yj l f)(hi:s.i<l.length)(h:f (el l s.i)=0):Yj l f:=⟨s.i+1,hi,by
 rw[s.h,WA (by simpa using hi) (by rw[TV hi];exact h)]⟩
def Yj.hit(s:Yj l f)(hi:s.i<l.length)(h:f (el l s.i)≠0):Qz (l.map f)=f (el l s.i):=by
 rw[s.h,Bt (by simpa using hi) (by rw[TV hi];exact h),TV hi]
def Yj.stop(s:Yj l f)(hi:l.length<=s.i):Qz (l.map f)=0:=by
 rw[s.h,List.drop_of_length_le (by simpa using hi)];rfl
end
def Yj.start{α:Type}(l:List α)(f:α->Int):Yj l f:=⟨0,Nat.zero_le _,rfl⟩
structure Rr{α:Type}(l:List α)(p:α->Bool) where
 i:Nat
 le:i<=l.length
 h:l.all p=(l.drop i).all p
section
variable{α:Type}[Inhabited α]{l:List α}{p:α->Bool}
def Rr.next(s:Rr l p)(hi:s.i<l.length)(h:p (el l s.i)=true):Rr l p:=⟨s.i+1,hi,by rw[s.h,BX hi,List.all_cons,h,Bool.true_and]⟩
def Rr.hit(s:Rr l p)(hi:s.i<l.length)(h:p (el l s.i)=false):l.all p=false:=by rw[s.h,BX hi,List.all_cons,h,Bool.false_and]
def Rr.stop(s:Rr l p)(hi:l.length<=s.i):l.all p=true:=by rw[s.h,List.drop_of_length_le hi];rfl
end
def Rr.start{α:Type}(l:List α)(p:α->Bool):Rr l p:=⟨0,Nat.zero_le _,rfl⟩
def spC(p:List UInt8×List UInt8):List Value:=[tx p.1,tx p.2]
def vT(p:List UInt8×List UInt8):(spC p).length=2:=rfl
theorem TJ{n:Nat}{l:List (List UInt8)}(hF:Fits F w)(hR:Qu F q n 1 (l.map tx))(hl:l.length=n/\∀s∈l,s.length<=9223372036854775807)(hn:n<=9223372036854775807):QY prog 11 [.slice q n c] w F (.int .i64 (Qz (l.map Q9))):=by
 have hln:=hl.1;refine QQ.go (G:=λF=>Qu F q n 1 (l.map tx)) func11 hF hR ?_;refine wA 12 I<|Jo (ι:=Yj l Q9) [(0,_)] (λi=>[(3,.int .i64 ((i.i:Nat):Int))]) (λi=>l.length-i.i) (Yj.start _ _) wT wT λi=>wA 5 I<|QA (QW I YI)<|QLi 3 I ?_
 refine QL I (λhc=>?_) λhc=>?_
 ·have hi:i.i<l.length:=wm<|QK8 hc
  refine QLj 8 I<|QA (Qo (n:=n) i.i tC rfl rfl YI JP O)<|QA (Qg (n:=n) ((i.i)*1) tC O rfl JP (ZF (f:=tx) (l:=l) O))<|QJ I (λ_ _ f k=>EE f (hl.2 _ (Ql hi))) λ_=>QLi 9 I ?_
  refine QL I (λhc=>?_) λhc=>?_
  ·refine wA 6 I<|X6 ?_
   exact QL3 I I (congrArg (Value.int .i64) (i.hit hi (by simpa using hc))) tB
  refine QK<|Qa<|QLk 3 I<|QA (Qk I I O)<|wB 2 I ?_
  exact Qb (i.next hi (by simpa using hc)) (by show l.length-(i.i+1)<l.length-i.i;omega)
 have hi:l.length<=i.i:=wm<|QK9 hc
 refine Q7 ?_;refine wA 6 I ?_;exact QL3 I I (congrArg (Value.int .i64) (i.stop hi)) tB
def D4(a:List UInt8)(d:Int):Bool:=decide ((a.length:Int)<=2*d+2)&&(Q9 a==0&&(decide (((LM (numOf a)).length:Int)<=d)&&decide (((RT a).length:Int)<=d)))
def CK(a:List UInt8):(numOf a).length<=a.length:=by unfold numOf;rw[List.length_take];omega
theorem kJ(hF:Fits F w):QY prog 115 [tx s] w F (.agg #[tx s,tx s]):=by
 refine QQ.go (G:=λF=>True) func115 hF trivial ?_;refine QKt<|Qe yj λb2=>QLi 6 I<|QA (Jr I QBz yj (wQ I I I))<|QS (vs:=[_,_]) I I I Ry I .here .h2 wU<|QJi<|QT ?_
 exact QM (()) I (.J4 (c:=[_,_]) I Ry .here .nil) (rfl) tB
section
open Go Go.RowKit
section
variable[Dr][df:Df]
def Ya(l:List Oper)(r:List Nat)(i:Nat):Bool:=match l[i]? with
 |some o=>o.after.all λe=>!(Region.binds .any e)||!(r.contains e.on)
 |none=>false
def TM(l:List Oper)(i:Nat):Bool:=match l[i]? with
 |some o=>JX o.op
 |none=>false
def Wu(l:List Oper)(r:List Nat):Option Nat:=r.find? λi=>TM l i&&Ya l r i
def B1(l:List Oper):Bool :=
 Region.noSelect l.toArray&&Ve .any l.toArray l.length&&(List.range l.length).all λj=>match l[j]? with
  |none=>false
  |some oj=>(List.range j).all λi=>match l[i]? with
   |none=>false
   |some oi=>if JX oi.op||JX oj.op then(Region.waitsFor .any l.toArray j i||oi.apart l.toArray oj)else true
theorem Bi{l:List Oper}(h:B1 l=true){i j:Nat}(hij:i<j){oi oj:Oper}(hi:l[i]?=some oi)(hj:l[j]?=some oj)(hq:(JX oi.op||JX oj.op)=true):(Region.waitsFor .any l.toArray j i||oi.apart l.toArray oj)=true:=by
 simp[B1,Bool.and_eq_true]at h
 grind
section
variable{P:Program}{Q:Exit->Act->World->Prop}{S:World->Prop}
def G9(P:Program)(l:List Oper)(Q:Exit->Act->World->Prop)(S:World->Prop):Nat->List Nat->Act->World->Prop
 |0,_,a,w=>Q .normal a w
 |n+1,r,a,w=>match Wu l r with
  |some i=>∃o v,l[i]?=some o/\YieldsIf P l.toArray S o v a/\G9 P l Q S n (r.erase i) (a.put o.dst v) w
  |none=>∀i∈r,Ya l r i=true->wpOp P l.toArray (λ_ _ _=>False) i (λa' w'=>S w'/\G9 P l Q S n (r.erase i) a' w') a w
theorem jQ{l:List Oper}(hB:B1 l=true)(hQ:∀c a d v w,Q (.panic c) (Act.put a d v) w->Q (.panic c) a w):
  ∀(m:Nat) (r:List Nat) (listed:Array Bool) (a:Act) (w:World),r.length=m->r.Pairwise (·<·)->(∀i,i∈r↔i<l.length/\listed.getD i true=false)->listed.size=l.length ->
   (∀j oj,l.toArray[j]?=some oj->listed.getD j false=true->∀e∈oj.after,Region.binds .any e=true->listed.getD e.on false=true)->S w->G9 P l Q S m r a w->wpAnyH P .any l.toArray Q S m listed a w:=by
 have hB':=hB;simp only[B1,Bool.and_eq_true]at hB';obtain⟨⟨hns,hord⟩,_⟩:=hB';have hsel:=Region.noSelect_spec hns;intro m
 induction m with
 |zero =>
  intro r listed a w hm hs hr hsz hcl hS h;have:r=[]:=List.length_eq_zero_iff.1 hm;subst this;refine⟨?_,h⟩;rw[List.eq_nil_iff_forall_not_mem];intro i hi;obtain⟨h1,o,ho,_⟩:=mem_ready.1 hi
  grind
 |succ m ih =>
  intro r listed a w hm hs hr hsz hcl hS h;have hready:∀j,j∈Region.ready .any l.toArray listed↔j∈r/\Ya l r j=true:=by
   intro j;rw[mem_ready,hr j];constructor
   ·rintro⟨h1,o,ho,h2⟩;have hlt:j<l.length:=by grind
    refine⟨⟨hlt,h1⟩,?_⟩;unfold Ya
    grind
   rintro⟨⟨hlt,h1⟩,h2⟩;obtain⟨o,ho,hed⟩:=X4 hord hlt;refine⟨h1,o,ho,λe he hb=>?_⟩;unfold Ya at h2;have ho':l[j]?=some o:=by simp_all
   rw[ho',Array.all_eq_true_iff_forall_mem]at h2
   grind
  have next:∀j,j∈Region.ready .any l.toArray listed->∀a' w',S w'->G9 P l Q S m (r.erase j) a' w'->wpAnyH P .any l.toArray Q S m (listed.setIfInBounds j true) a' w':=by
   intro j hj a' w' hS' h';have hjr:=((hready j).1 hj).1;have hjsz:j<listed.size:=by simp_all
   refine ih (r.erase j) _ a' w' (by grind) (hs.sublist List.erase_sublist) (λk=>?_) (by simpa using hsz) (λk ok hk hl e he hb=>?_) hS' h'
   ·rw[List.Nodup.mem_erase_iff (hs.imp λh=>Nat.ne_of_lt h),hr k];by_cases hjk:j=k
    ·subst hjk;simp
    rw[getD_set_ne true hjk];simp[Ne.symm hjk]
   by_cases hjk:j=k
   ·subst hjk;obtain⟨_,oj,hoj,hall⟩:=mem_ready.1 hj;have:ok=oj:=Option.some.inj (hk.symm.trans hoj);subst this;exact getD_set_true (hall e he hb)
   rw[getD_set_ne false hjk]at hl;exact getD_set_true (hcl k ok hk hl e he hb)
  unfold G9 at h;cases hp:Wu l r with
  |some j =>
   rw[hp]at h;obtain⟨oj,v,hoj0,hy,h'⟩:=h;have hoj:l.toArray[j]?=some oj:=by simpa using hoj0
   have hjr:j∈r:=List.mem_of_find?_eq_some hp;have hqr:=List.find?_some hp;simp only[Bool.and_eq_true]at hqr;have hq:JX oj.op=true:=by have:=hqr.1;unfold TM at this;rw[hoj0]at this;exact this
   have hj:j∈Region.ready .any l.toArray listed:=(hready j).2 ⟨hjr,hqr.2⟩;have hjs:=mem_ready.1 hj;have happ:∀k ok,l.toArray[k]?=some ok->k≠j->listed.getD k true=false->(∀e∈ok.after,Region.binds .any e=true->e.on≠j)->oj.apart l.toArray ok=true:=by
    intro k ok hok hkj hun hno;have hnw:Region.waitsFor .any l.toArray k j=false:=by
     cases hv:Region.waitsFor .any l.toArray k j with
     |false=>rfl
     |true =>
      obtain⟨o',ho',e,he,hb,hon⟩:=Region.waitsFor_spec hv;have:o'=ok:=Option.some.inj (ho'.symm.trans hok);subst this;exact absurd hon (hno e he hb)
    have hnw2:Region.waitsFor .any l.toArray j k=false:=by
     cases hv:Region.waitsFor .any l.toArray j k with
     |false=>rfl
     |true =>
      obtain⟨o',ho',e,he,hb,hon⟩:=Region.waitsFor_spec hv;obtain⟨_,o2,ho2,hall⟩:=hjs;have:o'=o2:=Option.some.inj (ho'.symm.trans ho2);subst this;have:=hall e he hb;rw[hon,getD_both hun]at this;cases this
    rcases Nat.lt_or_gt_of_ne hkj with hlt | hgt
    ·have:=Bi hB hlt (by simpa using hok) (by simpa using hoj) (by simp[hq]);rw[hnw2]at this;exact ET (by simpa using this)
    have:=Bi hB hgt (by simpa using hoj) (by simpa using hok) (by simp[hq]);rw[hnw]at this;simpa using this
   exact wpAnyH_first hoj hsel (λc a w h=>hQ c a _ v w h) m listed a w happ hj hy hS (next j hj _ w hS h')
  |none =>
   rw[hp]at h
   match r,hm,hs,hr,h,hready,next with
   |i::r,hm,hs,hr,h,hready,next =>
    have hil:=(hr i).1 w9;have hmin:∀j,j<i->listed.getD j false=true:=by
     intro j hj;cases hv:listed.getD j false with
     |true=>rfl
     |false =>
      have hjl:j<l.length:=O;have:=(hr j).2 ⟨hjl,getD_in O hv⟩;rcases List.mem_cons.1 this with e | e
      ·omega
      have:=(List.pairwise_cons.1 hs).1 j e;omega
    obtain⟨oi,hoi,hed⟩:=X4 hord hil.1;have hri:i∈Region.ready .any l.toArray listed:=mem_ready.2 ⟨hil.2,oi,hoi,λe he hb=>hmin _ (hed e he hb)⟩;refine⟨λh0=>(by rw[h0]at hri;cases hri),λj hj=>?_⟩;have hj':=(hready j).1 hj;exact Rv (wpOp_mono (λa' w' h=>⟨h.1,next j hj a' w' h.1 h.2⟩) (h j hj'.1 hj'.2))
theorem RY{l:List Oper}{Q':Exit->Act->World->Prop}(hB:B1 l=true)(hQ:∀c a w,¬Q' (.panic c) a w){a:Act}{w:World}(hS:S w)(h:G9 P l Q' S l.length (List.range' 0 l.length) a w):
  wpAny P .any l.toArray Q' l.length (Array.replicate l.length false) a w:=by
 refine wpAny_of_held _ _ _ _ (jQ hB (λc a d v w h=>absurd h (hQ c _ w)) _ _ _ a w w9 List.pairwise_lt_range' (λi=>?_) w9 (λj oj _ hl=>(by grind[getD_replicate_false])) hS h);simp_all
theorem Nl{id:Nat}{a:Act}{l:List Oper}(hm:P.follows .mixedOrders=true)(hB:B1 l=true)(hS:S { w with drawn:=w.drawn+1 })
  (h:G9 P l (XM (Q .normal)) S l.length (List.range' 0 l.length) a { w with drawn:=w.drawn+1 }):(Code.region id l.toArray true).wp P Q a w:=by
 refine wp_region_any hm ?_;have:=RY hB (λc a w h=>h) hS h;simpa using KP (λe a w h=>by cases e<;>first | exact h | trivial) _ _ _ _ this
end
section
variable{P:Program}{Q:Exit->Act->World->Prop}{N:Nat}{m:Sl}{E E0:Env}{l:List Oper}{r r':List Nat}{w0:World}{F0:Gs}{bs:List (Nat×Obj)}{G:Gs->Prop}
def JT(P:Program)(l:List Oper)(Q:Exit->Act->World->Prop)(E0:Env)(r:List Nat)(N:Nat)(m:Sl)(E:Env):Prop:=(∀w,St E w->St E0 w)->∀a w,JO N m a->St E w->G9 P l Q (St E0) r.length r a w
def GP(P:Program)(l:List Oper)(Q:Exit->Act->World->Prop)(E0:Env)(r:List Nat):Act->World->Prop:=λa w=>G9 P l Q (St E0) r.length r a w
theorem XX(h:JT P l Q E0 r N m E):JD P l.toArray (XM (GP P l Q E0 r)) E0 [] N m E:=λhE a w ha hw=>h hE a w ha hw
theorem B6(h:i∈r):r.length=(r.erase i).length+1:=by
 grind
theorem Y6(i:Nat){o:Oper}(hp:Wu l r=some i)(ho:l[i]?=some o)(he:r.erase i=r')(h:JD P l.toArray (XM (GP P l Q E0 r')) E0 [o] N m E):JT P l Q E0 r N m E:=by
 intro hE a w ha hw;subst he;have hi:=List.mem_of_find?_eq_some hp;rw[B6 hi];unfold G9;rw[hp];have hq:JX o.op=true:=by
  have:=List.find?_some hp;simp_all[Bool.and_eq_true,TM]
 rcases h hE a w ha hw with ⟨_,v,h1,h2⟩ | ⟨h1,_⟩
 ·exact⟨o,v,ho,h1,h2⟩
 simp_all
theorem Nn{o:Oper}(ho:l[i]?=some o)(hq:JX o.op=false)(h:JD P l.toArray (XM (GP P l Q E0 r')) E0 [o] N m E)(hE:∀w,St E w->St E0 w){a:Act}{w:World}(ha:JO N m a)(hw:St E w):
  wpOp P l.toArray (λ_ _ _=>False) i (λa' w'=>St E0 w'/\GP P l Q E0 r' a' w') a w:=by
 have ho':l.toArray[i]?=some o:=by simp_all
 unfold wpOp;simp[ho'];rcases h hE a w ha hw with ⟨h1,_⟩ | ⟨_,h2⟩
 ·simp_all
 split
 ·rename_i g;rw[if_pos g]at h2;exact .inl h2
 rename_i g;rw[if_neg g]at h2;exact h2
theorem QBi(hp:Wu l r=none)(h:∀i∈r.filter (Ya l r),∃o,l[i]?=some o/\JX o.op=false/\JD P l.toArray (XM (GP P l Q E0 (r.erase i))) E0 [o] N m E)(hr:r≠[]:=by decide):JT P l Q E0 r N m E:=by
 intro hE a w ha hw;obtain⟨x,s,rfl⟩:=List.exists_cons_of_ne_nil hr;show G9 P l Q _ (s.length+1) _ a w;unfold G9;rw[hp];intro i hi hrd;obtain⟨o,ho,hq,hj⟩:=h i (List.mem_filter.2 ⟨hi,hrd⟩)
 grind[Nn,wpOp_mono,GP,B6]
theorem Kl(i:Nat){o:Oper}(hp:Wu l r=none)(hl:r.filter (Ya l r)=[i])(ho:l[i]?=some o)(hq:JX o.op=false)(he:r.erase i=r')(h:JD P l.toArray (XM (GP P l Q E0 r')) E0 [o] N m E)(hr:r≠[]:=by decide):JT P l Q E0 r N m E :=
 QBi hp (λk hk=>by simp_all) hr
theorem IA(i j:Nat){o u:Oper}{r2:List Nat}(hp:Wu l r=none)(hl:r.filter (Ya l r)=[i,j])(ho:l[i]?=some o)(hu:l[j]?=some u)(hq:JX o.op=false)(hq2:JX u.op=false)(he:r.erase i=r')(he2:r.erase j=r2)
  (h:JD P l.toArray (XM (GP P l Q E0 r')) E0 [o] N m E) (h2:JD P l.toArray (XM (GP P l Q E0 r2)) E0 [u] N m E) (hr:r≠[]:=by decide):JT P l Q E0 r N m E :=
 QBi hp (λk hk=>by
  grind) hr
theorem QE5(i j k:Nat){o u x:Oper}{r2 r3:List Nat}(hp:Wu l r=none)(hl:r.filter (Ya l r)=[i,j,k])(ho:l[i]?=some o)(hu:l[j]?=some u)(hx:l[k]?=some x)(hq:JX o.op=false)(hq2:JX u.op=false)(hq3:JX x.op=false)(he:r.erase i=r')(he2:r.erase j=r2)(he3:r.erase k=r3)
  (h:JD P l.toArray (XM (GP P l Q E0 r')) E0 [o] N m E) (h2:JD P l.toArray (XM (GP P l Q E0 r2)) E0 [u] N m E) (h3:JD P l.toArray (XM (GP P l Q E0 r3)) E0 [x] N m E) (hr:r≠[]:=by decide):JT P l Q E0 r N m E :=
 QBi hp (λy hk=>by
  grind) hr
theorem yZ{id:Nat}{bs0:List _}(hb0:bs0.Sublist bs)(hm:P.follows .mixedOrders=true)(hB:B1 l=true)(hr:List.range' 0 l.length=r)(h:JT P l (XM (Q .normal)) ⟨w0,F0,bs0,G⟩ r N m ⟨w0,F0,bs,G⟩):J P (.region id l.toArray true) Q N m ⟨w0,F0,bs,G⟩:=λa w ha hw=>by
 subst hr;refine Nl hm hB ((hw.imp hb0 λ_ h=>h).drew) ?_;have:=h (λ_ h=>h.imp hb0 λ_ h=>h) a _ ha hw.drew;simp_all
theorem Wa(h:Fin Q .normal N m E):JT P l (XM (Q .normal)) E0 [] N m E:=λ_=>h
end
end
end
end Go.Proofs.YteldggljlnakmaaGreatDoor
namespace Ig
def Zr:List Int->List Int->Bool
 |x::a,y::b=>decide (y<x)||(decide (x=y)&&Zr a b)
 |_::_,[]=>true
 |[],_=>false
def before(a b:List Int):Bool:=decide (b.sum<a.sum)||(decide (a.sum=b.sum)&&Zr a b)
def DV:∀a:List Int,Zr a a=false
 |[]=>rfl
 |x::a=>by simp[Zr,DV a]
def Ep:∀ {a b c:List Int},Zr a b=true->Zr b c=true->Zr a c=true
 |[],_,_,h,_=>by simp[Zr]at h
 |_::_,[],_,_,h=>by simp[Zr]at h
 |_::_,_::_,[],_,_=>rfl
 |x::a,y::b,z::c,h,k=>by
  simp only[Zr,Bool.or_eq_true,Bool.and_eq_true,decide_eq_true_eq]at h k ⊢;rcases h with h | ⟨h,h'⟩<;>rcases k with k | ⟨k,k'⟩
  ·left;omega
  ·left;omega
  ·left;omega
  right;exact⟨O,Ep h' k'⟩
def SU:∀a b:List Int,a=b\/Zr a b=true\/Zr b a=true
 |[],[]=>.inl rfl
 |[],_::_=>.inr (.inr rfl)
 |_::_,[]=>.inr (.inl rfl)
 |x::a,y::b=>by
  simp only[Zr,Bool.or_eq_true,Bool.and_eq_true,decide_eq_true_eq,List.cons.injEq];rcases Int.lt_trichotomy x y with h | h | h
  ·right;right;left;omega
  ·rcases SU a b with k | k | k
   ·left;exact⟨h,k⟩
   ·right;left;right;exact⟨h,k⟩
   right;right;right;exact⟨h.symm,k⟩
  right;left;left;omega
theorem before_irrefl(a:List Int):before a a=false:=by simp[before,DV]
def before_trans{a b c:List Int}(h:before a b=true)(k:before b c=true):before a c=true:=by
 simp only[before,Bool.or_eq_true,Bool.and_eq_true,decide_eq_true_eq]at h k ⊢;rcases h with h | ⟨h,h'⟩<;>rcases k with k | ⟨k,k'⟩
 ·left;omega
 ·left;omega
 ·left;omega
 right;exact⟨O,Ep h' k'⟩
def GD(a b:List Int):a=b\/before a b=true\/before b a=true:=by
 simp only[before,Bool.or_eq_true,Bool.and_eq_true,decide_eq_true_eq];rcases Int.lt_trichotomy a.sum b.sum with h | h | h
 ·right;right;left;exact h
 ·rcases SU a b with k | k | k
  ·left;exact k
  ·right;left;right;exact⟨h,k⟩
  right;right;right;exact⟨h.symm,k⟩
 right;left;left;exact h
abbrev Tm:=Rat×List Int
def J5:List Tm->List Int->Rat
 |[],_=>0
 |t::p,k=>(if t.2=k then t.1 else 0)+J5 p k
def FG(p q:List Tm)(k:List Int):J5 (p++q) k=J5 p k+J5 q k:=by
 induction p with
 |nil=>simp[J5,Rat.zero_add]
 |cons t p ih=>simp only[List.cons_append,J5,ih,Rat.add_assoc]
structure Canon(p:List Tm):Prop where
 srt:p.Pairwise λx y=>before x.2 y.2=true
 nz:∀t∈p,t.1≠0
theorem Canon.nil:Canon []:=⟨List.Pairwise.nil,λ_ h=>by cases h⟩
def Canon.tail{t:Tm}{p:List Tm}(h:Canon (t::p)):Canon p:=⟨(List.pairwise_cons.1 h.srt).2,λx hx=>h.nz x (List.mem_cons_of_mem _ hx)⟩
def Wq{p:List Tm}{k:List Int}(h:∀t∈p,t.2≠k):J5 p k=0:=by
 induction p with
 |nil=>rfl
 |cons t p ih=>rw[J5,if_neg (h t w9),ih (λx hx=>h x (by simp[hx])),Rat.zero_add]
def Canon.head{t:Tm}{p:List Tm}(h:Canon (t::p)):J5 (t::p) t.2=t.1:=by
 rw[J5,if_pos rfl,Wq,Rat.add_zero];intro x hx e;have:=(List.pairwise_cons.1 h.srt).1 x hx;rw[e,before_irrefl]at this;cases this
def Canon.early{t:Tm}{p:List Tm}(h:Canon (t::p)){k:List Int}(hk:before k t.2=true):J5 (t::p) k=0:=Wq λx hx e=>by
 rcases List.mem_cons.1 hx with rfl | hx
 ·rw[e,before_irrefl]at hk;cases hk
 have:=before_trans hk ((List.pairwise_cons.1 h.srt).1 x hx);rw[e,before_irrefl]at this;cases this
def Sk:∀ {p q:List Tm},Canon p->Canon q->(∀k,J5 p k=J5 q k)->p=q
 |[],[],_,_,_=>rfl
 |[],y::q,_,hq,h=>by
  have:=h y.2;rw[hq.head]at this;exact absurd this.symm (hq.nz y w9)
 |x::p,[],hp,_,h=>by
  have:=h x.2;rw[hp.head]at this;exact absurd this (hp.nz x w9)
 |x::p,y::q,hp,hq,h=>by
  rcases GD x.2 y.2 with e | e | e
  ·have h1:=h x.2;rw[hp.head]at h1;have h2:=hq.head;rw[<-e]at h2;rw[h2]at h1;have hxy:x=y:=Prod.ext h1 e;subst hxy;congr 1;refine Sk hp.tail hq.tail (λk=>?_);have h3:=h k;simp only[J5]at h3;generalize J5 p k=a at *
   generalize J5 q k=b at *
   grind
  ·have h1:=h x.2;rw[hp.head,hq.early e]at h1;exact absurd h1 (hp.nz x w9)
  have h1:=h y.2;rw[hq.head,hp.early e]at h1;exact absurd h1.symm (hq.nz y w9)
def ZU:List Tm->Tm->List Tm
 |[],t=>if t.1=0 then[]else[t]
 |x::p,t=>if before x.2 t.2=true then x::ZU p t else if x.2=t.2 then(if x.1+t.1=0 then p else(x.1+t.1,t.2)::p)else if t.1=0 then x::p else t::x::p
def LI(p:List Tm)(t:Tm)(k:List Int):J5 (ZU p t) k=J5 p k+(if t.2=k then t.1 else 0):=by
 induction p with
 |nil =>
  unfold ZU;split
  ·rename_i h;rw[h];simp[J5,Rat.add_zero]
  simp[J5,Rat.zero_add,Rat.add_zero]
 |cons x p ih =>
  unfold ZU;split
  ·simp only[J5,ih,Rat.add_assoc]
  split
  ·rename_i h;split
   ·rename_i h0;simp only[J5];rw[h];by_cases hk:t.2=k
    ·simp only[hk,if_true];rw[Rat.add_assoc,Rat.add_comm (J5 p k),<-Rat.add_assoc,h0,Rat.zero_add]
    simp only[hk,if_false,Rat.zero_add,Rat.add_zero]
   simp only[J5];rw[h];by_cases hk:t.2=k
   ·simp only[hk,if_true];rw[Rat.add_assoc,Rat.add_assoc,Rat.add_comm t.1]
   simp only[hk,if_false,Rat.zero_add,Rat.add_zero]
  split
  ·rename_i h0;rw[h0];simp[Rat.add_zero]
  simp only[J5];rw[Rat.add_comm]
def SP{p:List Tm}{t x:Tm}(h:x∈ZU p t):x∈p\/x.2=t.2:=by
 induction p with
 |nil =>
  unfold ZU at h;split at h
  ·cases h
  simp at h;subst h;exact .inr rfl
 |cons y p ih =>
  unfold ZU at h;split at h
  ·rcases List.mem_cons.1 h with rfl | h
   ·exact .inl w9
   rcases ih h with h | h
   ·exact .inl (by simp[h])
   exact .inr h
  split at h
  ·split at h
   ·exact .inl (by simp[h])
   rcases List.mem_cons.1 h with rfl | h
   ·exact .inr rfl
   exact .inl (by simp[h])
  split at h
  ·exact .inl h
  rcases List.mem_cons.1 h with rfl | h
  ·exact .inr rfl
  exact .inl h
def Canon.ZU{p:List Tm}(h:Canon p)(t:Tm):Canon (Ig.ZU p t):=by
 induction p with
 |nil =>
  unfold Ig.ZU;split
  ·exact Canon.nil
  rename_i h0;exact⟨List.pairwise_singleton _ _,λx hx=>by simp at hx;subst hx;exact h0⟩
 |cons x p ih =>
  have hs:=List.pairwise_cons.1 h.srt;unfold Ig.ZU;split
  ·rename_i hb;have hc:=ih h.tail;refine⟨List.pairwise_cons.2 ⟨λy hy=>?_,hc.srt⟩,λy hy=>?_⟩
   ·rcases SP hy with hy | hy
    ·exact hs.1 y hy
    rw[hy];exact hb
   rcases List.mem_cons.1 hy with rfl | hy
   ·exact h.nz _ w9
   exact hc.nz y hy
  rename_i hb;split
  ·rename_i he;split
   ·exact h.tail
   rename_i h0;refine⟨List.pairwise_cons.2 ⟨λy hy=>?_,hs.2⟩,λy hy=>?_⟩
   ·have:=hs.1 y hy;rw[he]at this;exact this
   rcases List.mem_cons.1 hy with rfl | hy
   ·exact h0
   exact h.nz y (by simp[hy])
  rename_i he;split
  ·exact h
  rename_i h0;have hb':before t.2 x.2=true:=by
   rcases GD x.2 t.2 with q | q | q
   ·exact absurd q he
   ·exact absurd q hb
   exact q
  refine⟨List.pairwise_cons.2 ⟨λy hy=>?_,h.srt⟩,λy hy=>?_⟩
  ·rcases List.mem_cons.1 hy with rfl | hy
   ·exact hb'
   exact before_trans hb' (hs.1 y hy)
  rcases List.mem_cons.1 hy with rfl | hy
  ·exact h0
  exact h.nz y hy
def J3(l:List Tm):List Tm:=l.foldl ZU []
def PY(l:List Tm):∀ {p:List Tm},Canon p->Canon (l.foldl ZU p)/\∀k,J5 (l.foldl ZU p) k=J5 p k+J5 l k:=by
 induction l with
 |nil=>intro p h;exact⟨h,λk=>by simp[J5,Rat.add_zero]⟩
 |cons t l ih =>
  intro p h;obtain⟨h1,h2⟩:=ih (h.ZU t);exact⟨h1,λk=>by rw[List.foldl_cons,h2,LI,J5,Rat.add_assoc]⟩
def Z1(l:List Tm):Canon (J3 l):=(PY l Canon.nil).1
def LK(l:List Tm)(k:List Int):J5 (J3 l) k=J5 l k:=by
 rw[J3,(PY l Canon.nil).2,J5,Rat.zero_add]
def UI(p q:List Tm):Prop:=∀k,J5 p k=J5 q k
def UI.refl(p:List Tm):UI p p:=λ_=>rfl
def UI.trans{p q r:List Tm}(h:UI p q)(h':UI q r):UI p r:=λk=>(h k).trans (h' k)
def AB{p l:List Tm}(hp:Canon p)(h:UI p l):p=J3 l:=Sk hp (Z1 l) λk=>by rw[LK,h]
def G7{p:List Tm}(hp:Canon p):J3 p=p:=(AB hp (UI.refl p)).symm
def UI.perm{l m:List Tm}(h:l.Perm m):UI l m:=by
 intro k
 induction h with
 |nil=>rfl
 |cons x _ ih=>rw[J5,J5,ih]
 |swap x y l=>simp only[J5];rw[<-Rat.add_assoc,<-Rat.add_assoc];congr 1;exact Rat.add_comm _ _
 |trans _ _ h1 h2=>exact h1.trans h2
def UI.cons{p q:List Tm}(t:Tm)(h:UI p q):UI (t::p) (t::q):=λk=>by rw[J5,J5,h]
def eqv_filter(p:List Tm):UI (p.filter λt=>decide (t.1≠0)) p:=by
 induction p with
 |nil=>exact UI.refl _
 |cons t p ih =>
  rw[List.filter_cons];split
  ·exact ih.cons t
  rename_i h;have h0:t.1=0:=by simpa using h
  intro k;rw[J5,h0,ih k];simp[Rat.zero_add]
def YA(a b:List Int):List Int:=List.zipWith (·+·) a b
theorem VO{a b:List Int}(h:a.length=b.length):(YA a b).length=a.length:=by simp[YA,h]
def X7(s:Tm)(q:List Tm):List Tm:=q.map λt=>(s.1*t.1,YA s.2 t.2)
def XL(p q:List Tm):List Tm:=p.flatMap λs=>X7 s q
def UG(n:Nat)(p:List Tm):Prop:=∀t∈p,t.2.length=n
def UG.X7{n:Nat}{s:Tm}{q:List Tm}(hs:s.2.length=n)(h:UG n q):UG n (Ig.X7 s q):=λt ht=>by
 obtain⟨u,hu,rfl⟩:=List.mem_map.1 ht;show(YA s.2 u.2).length=n;rw[VO (by rw[hs,h u hu]),hs]
def UG.XL{n:Nat}{p q:List Tm}(h:UG n p)(k:UG n q):UG n (Ig.XL p q):=λt ht=>by
 obtain⟨s,hs,ht⟩:=List.mem_flatMap.1 ht;exact k.X7 (h s hs) t ht
def Ie(s:Tm)(p q:List Tm):XL (s::p) q=X7 s q++XL p q:=by simp[XL]
def GW(s:Tm)(p q:List Tm):X7 s (p++q)=X7 s p++X7 s q:=by simp[X7]
def W5(p p' q:List Tm):XL (p++p') q=XL p q++XL p' q:=by simp[XL]
end Ig
namespace Go.Proofs.YteldggljlnakmaaGreatDoor
variable{a b l o u:List Int}{c i j k m:Nat}{w:World}{F F':Gs}{ra rb:Sr}{x y:Operand}{s:List UInt8}{cs news rest:List Value}{α ι:Type}{T e et kt yT:TypeId}{q:Option Addr}{f z zx:Int}{P:Program}{seen:List Nat}
open Go.RowKit Ig
section
variable[Dr]
def PW(l:List Int):Prop:=(∀x∈l,0<=x/\x<=1000000)/\l.length<=1000
theorem PW.el(h:PW l){i:Nat}(hi:i<l.length):0<=Qc l i/\Qc l i<=1000000:=by rw[YL hi];exact h.1 _ (Ql hi)
theorem Nx(hi:i<l.length):(l.take (i+1)).sum=(l.take i).sum+Qc l i:=by
 rw[XF hi,List.sum_append,YL hi];simp
theorem PW.sum(h:PW l):∀i,i<=l.length->0<=(l.take i).sum/\(l.take i).sum<=i*1000000:=by
 intro i
 induction i with
 |zero=>intro _;simp
 |succ i ih =>
  intro hi;have h1:=ih O;have h2:=h.el (i:=i) O;rw[Nx O];omega
theorem Lo(l:List Int):Qz l=Qz (l.map λx=>x):=by rw[List.map_id']
def Fu:List Int->List Int->Int
 |[],[]=>0
 |[],_::_=>-1
 |_::_,[]=>1
 |x::a,y::b=>if Zb x y≠0 then Zb x y else Fu a b
theorem Lk:∀a b:List Int,(Fu b a<0↔Zr a b=true)/\(Fu b a=0↔a=b)
 |[],[]=>by simp[Fu,Zr]
 |[],_::_=>by simp[Fu,Zr]
 |_::_,[]=>by simp[Fu,Zr]
 |x::a,y::b=>by
  have ih:=Lk a b;unfold Fu Zr Zb;by_cases h1:y<x
  ·simp[h1];omega
  by_cases h2:y=x
  ·subst h2;simp[ih.1,ih.2]
  have h3:¬x=y:=λe=>h2 e.symm;simp[h1,h2,h3]
theorem My(x y:Int):Lib.compareInt x y=Zb x y:=by
 unfold Lib.compareInt Zb;by_cases h1:x<y
 ·simp[h1]
 by_cases h2:x=y
 ·subst h2;simp
 have h3:y<x:=O;simp[h1,h2,h3]
def GR(a b:List Int):Int:=Qz [Zb b.sum a.sum,Fu b a]
theorem Hu(a b:List Int):before a b=decide (GR a b<0):=by
 obtain⟨h1,h2⟩:=Lk a b;unfold before GR;rw[Bool.eq_iff_iff,decide_eq_true_iff];simp only[Qz];by_cases h:b.sum<a.sum
 ·have e:Zb b.sum a.sum = -1:=by unfold Zb;rw[if_pos h]
  rw[e];simp[h]
 by_cases g:b.sum=a.sum
 ·have e:Zb b.sum a.sum=0:=by unfold Zb;rw[if_neg h,if_pos g]
  rw[e];by_cases k:Fu b a=0
  ·have hf:Zr a b=false:=by cases hl:Zr a b with
    |false=>rfl
    |true=>have:=h1.2 hl;omega
   simp[k,g,hf]
  simp[k,g,h1]
 have e:Zb b.sum a.sum=1:=by unfold Zb;rw[if_neg h,if_neg g]
 have g2:¬a.sum=b.sum:=λe=>g e.symm;rw[e];simp[h,g2]
def Yn(l:List Int):List UInt8:=l.flatMap λx=>Lib.itoa x++[32]
theorem Wn(x:Int)(l:List Int):Yn (x::l)=XZ x++32::Yn l:=by unfold Yn;rw[List.flatMap_cons];simp[XZ]
theorem DW:∀ {a b:List Int},Yn a=Yn b->a=b
 |[],[],_=>rfl
 |[],y::b,h=>by rw[Wn]at h;simp[Yn]at h
 |x::a,[],h=>by rw[Wn]at h;simp[Yn]at h
 |x::a,y::b,h=>by
  rw[Wn,Wn]at h;have h1:=HZ (c:=32) (a:=XZ x) (b:=Yn a) (DS x wv wv);have h2:=HZ (c:=32) (a:=XZ y) (b:=Yn b) (DS y wv wv);rw[h,h2]at h1;simp only[Prod.mk.injEq,and_true]at h1;have e:x=y:=by rw[<-ZT x,<-ZT y,h1.1]
  rw[e,DW h1.2.symm]
theorem EG{r:Sr}(hF:Fits F w)(hR:JJ F r l)(hp:PW l):QY prog 157 [r.v] w F (.int .i64 l.sum):=by
 obtain⟨q,n,c⟩:=r;have hln:=hR.2.1;dsimp only[Sr.v]at hln ⊢;have hl1:=hp.2;refine QQ.go (G:=λF=>JJ F ⟨q,n,c⟩ l) func157 hF hR ?_;refine wA 14 I<|QA (QW I Qd)<|QLi 4 I<|Jo (ι:={i:Nat // i<=l.length}) [(6,_),(7,_)] (λi=>[(3,.int .i64 ((l.take i.1).sum)),(8,.int .i64 ((i.1:Nat):Int))]) (λi=>l.length-i.1) (⟨0,Nat.zero_le _⟩) wU wU λi=>?_
 have hi:=i.2;have hs:=hp.sum i.1 hi;refine wA 6 I ?_;refine QL I (λhc=>?_) λhc=>?_
 ·have hlt:i.1<l.length:=wm<|QK8 hc
  have he:=hp.el hlt;refine QLj 6 I<|QA (Qo (n:=n) (i.1) (λF hR=>(hR).1) rfl rfl Qd QZ O)<|QA (Qg (n:=n) ((i.1)*1) (λF hR=>(hR).1) O rfl QZ (JH (o:=l) O))<|QLi 6 I<|QA (Qk I I O)<|wB 2 I<|Qa<|QC<|QB<|QA (Qk I I O)<|wB 2 I ?_
  exact Qb (⟨i.1+1,hlt⟩) (hm:=⟨rfl,rfl,(congrArg (λz:Int=>some (Value.int .i64 z)) (Nx hlt).symm),rfl,trivial⟩)
 have hge:i.1=l.length:=wm<|QK9 hc
 refine Q7 ?_;refine wA 7 I ?_;exact QL3 I I (congrArg (Value.int .i64) (by rw[List.take_of_length_le O])) tB
theorem gI{n:Nat}(hF:Fits F w)(hR:Qu F q n 1 (l.map Qs))(hn:n<=1000000000):QY prog 169 [.slice q n c] w F (.int .i64 (Qz l)):=by
 have hln:l.length=n:=by have:=hR.1;simpa using this
 have em:l=l.map (λx=>x):=w9;refine QQ.go (G:=λF=>Qu F q n 1 (l.map Qs)) func169 hF hR ?_;refine wA 14 I<|QA (QW I Qd)<|QLi 4 I<|Jo (ι:=Yj l λx=>x) [(3,_),(6,_),(7,_)] (λi=>[(8,.int .i64 ((i.i:Nat):Int))]) (λi=>l.length-i.i) (Yj.start _ _) wV wT λi=>?_
 have hi:=i.le;refine wA 6 I ?_;refine QL I (λhc=>?_) λhc=>?_
 ·have hlt:i.i<l.length:=wm<|QK8 hc
  refine QLj 6 I<|QA (Qo (n:=n) i.i tC rfl rfl Qd QZ O)<|QA (Qg (n:=n) ((i.i)*1) tC O rfl QZ (JH (o:=l) O))<|QLi 10 I ?_
  refine QL I (λhc=>?_) λhc=>?_
  ·refine wA 6 I<|X6 ?_
   exact QL3 I I (congrArg (Value.int .i64) (by rw[YL hlt,Lo l];exact i.hit hlt (by rw[<-YL hlt];simpa using hc))) tB
  refine QK<|Qa<|QC<|QB<|QA (Qk I I O)<|wB 2 I ?_
  exact Qb (i.next hlt (by rw[<-YL hlt];simpa using hc)) (by show l.length-(i.i+1)<l.length-i.i;omega)
 have hge:l.length<=i.i:=wm<|QK9 hc
 refine Q7 ?_;refine wA 7 I ?_;exact QL3 I I (congrArg (Value.int .i64) (by rw[Lo l];exact i.stop hge)) tB
structure QBc(a b:List Int) where
 i:Nat
 la:i<=a.length
 lb:i<=b.length
 h:Fu a b=Fu (a.drop i) (b.drop i)
theorem QBc.cons(s:QBc a b)(ha:s.i<a.length)(hb:s.i<b.length):Fu a b=if Zb (Qc a s.i) (Qc b s.i)≠0 then Zb (Qc a s.i) (Qc b s.i)else Fu (a.drop (s.i+1)) (b.drop (s.i+1)):=by
 rw[s.h,XC ha,XC hb,Fu]
theorem Uf(hF:Fits F w)(hA:JJ F ra a)(hB:JJ F rb b)(la:a.length<=1000000)(lb:b.length<=1000000):QY prog 171 [ra.v,rb.v] w F (.int .i64 (Fu a b)):=by
 obtain⟨q,n,c⟩:=ra;obtain⟨q',n',c'⟩:=rb;have na:=hA.2.1;have nb:=hB.2.1;dsimp only[Sr.v]at na nb ⊢;refine QQ.go (G:=λF=>JJ F ⟨q,n,c⟩ a/\JJ F ⟨q',n',c'⟩ b) func171 hF ⟨hA,hB⟩ ?_;refine wA 9 I<|QA (QW I Qd)<|QLi 4 I<|Jo (ι:=QBc a b) [(0,_),(1,_),(9,_),(10,_)] (λi=>[(11,.int .i64 ((i.i:Nat):Int))]) (λi=>a.length-i.i) (⟨0,Nat.zero_le _,Nat.zero_le _,rfl⟩) wW wT λi=>?_
 have hla:=i.la;have hlb:=i.lb;refine wA 6 I ?_;refine QL I (λhc=>?_) λhc=>?_
 ·have hlt:i.i<a.length:=wm<|QK8 hc
  refine QLj 7 I<|QA (Qo (n:=n) i.i (λF h9=>(h9.1).1) rfl rfl Qd QZ O)<|QA (Qg (n:=n) ((i.i)*1) (λF h9=>(h9.1).1) O rfl QZ (JH (o:=a) O))<|QLi 9 I<|QA (QW I Qd)<|QLi 3 I ?_
  refine QL I (λhc=>?_) λhc=>?_
  ·have hge2:b.length<=i.i:=wm<|QK8 hc
   refine wA 5 I<|X6 ?_
   exact QL3 I I (congrArg (Value.int .i64) (by rw[i.h,XC hlt,List.drop_of_length_le hge2];rfl)) tB
  have hlt2:i.i<b.length:=wm<|QK9 hc
  refine QLj 6 I<|QA (Qo (n:=n') i.i (λF h9=>(h9.2).1) rfl rfl Qd QZ O)<|QA (Qg (n:=n') ((i.i)*1) (λF h9=>(h9.2).1) O rfl QZ (JH (o:=b) O))<|QLi 7 I<|QJ I (λ_ _ f k=>Dk f ) λ_=>QLi 9 I ?_
  refine QL I (λhc=>?_) λhc=>?_
  ·refine wA 6 I<|X6 ?_
   exact QL3 I I (congrArg (Value.int .i64) (by rw[i.cons hlt hlt2,if_pos (by rw[<-My];simpa using hc),My])) tB
  refine QK<|Qa<|QC<|QB<|QA (Qk I I O)<|wB 2 I ?_
  exact Qb (⟨i.i+1,hlt,hlt2,by rw[i.cons hlt hlt2,if_neg (by rw[<-My];simpa using hc)]⟩)
 have hge:a.length<=i.i:=wm<|QK9 hc
 refine Q7 ?_;refine wA 4 I<|QA (QW I Qd)<|QJj I<|QA (QW I Qd)<|QLi 3 I ?_
 refine QL I (λhc=>?_) λhc=>?_
 ·have hlt3:=QK8 hc;refine wA 6 I ?_;exact QL3 I I (congrArg (Value.int .i64) (by rw[i.h,List.drop_of_length_le hge,XC (l:=b) (k:=i.i) O];rfl)) tB
 have hlt3:=QK9 hc;refine QLj 8 I ?_;exact QL3 I I (congrArg (Value.int .i64) (by rw[i.h,List.drop_of_length_le hge,List.drop_of_length_le O];rfl)) tB
theorem PD(hF:Fits F w)(hA:JJ F ra a)(hB:JJ F rb b)(pa:PW a)(pb:PW b):QY prog 103 [ra.v,rb.v] w F (.int .i64 (GR a b)):=by
 have la:=pa.2;have lb:=pb.2;dsimp only[Sr.v];refine QQ.go (G:=λF=>JJ F ra a/\JJ F rb b) func103 hF ⟨hA,hB⟩ ?_;refine wA 8 I<|QJ I (λ_ _ f k=>EG f (r:=rb) k.2 (pb)) λ_=>QJj I<|QJ I (λ_ _ f k=>EG f (r:=ra) k.1.1 (pa)) λ_=>QJ I (λ_ _ f k=>Dk f ) λ_=>?_
 rw[My];refine wB 2 I<|QJ I (λ_ _ f k=>Uf f (ra:=rb) (rb:=ra) k.1.1.1.2 (k.1.1.1.1) O O) λ_=>Qw I (JR Qd) QZ Hj I I λb13=>QJ I (λ_ _ f k=>gI f (Qu.of (cs:=List.map Qs [Zb b.sum a.sum,Fu b a]) k.2 I) wv) λ_=>wR I<|QT ?_
 exact QL3 I I (rfl) tB
end
def Xw{κ:Type}(K:κ->Value):List (κ×Value)->Nat->List MapEntry
 |[],_=>[]
 |x::l,i=>⟨K x.1,x.2,i⟩::Xw K l (i+1)
def ZA{κ:Type}(K:κ->Value)(l:List (κ×Value)):Obj:=.map (Xw K l 0).toArray l.length
def Z0{κ:Type}[DecidableEq κ]:List (κ×Value)->κ->Nat->Option (Nat×Value)
 |[],_,_=>none
 |x::l,k,i=>if k=x.1 then some (i,x.2)else Z0 l k (i+1)
def Bl{κ:Type}[DecidableEq κ]:List (κ×Value)->κ->Value->List (κ×Value)
 |[],k,v=>[(k,v)]
 |x::l,k,v=>if k=x.1 then(k,v)::l else x::Bl l k v
structure Sw(P:Program)(kt:TypeId){κ:Type}[DecidableEq κ](K:κ->Value):Prop where
 chk:∀e w k,(Instr.checkKey e 10000 kt (K k)).run P w = .ok () w
 find:∀w k (l:List (κ×Value)),(Instr.findKey kt (K k) (Xw K l 0)).run P w = .ok (Z0 l k 0) w
 same:∀k,Instr.sameBits 10000 (K k) (K k)=true
section
variable{κ:Type}{K:κ->Value}
def B7:∀(l:List (κ×Value)) i,(Xw K l i).length=l.length
 |[],_=>rfl
 |_::l,i=>by simp[Xw,B7 l]
theorem Pe:∀(l:List (κ×Value)) i k v,Xw K (l++[(k,v)]) i=Xw K l i++[⟨K k,v,i+l.length⟩]
 |[],i,k,v=>by simp[Xw]
 |x::l,i,k,v=>by
  simp only[List.cons_append,Xw,Pe l,List.length_cons];rw[show i+1+l.length=i+(l.length+1)from by omega]
def Wp:∀(l:List (κ×Value)) (i j:Nat),(Xw K l i)[j]?=l[j]?.map λx=>(⟨K x.1,x.2,i+j⟩:MapEntry)
 |[],_,_=>by simp[Xw]
 |x::l,i,0=>by simp[Xw]
 |x::l,i,j+1=>by
  simp only[Xw,List.getElem?_cons_succ,Wp l];rw[show i+1+j=i+(j+1)from by omega]
theorem Sc:∀(l:List (κ×Value)) i j k v,Xw K (l.set j (k,v)) i=(Xw K l i).modify j λe=>{ e with key:=K k,val:=v }
 |[],_,_,_,_=>by simp[Xw]
 |x::l,i,0,k,v=>by simp[Xw]
 |x::l,i,j+1,k,v=>by simp[Xw,Sc l]
theorem Bw:∀(l:List (κ×Value)) i,∀e∈Xw K l i,i<=e.born/\e.born<i+l.length
 |[],_,e,h=>by cases h
 |x::l,i,e,h=>by
  simp only[Xw,List.mem_cons]at h;rcases h with rfl | h
  ·simp
  have:=Bw l (i+1) e h;simp only[List.length_cons];omega
theorem Eu:∀(l:List (κ×Value)) i,((Xw K l i).map (·.born)).Nodup
 |[],_=>List.nodup_nil
 |x::l,i=>by
  simp only[Xw,List.map_cons];refine List.nodup_cons.2 ⟨λh=>?_,Eu l (i+1)⟩;obtain⟨e,he,h⟩:=List.mem_map.1 h;have:=(Bw l (i+1) e he).1;omega
variable[DecidableEq κ]
theorem Bu:∀ {l:List (κ×Value)} {k i j v},Z0 l k i=some (j,v)->i<=j/\j-i<l.length/\l[j-i]?=some (k,v)
 |[],_,_,_,_,h=>by cases h
 |x::l,k,i,j,v,h=>by
  simp only[Z0]at h;split at h
  ·rename_i e;cases h;subst e;simp
  obtain⟨h1,h2,h3⟩:=Bu h;refine⟨O,by simp only[List.length_cons];omega,?_⟩;rw[show j-i=(j-(i+1))+1 from by omega,List.getElem?_cons_succ];exact h3
theorem Nb:∀ {l:List (κ×Value)} {k v i},Z0 l k i=none->Bl l k v=l++[(k,v)]
 |[],_,_,_,_=>rfl
 |x::l,k,v,i,h=>by
  simp only[Z0]at h;split at h
  ·cases h
  rename_i e;simp only[Bl,if_neg e,List.cons_append,Nb h]
theorem SG:∀ {l:List (κ×Value)} {k v i j u},Z0 l k i=some (j,u)->Bl l k v=l.set (j-i) (k,v)
 |[],_,_,_,_,_,h=>by cases h
 |x::l,k,v,i,j,u,h=>by
  simp only[Z0]at h;split at h
  ·rename_i e;cases h;simp[Bl,e]
  rename_i e;have:=(Bu h).1;simp only[Bl,if_neg e,SG h];rw[show j-i=(j-(i+1))+1 from by omega];rfl
end
def IN(a b:List UInt8):Instr.sameNow .string (tx a) (tx b)=some (decide (a=b)):=by
 show some ((⟨a.toArray⟩:ByteArray)==⟨b.toArray⟩)=_;congr 1;rw[Bool.eq_iff_iff,decide_eq_true_iff,MapKept.bytes_beq];constructor
 ·intro h;cases h;rfl
 intro h;rw[h]
theorem PZ(k:List UInt8):∀(l:List (List UInt8×Value)) (i n:Nat),Instr.findNow .string (tx k) (Xw tx l n) i=some (Z0 l k i)
 |[],_,_=>rfl
 |x::l,i,n=>by
  simp only[Xw,Instr.findNow,IN,Z0];by_cases h:k=x.1
  ·simp[h]
  simp[h,PZ k l]
theorem Sw.str(h:P.underlying kt=some .string):Sw P kt tx where
 chk:=λe w k=>MapKept.run_checkKey (k:=tx k) h (by simp[MapKept.IsKey,tx]) e 9999
 find:=λw k l=>MapKept.run_findKey h (PZ k l 0 0)
 same:=λk=>by
  show(ByteArray.mk k.toArray==ByteArray.mk k.toArray)=true;rw[MapKept.bytes_beq]
def zvB(P:Program)(T:TypeId):Option Value:=match P.info? T with
 |some i=>i.zero
 |none=>none
theorem qX{z:Value}(h:zvB P T=some z)(w:World):(zeroValue T).run P w = .ok z w:=by
 unfold zvB at h;split at h
 ·rename_i i hi;simp[zeroValue,typeInfo,hi,h]
 cases h
def Re(P:Program)(T kt et:TypeId):Bool:=match P.underlying T with | some (.map k e)=>Nat.beq k kt&&Nat.beq e et | _=>false
theorem PM(h:Re P T kt et=true):P.underlying T=some (.map kt et):=by
 unfold Re at h;split at h
 ·rename_i e;simp only[Bool.and_eq_true]at h;have h1:=Nat.eq_of_beq_eq_true h.1;have h2:=Nat.eq_of_beq_eq_true h.2;rw[e,h1,h2]
 cases h
section
variable[Dr][df:Df]{P:Program}{Q:Exit->Act->World->Prop}{N:Nat}{m:Sl}{E E0:Env}{ops:Array Oper}{l:List Oper}{w0:World}{F0:Gs}{bs:List (Nat×Obj)}{G:Gs->Prop}{d:Nat}{ty:TypeId}{pos:String}{aft:Array Edge}
theorem Hi{κ:Type}(K:κ->Value){T:TypeId}(k:∀b,JS P ops Q l N ((d,.map (some b))::m) ⟨w0,F0,(b,ZA K [])::bs,G⟩)(hd:Jq N (some d)=true:=by rfl):
  JS P ops Q (⟨some d,.makeMap T none,ty,pos,aft,none⟩::l) N m ⟨w0,F0,bs,G⟩:=λa w ha hw=>by
 have hrun:(execOp a.eval ⟨some d,.makeMap T none,ty,pos,aft,none⟩).run P w = .ok (.value (.map (some w.heap.size))) (w.alloc (.map #[] 0)):=by
  simp[execOp,Instr.makeMap]
 exact wpList_plain rfl λKk hK=>upon_value hrun (hK _ _ (k _ _ _ (ha.put hd _) (hw.alloc _ λc fr e=>by cases e)))
variable{κ:Type}[DecidableEq κ]{K:κ->Value}{kv:List (κ×Value)}{b:Nat}{f:Obj->List (Nat×Obj)}
theorem Lw{k:κ}{v:Value}(hq:Sw P kt K)(hx:ev m x=some (.map (some b)))(hy:ev m y=some (K k))(ht:Re P T kt et=true)(ho:Own bs b (ZA K kv) f)(hf:Z0 kv k 0=some (i,v)):
  Qt P N m (St ⟨w0,F0,bs,G⟩) (.lookup T x y true) ty (.tuple #[v,.bool true]):=λa w _ _ _ _ ha hw=>by
 have hb:=hw.own ho;unfold ZA at hb;have hu:=PM ht;simp[execOp,ha.ev hx,ha.ev hy,Instr.lookup,run_underlying hu,MapKept.run_getObj_map hb,hq.chk,hq.find,hf]
theorem Fa{k:κ}{z:Value}(hq:Sw P kt K)(hx:ev m x=some (.map (some b)))(hy:ev m y=some (K k))(ht:Re P T kt et=true)(hz:zvB P et=some z)(ho:Own bs b (ZA K kv) f)(hf:Z0 kv k 0=none):
  Qt P N m (St ⟨w0,F0,bs,G⟩) (.lookup T x y true) ty (.tuple #[z,.bool false]):=λa w _ _ _ _ ha hw=>by
 have hb:=hw.own ho;unfold ZA at hb;have hu:=PM ht;simp[execOp,ha.ev hx,ha.ev hy,Instr.lookup,run_underlying hu,MapKept.run_getObj_map hb,hq.chk,hq.find,hf,qX hz]
theorem EZ{z:Operand}{k:κ}{v:Value}(hq:Sw P kt K)(hx:ev m x=some (.map (some b)))(hy:ev m y=some (K k))(hz:ev m z=some v)(ht:Re P T kt et=true)(ho:Own bs b (ZA K kv) f)
  (kk:JS P ops Q l N m ⟨w0,F0,f (ZA K (Bl kv k v)),G⟩):JS P ops Q (⟨none,.mapUpdate T x y z,ty,pos,aft,none⟩::l) N m ⟨w0,F0,bs,G⟩:=λa w ha hw=>by
 have hb:=hw.own ho;obtain⟨pre,post,e1,e2⟩:=ho.split;subst e1;rw[e2]at kk;have hu:=PM ht;have hb':=hb;unfold ZA at hb';have hrun:(execOp a.eval ⟨none,.mapUpdate T x y z,ty,pos,aft,none⟩).run P w = .ok .skip { w with heap:=w.heap.setIfInBounds b (ZA K (Bl kv k v)) }:=by
  cases hf:Z0 kv k 0 with
  |none =>
   have e:ZA K (Bl kv k v) = .map ((Xw K kv 0).toArray.push ⟨K k,v,kv.length⟩) (kv.length+1):=by
    rw[Nb hf];simp[ZA,Pe]
   rw[e];simp[execOp,ha.ev hx,ha.ev hy,ha.ev hz,Instr.mapUpdate,run_underlying hu,MapKept.run_getObj_map hb',hq.chk,hq.find,hf,MapKept.run_setObj_map _ hb']
  |some r =>
   obtain⟨i,u⟩:=r;obtain⟨_,h2,h3⟩:=Bu hf;rw[Nat.sub_zero]at h2 h3;have e:ZA K (Bl kv k v) = .map ((Xw K kv 0).toArray.modify i λe=>{ e with key:=K k,val:=v }) kv.length:=by
    rw[SG hf];unfold ZA;rw[Nat.sub_zero,Sc,List.length_set];congr 1;apply Array.ext';simp
   have hk:((((Xw K kv 0).toArray[i]?).map (·.key)).getD (K k))=K k:=by
    simp[Wp,h3]
   rw[e];simp only[execOp,ha.ev hx,ha.ev hy,ha.ev hz,Instr.mapUpdate,Sem.run_bind,run_underlying hu,MapKept.run_getObj_map hb',hq.chk,hq.find,hf,Result.andThen_ok,hk,Instr.keyThatStays,hq.same,if_true,Sem.run_pure,MapKept.run_setObj_map _ hb']
 exact wpList_plain rfl λKk hK=>upon_skip hrun (hK _ _ (kk _ _ ha (hw.write pre ⟨rfl,rfl,rfl,rfl,rfl⟩ λc fr e=>by cases e)))
def nxA(kv:List (κ×Value))(K:κ->Value):Option Nat->Array Value
 |some j=>match kv[j]? with
  |some p=>#[.bool true,K p.1,p.2]
  |none=>#[.bool true]
 |none=>#[.bool false]
def nxS(seen:List Nat):Option Nat->List Nat
 |some j=>seen++[j]
 |none=>seen
def nxP(n:Nat)(seen:List Nat):Option Nat->Prop
 |some j=>j<n/\j∉seen
 |none=>∀j,j<n->j∈seen
omit [DecidableEq κ] in
theorem QEI(x:Option Nat):(nxA kv K x)[0]?=some (.bool x.isSome):=by
 cases x with
 |none=>rfl
 |some j =>
  simp only[nxA]
  cases kv[j]?<;>rfl
def qQ(b n:Nat)(seen:List Nat):Obj:=.mapIter (some b) n seen.toArray n
omit [DecidableEq κ] in
theorem FQ(hx:ev m x=some (.map (some b)))(ht:Re P T kt et=true)(ho:Own bs b (ZA K kv) f)(k:∀r,JS P ops Q l N ((d,.pointer (some ⟨r,0,none⟩))::m) ⟨w0,F0,(r,qQ b kv.length [])::bs,G⟩)(hd:Jq N (some d)=true:=by rfl):
  JS P ops Q (⟨some d,.range T x,ty,pos,aft,none⟩::l) N m ⟨w0,F0,bs,G⟩:=λa w ha hw=>by
 have hb:=hw.own ho
 unfold ZA at hb
 have hrun:(execOp a.eval ⟨some d,.range T x,ty,pos,aft,none⟩).run P w = .ok (.value (.pointer (some ⟨w.heap.size,0,none⟩))) (w.alloc (qQ b kv.length [])):=by
  simp[execOp,ha.ev hx,run_range_map w T kt et b _ _ (PM ht) hb,qQ]
 exact wpList_plain rfl λKk hK=>upon_value hrun (hK _ _ (k _ _ _ (ha.put hd _) (hw.alloc _ λc fr e=>by cases e)))
omit [DecidableEq κ] in
theorem LO{r:Nat}{g:Obj->List (Nat×Obj)}(hx:ev m x=some (.pointer (some ⟨r,0,none⟩)))(hr:Own bs r (qQ b kv.length seen) g)(ho:Own bs b (ZA K kv) f)
  (k:∀x,nxP kv.length seen x->JS P ops Q l N ((d,.tuple (nxA kv K x))::m) ⟨w0,F0,g (qQ b kv.length (nxS seen x)),G⟩) (hd:Jq N (some d)=true:=by rfl) :
  JS P ops Q (⟨some d,.next x false,ty,pos,aft,none⟩::l) N m ⟨w0,F0,bs,G⟩:=λa w ha hw=>by
 have hb:=hw.own ho
 have hi:=hw.own hr
 unfold ZA at hb
 obtain⟨pre,post,e1,e2⟩:=hr.split
 subst e1
 simp only[e2]at k
 have hold:∀e∈(Xw K kv 0).toArray.toList,e.born<kv.length:=λe he=>by have:=(Bw kv 0 e (by simpa using he)).2;omega
 rcases run_next_at (P:=P) w ty r b kv.length kv.length seen.toArray (Xw K kv 0).toArray kv.length hi hb hold (Nat.le_refl _)with ⟨h0,hn⟩ | ⟨e,he,w1,hw1,hn⟩
 ·have hrun:(execOp a.eval ⟨some d,.next x false,ty,pos,aft,none⟩).run P w = .ok (.value (.tuple (nxA kv K none))) w:=by
   simp[execOp,ha.ev hx,hn,nxA]
  refine wpList_plain rfl λKk hK=>upon_value hrun (hK _ _ (k none (λj hj=>?_) _ _ (ha.put hd _) hw))
  have hm:(⟨K kv[j].1,kv[j].2,j⟩:MapEntry)∈Xw K kv 0:=by
   have:=Wp (K:=K) kv 0 j
   rw[List.getElem?_eq_getElem hj,Nat.zero_add]at this
   exact List.mem_of_getElem? this
  have hz:leftOf (Xw K kv 0).toArray seen.toArray=#[]:=Array.eq_empty_of_size_eq_zero h0
  unfold leftOf at hz
  rw[Array.filter_eq_empty_iff]at hz
  have:=hz _ (by simpa using hm)
  simpa using this
 unfold leftOf at he
 simp only[List.mem_toArray,Array.mem_toList_iff,Array.mem_filter]at he
 obtain⟨hm,hs⟩:=he
 obtain⟨j,hj,hje⟩:=List.getElem_of_mem hm
 rw[B7]at hj
 have hg:=Wp (K:=K) kv 0 j
 rw[List.getElem?_eq_getElem hj,List.getElem?_eq_getElem (by rw[B7];exact hj),hje,Nat.zero_add]at hg
 have hg':e=⟨K kv[j].1,kv[j].2,j⟩:=by simpa using hg
 subst hg'
 have hrun:(execOp a.eval ⟨some d,.next x false,ty,pos,aft,none⟩).run P w = .ok (.value (.tuple (nxA kv K (some j)))) (ChangeMaps.setBlock w1 r (qQ b kv.length (nxS seen (some j)))):=by
  simp[execOp,ha.ev hx,hn,nxA,hj,qQ,nxS]
 have hw2:St ⟨w0,F0,pre++(r,qQ b kv.length seen)::post,G⟩ w1:=by
  rcases hw1 with rfl | rfl
  ·exact hw
  exact hw.drew
 exact wpList_plain rfl λKk hK=>upon_value hrun (hK _ _ (k (some j) ⟨hj,by simpa using hs⟩ _ _ (ha.put hd _) (hw2.write pre ⟨rfl,rfl,rfl,rfl,rfl⟩ λc fr e=>by cases e)))
omit [DecidableEq κ] in
theorem vo{r:Nat}{p:κ×Value}{g:Obj->List (Nat×Obj)}(hx:ev m x=some (.pointer (some ⟨r,0,none⟩)))(hr:Own bs r (qQ b kv.length (seen++[j])) g)(ho:Own bs b (ZA K kv) f)(hj:kv[j]?=some p):
  Qt P N m (St ⟨w0,F0,bs,G⟩) (.entry x) ty (.tuple #[K p.1,p.2]):=λa w _ _ _ _ ha hw=>by
 have hb:=hw.own ho
 have hi:=hw.own hr
 unfold ZA at hb
 have hg:=Wp (K:=K) kv 0 j
 rw[hj,Nat.zero_add]at hg
 have hmem:=List.mem_of_getElem? hg
 have:=run_entry_at (P:=P) w r b kv.length seen.toArray (Xw K kv 0).toArray kv.length ⟨K p.1,p.2,j⟩ (by rw[hi];simp[qQ]) hb (by simpa using hmem) (by simpa using Eu kv 0)
 simp[execOp,ha.ev hx,this]
end
def CU(l:List Int)(x:Int):Yn (l++[x])=(Yn l++Lib.itoa x)++[32]:=by unfold Yn;rw[List.flatMap_append];simp
def SY{x:Int}(h:0<=x/\x<=1000000):(Lib.itoa x).length<=21:=Lib.itoa_length_le x O O
theorem Aa:∀ {l:List Int},(∀x∈l,0<=x/\x<=1000000)->(Yn l).length<=22*l.length
 |[],_=>by simp[Yn]
 |x::l,h=>by
  have h1:=SY (h x w9);have h2:=Aa (l:=l) (λy hy=>h y (by simp[hy]));rw[Wn];simp only[List.length_append,List.length_cons];change (XZ x).length<=21 at h1;omega
structure QIR(b:Nat)(l:List Int) where
 i:Nat
 ob:List (Nat×Obj)
 le:i<=l.length
 bl:Fz b (Yn (l.take i)) ob
theorem xR{r:Sr}(hF:Fits F w)(hGl:JZ F)(hR:JJ F r l)(hp:PW l):QY prog 172 [r.v] w F (tx (Yn l)):=by
 obtain⟨q,n,c⟩:=r;have hln:=hR.2.1;dsimp only[Sr.v]at hln ⊢;have hl1:=hp.2;refine QQ.go (G:=λF=>JZ F/\JJ F ⟨q,n,c⟩ l) func172 hF ⟨hGl,hR⟩ ?_;refine wA 7 I<|Qe pk λb3=>QLi 6 I<|QA (QW I Qd)<|QLi 4 I<|ZH (ι:=QIR b3 l) [(3,_),(6,_),(7,_)] (λi=>[(8,.int .i64 ((i.i:Nat):Int))]) (λi=>i.ob++[]) (λi F=>True) (λi=>l.length-i.i) (⟨0,_,Nat.zero_le _,by rw[List.take_zero];exact .fresh⟩) wV wT λi=>?_
 have hi:=i.le;have hkl:=Aa (l:=l.take i.i) (λx hx=>hp.1 x (List.mem_of_mem_take hx));rw[List.length_take]at hkl;refine wA 6 I ?_;refine QL I (λhc=>?_) λhc=>?_
 ·have hlt:i.i<l.length:=wm<|QK8 hc
  have he:=hp.el hlt;have hil:=SY he;refine QLj 6 I<|QA (Qo (n:=n) i.i (λF h9=>(h9.1.2).1) rfl rfl Qd QZ O)<|QA (Qg (n:=n) ((i.i)*1) (λF h9=>(h9.1.2).1) O rfl QZ (JH (o:=l) O))<|QLi 6 I<|QJ I (λ_ _ f k=>zP f k.1.1 (O) (O)) λ_=>Xj I (List.Perm.refl _) (WJ i.bl O) λp5=>JM _ (λ_ _ f h=>h.2) λhbl=>QJi<|QB<|Xj I (List.Perm.refl _) (UL (c:=32) hbl (by rw[List.length_append];omega)) λwob2=>JM _ (λ_ _ f h=>h.2) λhbl2=>?_
  rw[<-CU,YL hlt,<-XF hlt]at hbl2;refine QF<|Qa<|QC<|QB<|QA (Qk I I O)<|wB 2 I ?_
  exact Qb (⟨i.i+1,wob2,hlt,hbl2⟩)
 have hge:i.i=l.length:=wm<|QK9 hc
 refine Q7 ?_;refine QG<|QB ?_
 have hbl:=i.bl;rw[hge,List.take_length]at hbl;refine ME (v:=tx (Yn l)) hF rfl (enters_of func138 w8 rfl) (λw' hw'=>Builder_String_any w.heap.size b3 (Yn l) w' (hbl.is hw') (by obtain⟨F',h'⟩:=hw';exact h'.ext.size))<|wR I<|QT ?_
 exact QL3 I I (rfl) tB
end Go.Proofs.YteldggljlnakmaaGreatDoor
namespace Ig
def EW:List Tm->Tm->List Tm
 |[],n=>[n]
 |t::l,n=>if n.2=t.2 then n::l else t::EW l n
theorem Su:∀(l:List Tm) (n:Tm),∀k,k∈(EW l n).map (·.2)->k=n.2\/k∈l.map (·.2)
 |[],n,k,h=>by grind[EW]
 |t::l,n,k,h=>by
  simp only[EW]at h;split at h
  ·simp_all
  simp only[List.map_cons,List.mem_cons]at h ⊢;rcases h with h | h
  ·simp_all
  rcases Su l n k h with h | h
  all_goals simp_all
def P5:∀ {l:List Tm} (n:Tm),(l.map (·.2)).Nodup->((EW l n).map (·.2)).Nodup
 |[],n,_=>by simp[EW]
 |t::l,n,h=>by
  obtain⟨h1,h2⟩:=List.nodup_cons.1 h;simp[EW];split
  ·simp_all
  refine List.nodup_cons.2 ⟨λhm=>?_,P5 n h2⟩
  grind[Su]
def Si:∀ {l:List Tm} (n:Tm),(l.map (·.2)).Nodup->∀k,J5 (EW l n) k=if n.2=k then n.1 else J5 l k
 |[],n,_,k=>by simp[EW,J5,Rat.add_zero]
 |t::l,n,h,k=>by
  simp only[List.map_cons]at h;obtain⟨h1,h2⟩:=List.nodup_cons.1 h;have hz:J5 l t.2=0:=Wq λx hx e=>h1 (e ▸ List.mem_map_of_mem hx);simp[EW];split
  ·simp[J5]
   grind
  simp[J5];rw[Si n h2 k]
  grind
structure yR(T l:List Tm):Prop where
 nd:(T.map (·.2)).Nodup
 eq:UI T l
def yR.nil:yR [] []:=⟨List.nodup_nil,UI.refl _⟩
def yR.add{T l:List Tm}(h:yR T l)(f:Rat)(p:List Int):yR (EW T (f+J5 T p,p)) (l++[(f,p)]) :=
 ⟨P5 _ h.nd,λk=>by
  rw[Si _ h.nd,FG,<-h.eq k];simp[J5]
  grind⟩
def yR.FF{T l:List Tm}(h:yR T l){t:Tm}(ht:t∈T):J5 T t.2=t.1:=by
 have key:∀ {T:List Tm},(T.map (·.2)).Nodup->t∈T->J5 T t.2=t.1:=by
  intro T
  induction T with
  |nil=>simp
  |cons x T ih =>
   intro hn hm;simp only[List.map_cons]at hn;obtain⟨h1,h2⟩:=List.nodup_cons.1 hn;rcases List.mem_cons.1 hm with rfl | hm
   ·simp[J5];have hz:J5 T t.2=0:=Wq λx hx e=>h1 (e ▸ List.mem_map_of_mem hx)
    grind
   simp[J5]
   grind
 exact key h.nd ht
def Cj{T:List Tm}{p:List Int}(h:p∉T.map (·.2)):J5 T p=0:=Wq λx hx e=>h (e ▸ List.mem_map_of_mem hx)
def yR.norm{T l s:List Tm}(h:yR T l)(hp:s.Perm (T.filter λt=>decide (t.1≠0)))(hs:s.Pairwise λx y=>before x.2 y.2=true):s=J3 l:=by
 refine AB ⟨hs,λt ht=>?_⟩ ((UI.perm hp).trans ((eqv_filter T).trans h.eq))
 grind
end Ig
namespace Go.Proofs.YteldggljlnakmaaGreatDoor
variable{a b l o u:List Int}{c i j k m:Nat}{w:World}{F F':Gs}{ra rb:Sr}{x y:Operand}{s:List UInt8}{cs news rest:List Value}{α ι:Type}{T e et kt yT:TypeId}{q:Option Addr}{f z zx:Int}{P:Program}{seen:List Nat}
open Go.RowKit Ig
structure Xp where
 x:Fr
 r:Sr
 t:Tm
variable{ts:List Xp}
instance :Inhabited Xp:=⟨⟨⟨⟨0,none,0,0⟩,⟨0,none,0,0⟩⟩,⟨none,0,0⟩,(0,[])⟩⟩
def Vx(t:Xp):List Value:=[.int .i64 t.x.n.s,.slice t.x.n.q t.x.n.n t.x.n.cap,.int .i64 t.x.d.s,.slice t.x.d.q t.x.d.n t.x.d.cap,.slice t.r.q t.r.n t.r.cap]
@[reducible] def CL (t:Xp):Value:=.agg #[.int .i64 t.x.n.s,.slice t.x.n.q t.x.n.n t.x.n.cap,.int .i64 t.x.d.s,.slice t.x.d.q t.x.d.n t.x.d.cap,.slice t.r.q t.r.n t.r.cap]
theorem W8(t:Xp):(Vx t).length=5:=rfl
def Fy(F:Gs)(t:Xp):Prop:=Jl F t.x t.t.1/\JJ F t.r t.t.2
def Fy.le{t:Xp}(h:Fy F t)(k:Gs.le F F'):Fy F' t:=⟨h.1.le k,h.2.le k⟩
instance{t:Xp}: Up (λF=>Fy F t):=⟨λk h=>Fy.le h k⟩
def GI(F:Gs)(ts:List Xp):Prop:=∀t∈ts,Fy F t
def GI.le(h:GI F ts)(k:Gs.le F F'):GI F' ts:=λt ht=>(h t ht).le k
def Gt(ts:List Xp):List (List UInt8×Value):=ts.map λt=>(Yn t.t.2,CL t)
def Jy(ts:List Xp):List Tm:=ts.map (·.t)
def addN:List Xp->Xp->List Xp
 |[],n=>[n]
 |t::l,n=>if n.t.2=t.t.2 then n::l else t::addN l n
theorem UU:∀(ts:List Xp) (n:Xp),Jy (addN ts n)=EW (Jy ts) n.t
 |[],n=>rfl
 |t::l,n=>by
  have ih:=UU l n;unfold Jy at ih ⊢;simp only[addN,List.map_cons,EW];split
  ·simp
  simp[ih]
theorem PO:∀(ts:List Xp) (n:Xp),Gt (addN ts n)=Bl (Gt ts) (Yn n.t.2) (CL n)
 |[],n=>rfl
 |t::l,n=>by
  have ih:=PO l n;unfold Gt at ih ⊢;simp only[addN,List.map_cons,Bl];by_cases h:n.t.2=t.t.2
  ·rw[if_pos h,if_pos (congrArg Yn h)];simp
  rw[if_neg h,if_neg λe=>h (DW e)];simp[ih]
theorem PL{n x:Xp}(h:x∈addN ts n):x=n\/x∈ts:=by
 induction ts with
 |nil=>simp[addN]at h;exact .inl h
 |cons t l ih =>
  simp only[addN]at h;split at h
  ·rcases List.mem_cons.1 h with h | h
   ·exact .inl h
   exact .inr (List.mem_cons_of_mem _ h)
  rcases List.mem_cons.1 h with h | h
  ·exact .inr (h ▸ List.mem_cons_self)
  rcases ih h with h | h
  ·exact .inl h
  exact .inr (List.mem_cons_of_mem _ h)
theorem cP:∀(ts:List Xp) (p:List Int) (i:Nat),(Z0 (Gt ts) (Yn p) i=none/\p∉(Jy ts).map (·.2))\/∃j,∃t∈ts,t.t.2=p/\Z0 (Gt ts) (Yn p) i=some (j,CL t)
 |[],_,_=>.inl ⟨rfl,by simp[Jy]⟩
 |t::l,p,i=>by
  by_cases h:p=t.t.2
  ·exact .inr ⟨i,t,List.mem_cons_self,h.symm,by show(if _ then _ else _)=_;rw[if_pos (congrArg Yn h)]⟩
  rcases cP l p (i+1)with ⟨h1,h2⟩ | ⟨j,u,hu,h1,h2⟩
  ·refine .inl ⟨?_,?_⟩
   ·show(if _ then _ else _)=_;rw[if_neg λe=>h (DW e)];exact h1
   simp only[Jy,List.map_cons,List.mem_cons,not_or];exact⟨h,h2⟩
  refine .inr ⟨j,u,List.mem_cons_of_mem _ hu,h1,?_⟩;show(if _ then _ else _)=_;rw[if_neg λe=>h (DW e)];exact h2
def VR(l:List Tm):Nat:=(l.map λt=>XH t.1+1).sum
def KE(l m:List Tm):VR (l++m)=VR l+VR m:=by unfold VR;rw[List.map_append,List.sum_append]
theorem UY:∀(l:List Tm) (k:List Int),XH (J5 l k)<=VR l+1
 |[],k=>by show XH (0:Rat)<=_;decide
 |t::l,k=>by
  have h1:=UY l k;simp only[J5];have h2:=qY (if t.2=k then t.1 else 0) (J5 l k);have h3:XH (if t.2=k then t.1 else 0)<=XH t.1+1:=by
   split
   ·omega
   have:XH (0:Rat)<=1:=wv;omega
  have e:VR (t::l)=XH t.1+1+VR l:=by unfold VR;rw[List.map_cons,List.sum_cons]
  have h4:XH (J5 (t::l) k)<=VR l+1+(XH t.1+1):=by
   simp only[J5];by_cases g:t.2=k
   ·rw[if_pos g]at h2 ⊢;omega
   rw[if_neg g,Rat.zero_add];omega
  rw[e];simp only[J5]at h4;omega
structure V3(ts:List Xp)(l:List Tm):Prop where
 vN:yR (Jy ts) l
 pw:∀t∈ts,PW t.t.2
 ln:ts.length<=l.length
def V3.nil:V3 [] []:=⟨yR.nil,(λ_ h=>by cases h),Nat.le_refl _⟩
theorem yP(ts:List Xp)(n:Xp):(addN ts n).length<=ts.length+1:=by
 induction ts with
 |nil=>exact Nat.le_refl _
 |cons t l ih =>
  simp only[addN];split<;>simp only[List.length_cons]<;>omega
def V3.add{l:List Tm}(h:V3 ts l){f:Rat}{p:List Int}(hp:PW p){n:Xp}(hn:n.t=(f+J5 (Jy ts) p,p)):V3 (addN ts n) (l++[(f,p)]) :=
 ⟨by rw[UU,hn];exact h.vN.add f p,λt ht=>by
  rcases PL ht with rfl | ht
  ·rw[hn];exact hp
  exact h.pw t ht,by have:=yP ts n;have:=h.ln;rw[List.length_append];simp only[List.length_singleton];omega⟩
theorem V3.sz{l:List Tm}(h:V3 ts l){t:Xp}(ht:t∈ts):XH t.t.1<=VR l+1:=by
 rw[<-h.vN.FF (List.mem_map_of_mem (f:=Xp.t) ht),h.vN.eq];exact UY _ _
theorem PH:Re prog 177 9 160=true:=wu
theorem H6:Sw prog 9 tx:=.str wu
theorem vA:zvB prog 160=some (.agg #[.int .i64 0,.slice none 0 0,.int .i64 0,.slice none 0 0,.slice none 0 0]):=wu
section
theorem MY{Q:Exit->Act->World->Prop}{N:Nat}{m:Sl}{w0:World}{F0:Gs}{bs:List (Nat×Obj)}{G H:Gs->Prop}{c:Code}(h:∀F,G F->H F)(k:J P c Q N m ⟨w0,F0,bs,λF=>G F/\H F⟩):J P c Q N m ⟨w0,F0,bs,G⟩ :=
 λa w ha hw=>k a w ha (hw.Bs λF h'=>⟨h',h F h'⟩)
variable{w0:World}{F0:Gs}{bs:List (Nat×Obj)}{G:Gs->Prop}
theorem IH{l:List Tm}{x:Fr}{f:Rat}{r:Sr}{p:List Int}(hI:V3 ts l)(hp:PW p)(hz:XH f<=40000000)(hl:VR l<=40000000)(hG:∀F,G F->JZ F/\GI F ts/\Jl F x f/\JJ F r p){t0:Xp}{j:Nat}(ht:t0∈ts)(h0:t0.t.2=p)(hf:Z0 (Gt ts) (Yn p) 0=some (j,CL t0)):
  Jn prog 104 [.map (some m),x.v,r.v] ⟨w0,F0,(m,ZA tx (Gt ts))::bs,G⟩ (λ(_:Xp)=>.tuple #[]) (λn=>⟨w0,F0,(m,ZA tx (Gt (addN ts n)))::bs,λF=>G F/\GI F (addN ts n)/\n.t=(f+J5 (Jy ts) p,p)⟩):=by
 have hc0:J5 (Jy ts) p=t0.t.1:=by rw[<-h0];exact hI.vN.FF (List.mem_map_of_mem (f:=Xp.t) ht)
 have hz0:=hI.sz ht;dsimp only[Sr.v,Fr.v];refine Jn.intro func104 rfl w8 rfl rfl<|MY hG<|QKt<|Q8 rfl (vs:=[_,_,_,_]) rfl λb4=>QJi<|wS rfl<|QJ rfl (λ_ _ f k=>xR f k.2.1 (r:=r) k.2.2.2.2 (hp)) λ_=>wR rfl<|QG<|wS rfl<|QJj rfl<|QA (Lw H6 rfl rfl PH .u1 hf)<|QJj rfl<|QA (QU rfl rfl)<|QA (QU rfl rfl)<|Qe Kz λb7=>QS (vs:=[_,_,_,_,_]) rfl rfl rfl XQ rfl .here .h5 wX<|wR rfl<|wS rfl<|QF<|QC ?_
 refine QL I (λhc=>?_) λhc=>?_
 ·refine QB<|QA (wJ I JA .u1)<|QA (QH I WC JA)<|QA (wJ I JA .here)<|QJ I (λw F hF ⟨⟨hG0,hGl,hT,⟨hxn,hxd⟩,hR⟩,_⟩=>de hF ⟨by assumption,by assumption⟩ ((hT t0 ht).1) O O) λx21=>QS (vs:=[_,_,_,_]) I I I JA I .u1 .h4 wW<|QLi 5 I<|QA (wJ I JA .u1)<|QJj I<|QA (Jr I U2 Kz (.cons (vs:=[_,_,_,_]) I I I .h4 (.cons (vs:=[_]) I I I (.skip (.skip (.skip (.skip .h1)))) .nil)))<|EZ (k:=Yn p) (v:=CL ⟨x21,r,(f+t0.t.1,p)⟩) H6 I I I PH .u2<|QF<|Dv ?_
  exact ZN (⟨x21,r,(f+t0.t.1,p)⟩) I .nil (rfl) (λw h=>by
   show St ⟨w0,F0,(m,ZA tx (Gt (addN ts ⟨x21,r,(f+t0.t.1,p)⟩)))::bs,_⟩ w;rw[PO];exact St.imp h (.cons _ (.cons _ QJ3)) (λF ⟨⟨⟨hG0,hGl,hT,⟨hxn,hxd⟩,hR⟩,_⟩,⟨h21,h21_⟩⟩=>⟨hG0,λt ht=>by
    rcases PL ht with rfl | ht
    ·exact⟨⟨by assumption,by assumption⟩,hR⟩
    exact hT t ht,by rw[hc0]⟩))
 exact absurd hc (by cases hc)
theorem Uc{l:List Tm}{x:Fr}{f:Rat}{r:Sr}{p:List Int}(hI:V3 ts l)(hp:PW p)(hz:XH f<=40000000)(hl:VR l<=40000000)(hG:∀F,G F->JZ F/\GI F ts/\Jl F x f/\JJ F r p)(hf:Z0 (Gt ts) (Yn p) 0=none)(hm:p∉(Jy ts).map (·.2)):
  Jn prog 104 [.map (some m),x.v,r.v] ⟨w0,F0,(m,ZA tx (Gt ts))::bs,G⟩ (λ(_:Xp)=>.tuple #[]) (λn=>⟨w0,F0,(m,ZA tx (Gt (addN ts n)))::bs,λF=>G F/\GI F (addN ts n)/\n.t=(f+J5 (Jy ts) p,p)⟩):=by
 have hc0:J5 (Jy ts) p=0:=Cj hm;dsimp only[Sr.v,Fr.v];refine Jn.intro func104 rfl w8 rfl rfl<|MY hG<|QKt<|Q8 rfl (vs:=[_,_,_,_]) rfl λb4=>QJi<|wS rfl<|QJ rfl (λ_ _ f k=>xR f k.2.1 (r:=r) k.2.2.2.2 (hp)) λ_=>wR rfl<|QG<|wS rfl<|QJj rfl<|QA (Fa H6 rfl rfl PH vA .u1 hf)<|QJj rfl<|QA (QU rfl rfl)<|QA (QU rfl rfl)<|Qe Kz λb7=>QS (vs:=[_,_,_,_,_]) rfl rfl rfl XQ rfl .here .h5 wX<|wR rfl<|wS rfl<|QF<|QC ?_
 refine QL I (λhc=>?_) λhc=>?_
 ·exact absurd hc (by cases hc)
 refine QLj 5 I<|QA (wJ I JA .u1)<|QJj I<|QA (Jr I U2 Kz (.cons (vs:=[_,_,_,_]) I I I .h4 (.cons (vs:=[_]) I I I (.skip (.skip (.skip (.skip .h1)))) .nil)))<|EZ (k:=Yn p) (v:=CL ⟨x,r,(f,p)⟩) H6 I I I PH .u2<|QF<|Dv ?_
 exact ZN (⟨x,r,(f,p)⟩) I .nil (rfl) (λw h=>by
  show St ⟨w0,F0,(m,ZA tx (Gt (addN ts ⟨x,r,(f,p)⟩)))::bs,_⟩ w;rw[PO];exact St.imp h (.cons _ (.cons _ QJ3)) (λF ⟨⟨hG0,hGl,hT,⟨hxn,hxd⟩,hR⟩,_⟩=>⟨hG0,λt ht=>by
   rcases PL ht with rfl | ht
   ·exact⟨⟨by assumption,by assumption⟩,hR⟩
   exact hT t ht,by rw[hc0,Rat.add_zero]⟩))
theorem Ny{l:List Tm}{x:Fr}{f:Rat}{r:Sr}{p:List Int}(hI:V3 ts l)(hp:PW p)(hz:XH f<=40000000)(hl:VR l<=40000000)(hG:∀F,G F->JZ F/\GI F ts/\Jl F x f/\JJ F r p):
  Jn prog 104 [.map (some m),x.v,r.v] ⟨w0,F0,(m,ZA tx (Gt ts))::bs,G⟩ (λ(_:Xp)=>.tuple #[]) (λn=>⟨w0,F0,(m,ZA tx (Gt (addN ts n)))::bs,λF=>G F/\GI F (addN ts n)/\n.t=(f+J5 (Jy ts) p,p)⟩):=by
 rcases cP ts p 0 with ⟨h1,h2⟩ | ⟨j,t,ht,h1,h2⟩
 ·exact Uc hI hp hz hl hG h1 h2
 exact IH hI hp hz hl hG ht h1 h2
end
section
variable[Dr]
theorem vz{w:World}{F:Gs}{a b:Xp}(hF:Fits F w)(hA:Fy F a)(hB:Fy F b)(pa:PW a.t.2)(pb:PW b.t.2):QY prog 174 [CL a,CL b] w F (.int .i64 (GR a.t.2 b.t.2)):=by
 refine QQ.go (G:=λF=>Fy F a/\Fy F b) func174 hF ⟨hA,hB⟩ ?_;refine QKt<|Q8 I (vs:=[_,_,_,_,_]) I λb2=>Q8 I (vs:=[_,_,_,_,_]) I λb3=>QLi 5 I<|QA (QH I K9 Q5)<|QA (Qf I Q5 .u1 (.skip (.skip (.skip (.skip .h1)))))<|QA (QH I K9 Q5)<|QA (Qf I Q5 .here (.skip (.skip (.skip (.skip .h1)))))<|QJ I (λ_ _ f k=>PD f (ra:=a.r) (rb:=b.r) k.1.2 (k.2.2) (pa) (pb)) λ_=>wR I<|QT ?_
 exact QL3 I I (rfl) tB
end
end Go.Proofs.YteldggljlnakmaaGreatDoor
namespace Go.Proofs
open Go.Shelf
def CF:Go.Shelf.Ren:=⟨λ| 14=>234 | 20=>260 | 21=>261 | 22=>262 | 23=>263 | 24=>264 | 25=>265 | 26=>266 | 27=>267 | 46=>281 | 47=>282 | 48=>283 | 49=>284 | 50=>285 | 15=>235 | 57=>291 | 28=>268 | 29=>219 | n=>n,λ| 24=>160 | 22=>106 | 3=>3 | 25=>243 | 4=>4 | 0=>0 | 46=>305 | 45=>304 | 50=>155 | 66=>322 | 39=>261 | 55=>201 | 70=>326 | 76=>332 | 77=>333 | 53=>298 | 5=>5 | 9=>9 | n=>n,λ| n=>n⟩
theorem uk:Go.Proofs.SlLaysF0.n14 prog CF:={
 mixed:=wu
 f14:=⟨f234.name,wv,func234.trans tL⟩
 f15:=func235.trans tL
 f20:=⟨f260.name,wv,func260.trans tL⟩
 f21:=⟨f261.name,wv,func261.trans tL⟩
 f22:=⟨f262.name,wv,func262.trans tL⟩
 f23:=⟨f263.name,wv,func263.trans tL⟩
 f24:=⟨f264.name,wv,func264.trans tL⟩
 f25:=⟨f265.name,wv,func265.trans tL⟩
 f26:=⟨f266.name,wv,func266.trans tL⟩
 f27:=⟨f267.name,wv,func267.trans tL⟩
 f28:=func268.trans tL
 f29:=func219.trans tL
 f46:=⟨f281.name,wv,func281.trans tL⟩
 f47:=func282.trans tL
 f48:=func283.trans tL
 f49:=⟨f284.name,wv,func284.trans tL⟩
 f50:=⟨f285.name,wv,func285.trans tL⟩
 f57:=⟨f291.name,wv,func291.trans tL⟩
 t0:=underlying0
 a0:=isAgg0
 z0:=sizeOf0
 v0:=zeroValue0
 t3:=underlying3
 a3:=isAgg3
 z3:=sizeOf3
 v3:=zeroValue3
 t4:=underlying4
 a4:=isAgg4
 z4:=sizeOf4
 v4:=zeroValue4
 t5:=underlying5
 a5:=isAgg5
 z5:=sizeOf5
 v5:=zeroValue5
 t9:=underlying9
 a9:=isAgg9
 z9:=sizeOf9
 v9:=zeroValue9
 t22:=underlying106
 a22:=isAgg106
 z22:=sizeOf106
 v22:=zeroValue106
 t25:=underlying243
 a25:=isAgg243
 z25:=sizeOf243
 v25:=zeroValue243
 t39:=underlying261
 a39:=isAgg261
 z39:=sizeOf261
 v39:=zeroValue261
 t45:=underlying304
 a45:=isAgg304
 z45:=sizeOf304
 v45:=zeroValue304
 t46:=underlying305
 a46:=isAgg305
 z46:=sizeOf305
 v46:=zeroValue305
 t50:=underlying155
 a50:=isAgg155
 z50:=sizeOf155
 v50:=zeroValue155
 t53:=underlying298
 a53:=isAgg298
 z53:=sizeOf298
 v53:=zeroValue298
 t55:=underlying201
 a55:=isAgg201
 z55:=sizeOf201
 v55:=zeroValue201
 t66:=underlying322
 a66:=isAgg322
 z66:=sizeOf322
 v66:=zeroValue322
 t70:=underlying326
 a70:=isAgg326
 z70:=sizeOf326
 v70:=zeroValue326
 t76:=underlying332
 a76:=isAgg332
 z76:=sizeOf332
 v76:=zeroValue332
 t77:=underlying333
 a77:=isAgg333
 z77:=sizeOf333
 v77:=zeroValue333 }
end Go.Proofs
namespace Go.Proofs.YteldggljlnakmaaGreatDoor
variable{a b l o u:List Int}{c i j k m:Nat}{w:World}{F F':Gs}{ra rb:Sr}{x y:Operand}{s:List UInt8}{cs news rest:List Value}{α ι:Type}{T e et kt yT:TypeId}{q:Option Addr}{f z zx:Int}{P:Program}{seen:List Nat}{ts:List Xp}
section
open Go.RowKit Ig Go.Sort
def ntd:Xp:=⟨⟨⟨0,none,0,0⟩,⟨1,none,0,0⟩⟩,⟨none,0,0⟩,(0,[])⟩
def QEL(F:Gs):Fy F ntd:=⟨⟨Jt.small F wv wv,Jt.small F wv wv⟩,⟨by simp[Qu,ntd],rfl,Nat.le_refl _⟩⟩
def PW.nil:PW []:=⟨λ_ h=>(by cases h),w9⟩
abbrev pQ(F:Gs):={t:Xp // Fy F t/\PW t.t.2}
instance(F:Gs):Inhabited (pQ F):=⟨⟨ntd,QEL F,PW.nil⟩⟩
def H9(F:Gs):pQ F->List Value:=λt=>Vx t.1
def cfT(F:Gs):pQ F->pQ F->Int:=λx y=>GR x.1.t.2 y.1.t.2
def ltT(x y:pQ F):ltOf (cfT F) x y=before x.1.t.2 y.1.t.2:=(Hu _ _).symm
theorem Rl{c:List Int}(h:before a b=false)(k:before b c=false):before a c=false:=by
 cases hb:before a c with
 |false=>rfl
 |true =>
  rcases GD b c with e | e | e
  ·subst e;rw[h]at hb;cases hb
  ·rw[k]at e;cases e
  rw[before_trans hb e]at h;cases h
theorem QDn(F:Gs):SWO (ltOf (cfT F)) where
 irrefl:=λx=>by rw[ltT];exact before_irrefl _
 trans:=λx y z h k=>by rw[ltT]at h k ⊢;exact before_trans h k
 ntrans:=λx y z h k=>by rw[ltT]at h k ⊢;exact Rl h k
def CO(w:World)(F:Gs)(W:World):Gs:=λb=>if b<w.heap.size then F b else match W.heap[b]? with | some (.cells c T _)=>if T=201 then some (c,201)else none | _=>none
def Wm{W:World}{b:Nat}(h:b<w.heap.size):CO w F W b=F b:=if_pos h
theorem L4{W:World}(hF:Fits F w):Gs.le F (CO w F W):=λb x hb=>by rw[Wm (hF.lt hb)];exact hb
theorem SJ{W:World}{Dm:Nat}{c':Array Value}{fr':Nat×Nat}(hF:Fits F w)(hn:F Dm=none)(hT:T≠201)(h1:∀b,b<w.heap.size->b≠Dm->W.heap[b]?=w.heap[b]?)(h2:W.heap[Dm]?=some (.cells c' T fr')):Fits (CO w F W) W:=by
 refine⟨λb c T hb=>?_,λb c fr hb=>?_⟩
 ·by_cases hlt:b<w.heap.size
  ·rw[Wm hlt]at hb;obtain⟨fr,e⟩:=hF.row b c T hb;have hne:b≠Dm:=by rintro rfl;rw[hn]at hb;cases hb
   exact⟨fr,by rw[h1 b hlt hne];exact e⟩
  unfold CO at hb;rw[if_neg hlt]at hb;split at hb
  ·rename_i c' T' fr heq;split at hb
   ·rename_i hT;cases hb;exact⟨fr,by rw[heq,hT]⟩
   cases hb
  cases hb
 by_cases hlt:b<w.heap.size
 ·rw[Wm hlt];by_cases hne:b=Dm
  ·subst hne;rw[h2]at hb;cases hb;exact absurd rfl hT
  rw[h1 b hlt hne]at hb;exact hF.all b c fr hb
 unfold CO;rw[if_neg hlt,hb];simp
theorem dN{w':World}(h1:Below w.heap.size w w')(h2:w.drawn<=w'.drawn):w'=grow (w.drewN (w'.drawn-w.drawn)) (w'.heap.extract w.heap.size w'.heap.size):=by
 have hh:w'.heap=w.heap++w'.heap.extract w.heap.size w'.heap.size:=by
  apply Array.ext_getElem?;intro i;rw[Array.getElem?_append];split
  ·rename_i h;exact h1.block i h
  rename_i h;rw[Array.getElem?_extract];have:=h1.size;by_cases g:i<w'.heap.size
  ·rw[if_pos O];congr 1;omega
  rw[if_neg O,Array.getElem?_eq_none O]
 obtain⟨e1,e2,e3,_,_⟩:=h1;cases w' with
 |mk heap tape drawn os output =>
  simp only at hh e1 e2 e3 h2;unfold grow World.drewN;simp only[World.mk.injEq];exact⟨hh,e2,O,e1,e3⟩
section
variable{α:Type}[Inhabited α]{enc:α->List Value}{k:Nat}{w:World}{Dm m:Nat}{dk:Array α}{os:Array Obj}{c:Array Value}{T:TypeId}{fr:Nat×Nat}
def DF(b:Nat)(hb:b<w.heap.size)(hne:b≠Dm):(sortWorldK enc k w Dm 0 m dk os).heap[b]?=w.heap[b]?:=by
 show((w.heap.modify Dm _)++os)[b]?=_;rw[Array.getElem?_append,if_pos (by simpa using hb),Array.getElem?_modify,if_neg (Ne.symm hne)]
def ja(h:w.heap[Dm]?=some (.cells c T fr)):(sortWorldK enc k w Dm 0 m dk os).heap[Dm]?=some (.cells (putCells id 0 (flatK enc k dk) c) T fr):=by
 have hb:Dm<w.heap.size:=by
  rcases Nat.lt_or_ge Dm w.heap.size with g | g
  ·exact g
  rw[Array.getElem?_eq_none g]at h;cases h
 show((w.heap.modify Dm _)++os)[Dm]?=_;rw[Array.getElem?_append,if_pos (by simpa using hb),Array.getElem?_modify,if_pos rfl,h];rfl
theorem I3(hk:∀x,(enc x).length=k)(d:Array α):flatK enc k d=(d.toList.flatMap enc).toArray:=by
 have hl:(d.toList.flatMap enc).length=d.size*k:=by
  generalize hd:d.toList=l;have:d.size=l.length:=by rw[<-hd];simp
  rw[this];clear this hd
  induction l with
  |nil=>simp
  |cons x l ih=>rw[List.flatMap_cons,List.length_append,ih,hk,List.length_cons,Nat.add_mul];omega
 apply Array.ext_getElem?;intro t;by_cases ht:t<d.size*k
 ·have hk0:0<k:=Nat.pos_of_ne_zero λe=>by rw[e]at ht;simp at ht
  have h1:t/k<d.size:=(Nat.div_lt_iff_lt_mul hk0).2 ht;have h2:t%k<k:=Nat.mod_lt _ hk0;have h3:t%k<(enc d[t/k]!).length:=by rw[hk];exact h2
  have e1:(flatK enc k d)[t]?=some ((enc d[t/k]!)[t%k]!):=by
   rw[Array.getElem?_eq_getElem (by rw[size_flatK];exact ht)];have:=get_flatK enc k d t ht;rw[getElem!_pos _ t (by rw[size_flatK];exact ht)]at this;rw[this]
  rw[e1,List.getElem?_toArray];have h4:el d.toList (t/k)=d[t/k]!:=by simp[el,h1]
  have:=Q4 (f:=enc) hk (l:=d.toList) (i:=t/k) (j:=t%k) (u:=(enc d[t/k]!)[t%k]!) (by simpa using h1) (by rw[h4,List.getElem?_eq_getElem h3,getElem!_pos (enc d[t/k]!) (t%k) h3]);rw[Nat.mul_comm,Nat.div_add_mod]at this;exact this.symm
 rw[Array.getElem?_eq_none (by rw[size_flatK];omega),List.getElem?_toArray,List.getElem?_eq_none O]
theorem TP{a b:List Value}(h:b.length=a.length):putCells id 0 b.toArray (a++rest).toArray=(b++rest).toArray:=by
 apply Array.ext_getElem?;intro i;unfold putCells;rw[Array.getElem?_mapIdx,List.getElem?_toArray,List.getElem?_toArray,List.getElem?_append,List.getElem?_append];by_cases hi:i<a.length
 ·have hi':i<b.length:=O;rw[if_pos hi,if_pos hi',List.getElem?_eq_getElem hi,List.getElem?_eq_getElem hi'];simp[hi']
 have hi':¬i<b.length:=O;rw[if_neg hi,if_neg hi',h];have e:¬(0<=i/\i<0+b.toArray.size):=tA;cases rest[i-a.length]? with
 |none=>rfl
 |some x=>simp only[Option.map_some];rw[if_neg e]
end
def qA(g:FuncId):Prop:=Enters prog g/\∀(w:World) (F:Gs) (a b:Xp),Fits F w->Fy F a->Fy F b->PW a.t.2->PW b.t.2->@QQ ⟨True⟩ prog g [CL a,CL b] w F Unit (λ_=>.int .i64 (GR a.t.2 b.t.2)) λ_ _=>True
theorem qA.lays{g:FuncId}(hg:qA g){w:World}{F:Gs}{Dm size:Nat}{c:Array Value}{T:TypeId}{fr:Nat×Nat}(hF:Fits F w)(hn:F Dm=none)(hT:T≠201)(hb:w.heap[Dm]?=some (.cells c T fr)):CmpLays prog g #[] (H9 F) 5 (cfT F) Dm 0 size w:=λm os dk _ x y=>by
 have hf:=SJ (W:=sortWorldK (H9 F) 5 w Dm 0 m dk os) hF hn hT (λb h1 h2=>DF b h1 h2) (ja hb);have hle:=L4 (W:=sortWorldK (H9 F) 5 w Dm 0 m dk os) hF;have:=(hg.2 _ _ x.1 y.1 hf (x.2.1.le hle) (y.2.1.le hle) x.2.2 y.2.2).2;refine this.mono ?_;rintro e w' ⟨_,F',rfl,hx,_⟩;exact⟨rfl,_,_,dN (@RF.toBelow ⟨True⟩ _ _ hx) (@RF.dr ⟨True⟩ _ _ hx trivial)⟩
def QHb(x:pQ F):∀v∈H9 F x,v.oneCell'=true:=by
 intro v hv;unfold H9 Vx at hv;simp only[List.mem_cons,List.not_mem_nil,or_false]at hv;rcases hv with rfl | rfl | rfl | rfl | rfl<;>rfl
variable[Dr]{w0:World}{F0:Gs}{bs:List (Nat×Obj)}{G:Gs->Prop}
theorem QEE{g:FuncId}(hg:qA g){b n cap lim:Nat}{ts:List Xp}{rest:List Value}(hG:∀F,G F->GI F ts)(hp:∀t∈ts,PW t.t.2)(hl:ts.length=n)(hn:n<4611686018427387904)(hlim:lim<4611686018427387904):
  Jn prog 234 [.slice (some ⟨b,0,none⟩) n cap,.int .i64 0,.int .i64 (n:Nat),.int .i64 (lim:Nat),.func (.func g) #[] #[]] ⟨w0,F0,(b,.cells (ts.flatMap Vx++rest).toArray 160 (0,0))::bs,G⟩ (λ(_:List Xp)=>.tuple #[])
   (λts'=>⟨w0,F0,(b,.cells (ts'.flatMap Vx++rest).toArray 160 (0,0))::bs,λF=>G F/\ts'.Perm ts/\ts'.Pairwise λx y=>before y.t.2 x.t.2=false⟩):=by
 refine⟨enters_of func234 w8 rfl,λw hw=>?_⟩;obtain⟨F,h⟩:=hw;obtain⟨hb1,hb2,hb3⟩:=h.bx (b,_) List.mem_cons_self;have hts:=hG F h.hG;have hblt:b<w.heap.size:=(Array.getElem?_eq_some_iff.1 hb1).1;have hT:(160:TypeId)≠201:=wv;obtain⟨d,hd⟩:∃d:Array (pQ F),d.toList.map (·.1)=ts:=by
  refine⟨(ts.attach.map λt=>(⟨t.1,hts t.1 t.2,hp t.1 t.2⟩:pQ F)).toArray,?_⟩;simp[List.map_map,Function.comp_def]
 have hds:d.size=n:=by rw[<-hl,<-hd];simp
 have hfl:∀d:Array (pQ F),flatK (H9 F) 5 d=((d.toList.map (·.1)).flatMap Vx).toArray:=λd=>by
  rw[I3 (enc:=H9 F) (k:=5) (λ_=>rfl),List.flatMap_map];rfl
 have hH:HoldsK (H9 F) 5 w b 0 d:=by
  intro j hj;rw[hfl,hd]at hj ⊢;have hj':j<(ts.flatMap Vx).length:=by simpa using hj
  rw[Nat.zero_add];refine⟨?_,by simp[World.frozen?,hb1]⟩;simp only[World.cell?,hb1,Option.isSome_none,Bool.false_eq_true,if_false,List.getElem?_toArray];rw[List.getElem?_append_left hj',List.getElem?_eq_getElem hj'];show some _=some ((ts.flatMap Vx).toArray[j]!);rw[getElem!_pos (ts.flatMap Vx).toArray j (by simpa using hj')];simp
 have hR:RowK (H9 F) 5 w b 0 d:=⟨λ_=>rfl,λx=>QHb x,hH,hblt⟩;have eg:=hg.1;have hcmp:=hg.lays (size:=d.size) h.fits hb3 hT hb1;have hs:=AnyQ.pdqsortCmpFunc_all uk 5 (RH XQ) (Ys XQ) (H9 F) (cfT F) g #[] (QDn F) b 0 cap d w eg hcmp hR (d.size+1) 0 d.size lim d w O rfl (SWK.start hH) (Nat.zero_le _) (Nat.le_refl _) O hlim (Or.inl I);have hpl:=pdq_sorts (ltOf (cfT F)) (QDn F) d 0 d.size lim true true (Nat.zero_le _) (Nat.le_refl _) (Or.inl I);generalize pdq (ltOf (cfT F)) d 0 d.size lim true true=d' at hs hpl;obtain⟨⟨hp1,_,hp2⟩,hso⟩:=hpl;rw[hds]at hs;refine hs.mono ?_;rintro e w' ⟨rfl,m,os,rfl⟩;have hbk:=ja (enc:=H9 F) (k:=5) (m:=m) (dk:=d') (os:=os) hb1;have hfit:=SJ (W:=sortWorldK (H9 F) 5 w b 0 m d' os) h.fits hb3 hT (λb h1 h2=>DF b h1 h2) hbk;have hle:=L4 (W:=sortWorldK (H9 F) 5 w b 0 m d' os) h.fits;have hperm:(d'.toList.map (·.1)).Perm ts:=by
  rw[<-hd];refine List.Perm.map _ ?_;have e1:(d'.extract 0 d.size).toList=d'.toList:=by rw[<-hp1];simp
  have e2:(d.extract 0 d.size).toList=d.toList:=w9;rw[e1,e2]at hp2;exact hp2
 have hcells:putCells id 0 (flatK (H9 F) 5 d') (ts.flatMap Vx++rest).toArray=((d'.toList.map (·.1)).flatMap Vx++rest).toArray:=by
  rw[hfl];refine TP ?_;have:=(List.Perm.flatMap_right Vx hperm).length_eq;exact this
 rw[hcells]at hbk;have hsz:w.heap.size<=(sortWorldK (H9 F) 5 w b 0 m d' os).heap.size:=by
  show _<=((w.heap.modify b _)++os).size;simp
 refine⟨d'.toList.map (·.1),rfl,CO w F (sortWorldK (H9 F) 5 w b 0 m d' os),?_⟩;refine⟨Gs.le_trans h.le hle,λk hk=>?_,hfit,⟨⟨?_,?_,?_,?_,?_⟩,?_⟩,λk hk=>?_,h.nd,λF' hF'=>⟨h.g F' (Gs.le_trans hle hF'),hperm,?_⟩⟩
 ·have:k<w.heap.size:=Nat.lt_of_lt_of_le hk h.ext.size;rw[Wm this];exact h.old k hk
 ·exact h.ext.os
 ·exact h.ext.tape
 ·exact h.ext.output
 ·exact Nat.le_trans h.ext.size hsz
 ·intro k hk;have h1:k<w.heap.size:=Nat.lt_of_lt_of_le hk h.ext.size;have h2:k≠b:=by rintro rfl;exact absurd hk (Nat.not_lt.2 hb2)
  rw[DF k h1 h2];exact h.ext.block k hk
 ·intro hd;exact Nat.le_trans (h.ext.dr hd) (Nat.le_add_right _ _)
 ·rcases List.mem_cons.1 hk with rfl | hk
  ·exact⟨hbk,hb2,by rw[Wm hblt];exact hb3⟩
  obtain⟨g1,g2,g3⟩:=h.bx k (List.mem_cons_of_mem _ hk);have h1:k.1<w.heap.size:=(Array.getElem?_eq_some_iff.1 g1).1;have h2:k.1≠b:=by
   have:=h.nd;simp only[List.map_cons]at this;have:=(List.nodup_cons.1 this).1;rintro e;exact this (e ▸ List.mem_map_of_mem (f:=(·.1)) hk)
  exact⟨by rw[DF k.1 h1 h2];exact g1,g2,by rw[Wm h1];exact g3⟩
 rw[List.pairwise_map,List.pairwise_iff_getElem];intro i j hi hj hij;have hi':i<d'.size:=by simpa using hi
 have hj':j<d'.size:=by simpa using hj
 have:=hso i j (Nat.zero_le _) hij O;rw[ltT,getElem!_pos _ i hi',getElem!_pos _ j hj']at this;simpa using this
end
open Go.RowKit Ig
section
variable[Dr]{w0:World}{F0:Gs}{bs:List (Nat×Obj)}{G:Gs->Prop}
theorem Cu(hF:Fits F w){n:Nat}(h:n<4611686018427387904):QY prog 235 [.int .u64 (n:Nat)] w F (.int .i64 (Lib.bitLen n:Nat)) :=
 QQ.same (enters_of func235 w8 rfl) hF (by
  have:=bits_Len (n:Nat) w O O
  rwa [Int.toNat_natCast]at this)
theorem zc:∀ {ts:List Xp},ts.flatMap Vx=[]->ts=[]
 |[],_=>rfl
 |t::l,h=>by rw[List.flatMap_cons]at h;simp[Vx]at h
theorem QAn{g:FuncId}(hg:qA g){n lim:Nat}{v:Value}{ts:List Xp}{ob:List (Nat×Obj)}(hr:Qp 160 5 v n (ts.flatMap Vx) ob)(hG:∀F,G F->GI F ts)(hp:∀t∈ts,PW t.t.2)(hl:ts.length=n)(hn:n<4611686018427387904)(hlim:lim<4611686018427387904):
  Jn prog 234 [v,.int .i64 0,.int .i64 (n:Nat),.int .i64 (lim:Nat),.func (.func g) #[] #[]] ⟨w0,F0,ob++bs,G⟩ (λ(_:List Xp×List (Nat×Obj))=>.tuple #[])
   (λc=>⟨w0,F0,c.2++bs,λF=>G F/\Qp 160 5 v n (c.1.flatMap Vx) c.2/\c.1.Perm ts/\c.1.Pairwise λx y=>before y.t.2 x.t.2=false⟩):=by
 generalize hcs:ts.flatMap Vx=cs at hr;cases hr with
 |nil =>
  have:=zc hcs;subst this;refine⟨enters_of func234 w8 rfl,λw hw=>?_⟩;refine(AnyF.pdqsortCmpFunc_none uk none 0 (lim:Nat) (.func (.func g) #[] #[]) w).mono ?_;rintro e w' ⟨rfl,rfl⟩;exact⟨([],[]),rfl,hw.Bs λF h=>⟨h,.nil,List.Perm.refl _,List.Pairwise.nil⟩⟩
 |some h1 h2 h3 h4 =>
  rename_i b cap rest;subst hcs;have h:=QEE (w0:=w0) (F0:=F0) (bs:=bs) (G:=G) hg (b:=b) (n:=n) (cap:=cap) (lim:=lim) (ts:=ts) (rest:=rest) hG hp hl hn hlim;refine⟨h.1,λw hw=>(h.2 w hw).mono ?_⟩;rintro e w' ⟨ts',rfl,hw'⟩;refine⟨(ts',[(b,.cells (ts'.flatMap Vx++rest).toArray 160 (0,0))]),rfl,hw'.Bs λF ⟨hG',hpm,hpw⟩=>⟨hG',?_,hpm,hpw⟩⟩;have hlen:(ts'.flatMap Vx).length=(ts.flatMap Vx).length:=(List.Perm.flatMap_right Vx hpm).length_eq;exact .some (by rw[hlen];exact h1) (by rw[hlen];exact h2) h3 h4
theorem QAY{g:FuncId}(hg:qA g){n:Nat}{v:Value}{ts:List Xp}{ob:List (Nat×Obj)}(hr:Qp 160 5 v n (ts.flatMap Vx) ob)(hG:∀F,G F->GI F ts)(hp:∀t∈ts,PW t.t.2)(hl:ts.length=n)(hn:n<4611686018427387904):
  Jn prog 173 [v,.func (.func g) #[] #[]] ⟨w0,F0,ob++bs,G⟩ (λ(_:List Xp×List (Nat×Obj))=>.tuple #[])
   (λc=>⟨w0,F0,c.2++bs,λF=>G F/\Qp 160 5 v n (c.1.flatMap Vx) c.2/\c.1.Perm ts/\c.1.Pairwise λx y=>before y.t.2 x.t.2=false⟩):=by
 refine Jn.intro func173 rfl w8 rfl rfl<|wS rfl<|QA (PB rfl hr ZI)<|wR rfl<|QB<|QJj rfl<|QJj rfl<|QJj rfl<|QA (Mi rfl vJ OG O)<|QJ rfl (λ_ _ f _=>Cu f hn) λ_=>QJj rfl<|Xj rfl (List.Perm.refl _) (QAn hg hr (λF h=>hG F h.1) hp hl hn (Nat.lt_of_le_of_lt (Lib.bitLen_le n 62 O O) O)) λc=>QF<|Dv ?_
 exact ZN (c) rfl .nil (rfl) λw h=>h.Bs λF h=>⟨h.1.1,h.2⟩
end
theorem Hp:∀(n:Nat) (l:List Nat),l.Nodup->(∀j∈l,j<n)->l.length<=n
 |0,l,_,h=>by
  cases l with
  |nil=>exact Nat.le_refl _
  |cons x l=>exact absurd (h x List.mem_cons_self) (Nat.not_lt_zero _)
 |n+1,l,hn,h=>by
  have h1:=Hp n (l.erase n) (hn.erase n) λj hj=>by
   have h2:=(hn.mem_erase_iff).1 hj;have h3:=h j h2.2;have h4:=h2.1;omega
  rw[List.length_erase]at h1;split at h1<;>omega
theorem Oz{n:Nat}{l:List Nat}(hn:l.Nodup)(h:∀j∈l,j<n)(hj:j<n)(hjn:j∉l):(l++[j]).Nodup/\(∀i∈l++[j],i<n)/\l.length<n:=by
 have h1:(l++[j]).Nodup:=by
  rw[List.nodup_append];exact⟨hn,w9,λa ha b hb=>by rw[List.mem_singleton.1 hb];rintro rfl;exact hjn ha⟩
 have h2:∀i∈l++[j],i<n:=λi hi=>by
  rcases List.mem_append.1 hi with hi | hi
  ·exact h i hi
  rw[List.mem_singleton.1 hi];exact hj
 have h3:=Hp n _ h1 h2;rw[List.length_append]at h3;exact⟨h1,h2,by simp at h3;omega⟩
theorem jm{n:Nat}{l:List Nat}(hn:l.Nodup)(h:∀j∈l,j<n)(ha:∀j,j<n->j∈l):l.Perm (List.range n) :=
 (List.perm_ext_iff_of_nodup hn List.nodup_range).2 λa=>by rw[List.mem_range];exact⟨h a,ha a⟩
theorem Mp[Inhabited α](l:List α):(List.range l.length).map (el l)=l:=by
 apply List.ext_getElem?;intro i;by_cases h:i<l.length
 ·rw[List.getElem?_map,List.getElem?_range h,List.getElem?_eq_getElem h];simp[J8 h]
 rw[List.getElem?_eq_none tA,List.getElem?_eq_none O]
def Jz(F:Gs)(s:Sr)(ts:List Xp)(p:List Tm):Prop:=Qu F s.q s.n 5 (ts.flatMap Vx)/\GI F ts/\Jy ts=p/\s.n<=s.cap/\ts.length=s.n
def Jz.le{s:Sr}{p:List Tm}(h:Jz F s ts p)(k:Gs.le F F'):Jz F' s ts p:=⟨h.1.le k,h.2.1.le k,h.2.2⟩
instance{s:Sr}{ts:List Xp}{p:List Tm}: Up (λF=>Jz F s ts p):=⟨λk h=>Jz.le h k⟩
def L2(ts:List Xp):List Xp:=ts.filter λt=>decide (t.t.1≠0)
def U7(ts:List Xp)(t:Xp):L2 (ts++[t])=L2 ts++(if t.t.1≠0 then[t]else[]):=by
 unfold L2;rw[List.filter_append];congr 1;by_cases h:t.t.1=0
 ·simp[h]
 simp[h]
structure QE1(ts:List Xp) where
 seen:List Nat
 v:Value
 n:Nat
 ob:List (Nat×Obj)
 hr:Qp 160 5 v n ((L2 (seen.map (el ts))).flatMap Vx) ob
 nd:seen.Nodup
 lt:∀j∈seen,j<ts.length
 hn:(L2 (seen.map (el ts))).length=n
def OF(ts:List Xp):(Gt ts).length=ts.length:=by simp[Gt]
theorem yE:qA 174:=⟨enters_of func174 w8 rfl,λw F a b hF hA hB pa pb=>@vz ⟨True⟩ w F a b hF hA hB pa pb⟩
def Uh{r:Rat}:Rt r.num=0↔r=0:=by
 unfold Rt;constructor
 ·intro h;apply Rat.num_eq_zero.1;split at h
  ·omega
  split at h<;>omega
 rintro rfl;rfl
theorem jb{os:List Xp}{l:List Tm}(hI:V3 ts l)(hn:seen.Nodup)(hlt:∀j∈seen,j<ts.length)(hall:∀j,j<ts.length->j∈seen)(hp:os.Perm (L2 (seen.map (el ts))))(hs:os.Pairwise λx y=>before y.t.2 x.t.2=false):Jy os=J3 l:=by
 have h1:os.Perm (L2 ts):=by
  refine hp.trans ?_;unfold L2;refine List.Perm.filter _ ?_;have:=(jm hn hlt hall).map (el ts)
  rwa [Mp]at this
 have h2:(Jy os).Perm ((Jy ts).filter λt=>decide (t.1≠0)):=by
  have:=h1.map Xp.t;unfold L2 at this;have e:(ts.filter λt=>decide (t.t.1≠0)).map Xp.t=(ts.map Xp.t).filter λt=>decide (t.1≠0):=by
   rw[List.filter_map];rfl
  rw[e]at this;exact this
 refine hI.vN.norm h2 ?_;have hnd:((Jy os).map (·.2)).Nodup:=by
  have h3:((Jy os).map (·.2)).Perm (((Jy ts).filter λt=>decide (t.1≠0)).map (·.2)):=h2.map _;rw[h3.nodup_iff];exact(List.filter_sublist.map _).nodup hI.vN.nd
 unfold Jy at hnd ⊢;rw[List.pairwise_map];rw[List.map_map]at hnd;have hnd2:=List.pairwise_map.1 hnd;refine(hs.and hnd2).imp ?_;rintro x y ⟨h1,h2⟩;rcases GD x.t.2 y.t.2 with e | e | e
 ·exact absurd e h2
 ·exact e
 rw[h1]at e;cases e
theorem Ip(hlt:∀j∈seen,j<ts.length){t:Xp}(h:t∈L2 (seen.map (el ts))):t∈ts:=by
 have:=(List.mem_filter.1 h).1;obtain⟨j,hj,e⟩:=List.mem_map.1 this;rw[<-e];exact Ql (hlt j hj)
def xg{t:Xp}(e:el ts j=t)(h:t.t.1≠0):L2 ((seen++[j]).map (el ts))=L2 (seen.map (el ts))++[t]:=by
 rw[List.map_append,List.map_cons,List.map_nil,e,U7,if_pos h]
def ux{t:Xp}(e:el ts j=t)(h:t.t.1=0):L2 ((seen++[j]).map (el ts))=L2 (seen.map (el ts)):=by
 rw[List.map_append,List.map_cons,List.map_nil,e,U7,if_neg (not_not_intro h),List.append_nil]
def L3(t:Xp):∀v∈Vx t,v.oneCell'=true:=by
 intro v hv;unfold Vx at hv;simp only[List.mem_cons,List.not_mem_nil,or_false]at hv;rcases hv with rfl | rfl | rfl | rfl | rfl<;>rfl
section
variable{w0:World}{F0:Gs}{bs:List (Nat×Obj)}{G:Gs->Prop}
theorem D9{l:List Tm}(hI:V3 ts l)(hlen:ts.length<=1000000000)(hG:∀F,G F->GI F ts):
  Jn prog 105 [.map (some m)] ⟨w0,F0,(m,ZA tx (Gt ts))::bs,G⟩ (λ(c:Sr×List Xp)=>c.1.v) (λc=>⟨w0,F0,(m,ZA tx (Gt ts))::bs,λF=>G F/\Jz F c.1 c.2 (J3 l)⟩):=by
 refine Jn.intro func105 rfl w8 rfl rfl<|MY hG<|QKt<|wR rfl<|QKt<|wR rfl<|QG<|wS rfl<|FQ rfl PH .here λb7=>QJi<|QO<|ZH (ι:=QE1 ts) [(7,_)] (λi=>[(3,i.v)]) (λi=>(b7,qQ m (Gt ts).length i.seen)::(m,ZA tx (Gt ts))::(i.ob++bs)) (λi F=>True) (λi=>ts.length-i.seen.length) (⟨[],_,0,[],.nil,List.nodup_nil,(λ_ h=>by cases h),rfl⟩) wT wT λi=>?_
 have hn0:i.n<=i.seen.length:=by rw[<-i.hn];exact Nat.le_trans (List.length_filter_le _ _) w9
 refine QKt<|LO (kv:=Gt ts) (K:=tx) (b:=m) rfl .here .u1 λx hx=>QA (QU I (QEI x))<|QJi<|QG ?_
 refine QL I (λhc=>?_) λhc=>?_
 ·obtain⟨j,rfl⟩:∃j,x=some j:=by
   cases x with
   |none=>cases hc
   |some j=>exact⟨j,rfl⟩
  obtain⟨hj,hjn⟩:=hx;rw[OF]at hj;obtain⟨hs1,hs2,hs3⟩:=Oz i.nd i.lt hj hjn;have htm:=Ql hj;have hkj:(Gt ts)[j]?=some (Yn (el ts j).t.2,CL (el ts j)):=by rw[Gt,List.getElem?_map,List.getElem?_eq_getElem hj,J8 hj];rfl
  generalize hte:el ts j=t at htm hkj;refine QLj 5 I<|QA (vo (kv:=Gt ts) (K:=tx) (p:=(Yn t.t.2,CL t)) I .here .u1 hkj)<|wB 1 I<|Qe Kz λb5=>QS (vs:=[_,_,_,_,_]) I I I XQ I .here .h5 wX<|QJi<|QKt<|QA (QH I WC JA)<|QA (wJ I JA .here)<|QJ I (λ_ _ f k=>Tg f ((k.1.2 t htm).1)) λ_=>QLi 3 I ?_
  refine QL I (λhc=>?_) λhc=>?_
  ·have hnz:t.t.1≠0:=λe=>by rw[e]at hc;cases hc
   refine wA 2 I<|QA (QX (vs:=[_,_,_,_,_]) I XQ .here .h5 rfl)<|Qw I (JR ZI) XQ Kz I I λb18=>Xu (bs':=(_::_::_::bs)++i.ob) (.cons _ (.cons _ (.cons _ List.perm_append_comm))) ?_
   refine Zj (ob:=i.ob) (k:=1) (sz:=5) (news:=Vx t) rfl rfl ZI XQ Kz I yK i.hr (Src.row (off:=0) tE (λj v hv=>by rw[Nat.zero_add];show((Vx t).toArray)[j]?=some v;rw[List.getElem?_toArray];exact hv) rfl) O O (L3 t) (λv19 ob19 hr19=>?_);refine Xu (bs':=_::_::_::(ob19++bs)) (.cons _ (.cons _ (.cons _ List.perm_append_comm)))<|wB 2 I<|Qa ?_
   exact Qb (⟨i.seen++[j],v19,i.n+1,ob19,by rw[xg hte hnz,List.flatMap_append];simpa using hr19,hs1,hs2,by rw[xg hte hnz,List.length_append,i.hn];rfl⟩) (by show _-(i.seen++[j]).length<_;rw[List.length_append];simp only[List.length_singleton];omega)
  have hz:t.t.1=0:=Uh.1 (by simpa using hc);refine QK<|Qa ?_
  exact Qb (⟨i.seen++[j],i.v,i.n,i.ob,by rw[ux hte hz];exact i.hr,hs1,hs2,by rw[ux hte hz];exact i.hn⟩) (by show _-(i.seen++[j]).length<_;rw[List.length_append];simp only[List.length_singleton];omega)
 obtain rfl:x=none:=by
  cases x with
  |none=>rfl
  |some j=>cases hc
 rw[show nxP (Gt ts).length i.seen none=∀j,j<(Gt ts).length->j∈i.seen from rfl,OF]at hx;refine Q7 ?_;refine wS I<|Xj I (List.perm_middle.trans (.cons _ List.perm_middle)).symm (QAY yE i.hr (λF ⟨⟨hG0,hT⟩,_⟩ t ht=>hT t (Ip i.lt ht)) (λt ht=>hI.pw t (Ip i.lt ht)) i.hn (wm<|Hp _ _ i.nd i.lt)) λc=>JM _ (λ_ _ f h=>h.2) λhso=>?_
 obtain⟨r,hv,hrn,hrc,hfix⟩:=Qp.fix (w0:=w0) (F0:=F0) (bs1:=(b7,qQ m (Gt ts).length (nxS i.seen none))::(m,ZA tx (Gt ts))::bs) (G:=_) hso.1;refine Xu List.perm_append_comm<|Vp hfix ?_
 rw[hv];refine QLi 9 I ?_;exact ZN (⟨r,c.1⟩) I (wO I) (rfl) λw h=>St.imp h (.cons _ QJ3) λF h9=>⟨h9.1.1.1.1,by rw[hrn];exact h9.2,λt ht=>h9.1.1.1.2 t (Ip i.lt (hso.2.1.mem_iff.1 ht)),jb hI i.nd i.lt hx hso.2.1 hso.2.2,by rw[hrn];exact hrc,hso.2.1.length_eq.trans (i.hn.trans hrn.symm)⟩
end
section
variable[Dr][df:Df]{P:Program}{N:Nat}{m:Sl}{w0:World}{F0:Gs}{bs:List (Nat×Obj)}{G:Gs->Prop}
theorem FZ{ty:TypeId}{n:Nat}{Y:World->Prop}(hx:ev m x=some (.slice q n c))(hy:ev m y=some (.slice none 0 0))(hT:Ga P T=some e):Qt P N m Y (.binOp .eql T x y yT) ty (.bool q.isNone):=λa w _ _ _ _ ha _=>by
 have:=Lib.run_eql_slice_nil (P:=P) w T e q n c 0 0 (JR hT);simp[execOp,ha.ev hx,ha.ev hy,eqGuard,this]
theorem Src.QDx{sz:Nat}{a:Addr}(hr:∀F,G F->Qu F (some a) k sz news)(hl:news.length=k*sz):Src ⟨w0,F0,bs,G⟩ sz (.slice (some a) k c) k news:=by
 refine⟨hl,.inr ⟨a,c,rfl,λw hw j v hv=>?_⟩⟩;have hk:0<k:=by
  rcases Nat.eq_zero_or_pos k with h | h
  ·rw[h,Nat.zero_mul]at hl;rw[List.length_eq_zero_iff.1 hl]at hv;simp at hv
  exact h
 obtain⟨F,h⟩:=id hw;obtain⟨b,off,_,_,e,_,_⟩:=(hr F h.hG).2 hk;cases e;rw[V1];exact KN hw hr hk hv
theorem Src.O3{sz:Nat}(h0:q=none->k=0)(hr:∀F,G F->Qu F q k sz news)(hl:news.length=k*sz):Src ⟨w0,F0,bs,G⟩ sz (.slice q k c) k news:=by
 cases q with
 |some a=>exact .QDx hr hl
 |none =>
  have h:=h0 rfl;subst h;rw[Nat.zero_mul,List.length_eq_zero_iff]at hl;subst hl;exact .nil
theorem Qu.F6{n sz:Nat}(h:Qu F q n sz cs)(e:q=none):n=0:=by
 rcases Nat.eq_zero_or_pos n with g | g
 ·exact g
 obtain⟨_,_,_,_,e2,_⟩:=h.2 g;rw[e]at e2;cases e2
theorem xW{n:Nat}(h:JJ F ⟨none,n,c⟩ l):Qp 3 1 (.slice none 0 0) n (l.map Qs) []:=by
 obtain⟨⟨_,h1⟩,h2,_⟩:=h;have h0:n=0:=by
  rcases Nat.eq_zero_or_pos n with h | h
  ·exact h
  obtain⟨_,_,_,_,e,_⟩:=h1 h;cases e
 subst h0;rw[List.length_eq_zero_iff.1 h2];exact .nil
theorem Td(l:List Int):∀v∈l.map Qs,v.oneCell'=true:=by
 intro v hv;obtain⟨x,_,rfl⟩:=List.mem_map.1 hv;rfl
end
section
variable{w0:World}{F0:Gs}{bs:List (Nat×Obj)}{G:Gs->Prop}
theorem Tp{r:Sr}(hG:∀F,G F->JJ F r l)(hn:l.length=r.n)(hl:l.length<=1000000000):
  Jn prog 20 [r.v] ⟨w0,F0,bs,G⟩ (λ(c:Value×List (Nat×Obj))=>c.1) (λc=>⟨w0,F0,bs++c.2,λF=>G F/\Qp 3 1 c.1 r.n (l.map Qs) c.2⟩):=by
 obtain⟨q,n,c⟩:=r;dsimp only[Sr.v]at hn ⊢;refine Jn.intro func20 rfl w8 rfl rfl<|MY hG<|QKt<|wR rfl<|QG<|wS rfl<|QA (FZ rfl rfl Qd)<|QF<|QC ?_
 refine QL I (λhc=>?_) λhc=>?_
 ·obtain rfl:q=none:=by
   cases q with
   |none=>rfl
   |some a=>cases hc
  refine wA 6 I ?_;exact ZN (⟨.slice none 0 0,[]⟩) I (wO I) (rfl) λw h=>St.imp h w9 λF h9=>⟨h9.1,xW h9.2⟩
 obtain⟨a,rfl⟩:∃a,q=some a:=by
  cases q with
  |none=>cases hc
  |some a=>exact⟨a,rfl⟩
 refine QLj 4 I<|Zv (JR Qd) QZ λb5=>QJj I<|Xu (bs':=bs++[(b5,.cells ([]++[]:List Value).toArray 3 (0,0))]) (List.perm_append_comm (l₁:=[_]))<|Zj (ob:=[(b5,.cells ([]++[]:List Value).toArray 3 (0,0))]) (n:=0) (k:=n) (sz:=1) (news:=l.map Qs) rfl rfl Qd QZ Hj I Ws (.some rfl rfl (Nat.le_refl _) wv) (Src.QDx (λF hG=>hG.2.1) (by simp[hn])) O O (Td l) λv7 ob7 hr7=>?_
 rw[Nat.zero_add,List.nil_append]at hr7;refine wR I<|QT ?_
 exact ZN (⟨v7,ob7⟩) I (wO I) (rfl) λw h=>St.imp h QJ3 λF h9=>⟨h9.1,hr7⟩
end
structure VP where
 f:List UInt8
 r:Sr
 k:List Int
instance :Inhabited VP:=⟨⟨[],⟨none,0,0⟩,[]⟩⟩
def Y2(t:VP):List Value:=[tx t.f,.slice t.r.q t.r.n t.r.cap]
def Zh(t:VP):(Y2 t).length=2:=rfl
def Yk(F:Gs)(ts:List VP):Prop:=∀t∈ts,JJ F t.r t.k
def Yk.le{ts:List VP}(h:Yk F ts)(k:Gs.le F F'):Yk F' ts:=λt ht=>(h t ht).le k
instance{ts:List VP}: Up (λF=>Yk F ts):=⟨λk h=>Yk.le h k⟩
def y8(t:VP):Tm:=(Jc t.f,t.k)
structure QE0(ps:List VP) where
 i:Nat
 ts:List Xp
 le:i<=ps.length
 hI:V3 ts ((ps.take i).map y8)
def jX(l:List Tm)(i:Nat):VR (l.take i)<=VR l:=by
 have:=KE (l.take i) (l.drop i);rw[List.take_append_drop]at this;omega
theorem Mc{l:List Tm}{t:Tm}(h:t∈l):XH t.1<=VR l:=by
 induction l with
 |nil=>cases h
 |cons x l ih =>
  have e:VR (x::l)=XH x.1+1+VR l:=by unfold VR;rw[List.map_cons,List.sum_cons]
  rcases List.mem_cons.1 h with rfl | h
  ·omega
  have:=ih h;omega
section
variable{P:Program}{w:World}{F:Gs}{f:FuncId}{args:List Value}{γ:Type}{val:γ->Value}{fact:γ->Gs->Prop}
theorem OQ{r:Sr}(hF:Fits F w)(hR:JJ F r l)(hl:l.length<=1000000000):QQ prog 20 [r.v] w F (λ(c:Sr)=>c.v) (λc F=>JJ F c l):=by
 have h:=Tp (w0:=w) (F0:=F) (bs:=[]) (G:=λF'=>Gs.le F F') (r:=r) (l:=l) (λF' h=>hR.le h) hR.2.1 hl;refine⟨h.1,(h.2 w (St.start hF λ_ h=>h)).mono ?_⟩;rintro e w' ⟨⟨v,ob⟩,rfl,hw⟩;obtain⟨F1,h1⟩:=id hw;have ho:=(h1.hG).2;dsimp only at ho hw;obtain⟨s,hv,hsn,hsc,hfix⟩:=Qp.fix (w0:=w) (F0:=F) (bs1:=[]) ho;obtain⟨F',h'⟩:=hfix w' hw;exact⟨s,F',by rw[hv],h'.ext,h'.le,h'.old,h'.fits,λF'' hle=>⟨by rw[hsn];exact(h'.g F'' hle).2,by rw[hsn];exact hR.2.1,by rw[hsn];exact hsc⟩⟩
end
section
theorem vr{r:Sr}{ps:List VP}(hF:Fits F w)(hGl:JZ F)(hR:Qu F r.q r.n 2 (ps.flatMap Y2))(hP:Yk F ps)(hn:ps.length=r.n)(hl:ps.length<=100000)(hv:∀t∈ps,Q9 t.f=0/\t.f.length<=1000000/\PW t.k)(hz:VR (ps.map y8)<=40000000):
  QQ prog 51 [r.v] w F (λ(c:Sr×List Xp)=>c.1.v) (λc F=>Jz F c.1 c.2 (J3 (ps.map y8))):=by
 obtain⟨q,n,cap⟩:=r;dsimp only[Sr.v]at hn hR ⊢;refine QQ.go (G:=λF=>JZ F/\Qu F q n 2 (ps.flatMap Y2)/\Yk F ps) func51 hF ⟨hGl,hR,hP⟩ ?_;refine QKt<|wR rfl<|QKt<|Hi tx λm=>wR rfl<|QG<|wS rfl<|QA (QW rfl Xk)<|QJj rfl<|QJi<|QO<|ZH (ι:=QE0 ps) [(3,_),(7,_),(8,_)] (λi=>[(9,.int .i64 ((i.i:Nat):Int))]) (λi=>[(m,ZA tx (Gt i.ts))]) (λi F=>GI F i.ts) (λi=>ps.length-i.i) (⟨0,[],Nat.zero_le _,V3.nil⟩) wV wT (hg:=λ_ _ _ h=>by cases h) λi=>?_
 have hi:=i.le;refine wA 6 I ?_;refine QL I (λhc=>?_) λhc=>?_
 ·have hlt:i.i<ps.length:=wm<|QK8 hc
  have hv1:=hv _ (Ql hlt);have hz1:=jX (ps.map y8) i.i;rw[<-List.map_take]at hz1;have hz2:XH (y8 (el ps i.i)).1<=VR (ps.map y8):=Mc (List.mem_map_of_mem (Ql hlt));dsimp only[y8]at hz2;have hl1:=hv1.2.2.2;refine QLj 6 I<|QA (Qo (n:=n) i.i (λF h9=>h9.1.2.1) rfl rfl Xk Xq O)<|QA (JG (n:=n) (vs:=[tx (el ps i.i).f,.slice (el ps i.i).r.q (el ps i.i).r.n (el ps i.i).r.cap]) ((i.i)*2) (λF h9=>h9.1.2.1) O rfl Xq I λj v hv=>Q4 (f:=Y2) (l:=ps) Zh O hv)<|Qe Gp λb5=>QS (vs:=[_,_]) I I I Xq I .here .h2 wU<|QJi<|JC (.cons_cons _ (.cons _ .slnil)) mixed wu<|QI (QD I)<|QI (QH I GA JP)<|QI (Qf I JP .here .h1)<|QV I (λ_ _ f k=>WS f k.1.1 ((Xa (hv _ (Ql hlt)).1).1) (wm<|(hv _ (Ql hlt)).2.1)) λx16=>QI (QH I Ka Q5)<|QI (Qf I Q5 .here (.skip .h1))<|QV I (λ_ _ f k=>OQ f (r:=(el ps i.i).r) (k.1.1.2.2 _ (Ql hlt)) O) λc19=>Wt I (List.Perm.swap _ _ _) (Ny (r:=c19) (x:=x16) i.hI hv1.2.2 O O λF h9=>⟨h9.1.1.1.1,h9.1.1.2,h9.1.2,h9.2⟩) (λn w h=>St.imp h (.cons _ QJ3) λF h=>h.1.1.1) λn20=>WI _ (λ_ _ f h=>h.2.2) λh20=>?_
  have hI2:V3 (addN i.ts n20) ((ps.take (i.i+1)).map y8):=by
   have:=i.hI.add hv1.2.2 h20;rw[XF hlt,List.map_append];exact this
  refine Qv<|Qa<|QC<|QB<|QA (Qk I I O)<|wB 2 I ?_
  exact Qb (⟨i.i+1,addN i.ts n20,hlt,hI2⟩) (hg:=λF h=>⟨h.1.1.1.1,h.2.1⟩)
 have hge:i.i=ps.length:=wm<|QK9 hc
 refine Q7 ?_;refine wA 3 I ?_;have hI:=i.hI;rw[hge,List.take_length]at hI;refine Xj I (List.Perm.refl _) (D9 hI (by have:=hI.ln;rw[List.length_map]at this;omega) tE) (λc23=>wR I<|QT ?_);exact QM (c23) rfl (wO I) (rfl) tE
end
abbrev BB:=Sr×List Xp
instance :Inhabited BB:=⟨(⟨none,0,0⟩,[])⟩
structure Ec(l0:List Tm)(te:List Xp) where
 j:Nat
 ts:List Xp
 le:j<=te.length
 hI:V3 ts (l0++Jy (te.take j))
def YO{te:List Xp}(h:j<te.length):Jy (te.take (j+1))=Jy (te.take j)++[(el te j).t]:=by unfold Jy;rw[XF h,List.map_append];rfl
section
variable{P:Program}{Q:Exit->Act->World->Prop}{N:Nat}{m:Sl}{E0:Env}{ops:Array Oper}{l:List Oper}{w0:World}{F0:Gs}{bs:List (Nat×Obj)}{G:Gs->Prop}
theorem Km[Dr]{bs':List (Nat×Obj)}(hp:bs.Perm bs')(k:JD P ops Q E0 l N m ⟨w0,F0,bs',G⟩):JD P ops Q E0 l N m ⟨w0,F0,bs,G⟩:=λhE a w ha hw=>k (λw h=>hE w (h.perm hp.symm)) a w ha (hw.perm hp)
end
def K4(a:Rat)(l:List Tm):List Tm:=if a=0 then[]else l.map λt=>(t.1*a,t.2)
structure QIO(a:Rat)(ts:List Xp) where
 i:Nat
 v:Value
 ob:List (Nat×Obj)
 out:List Xp
 le:i<=ts.length
 hr:Qp 160 5 v i (out.flatMap Vx) ob
 ho:Jy out=(Jy (ts.take i)).map λt=>(t.1*a,t.2)
def gD{a:Rat}{out:List Xp}(hi:i<=ts.length)(h:Jy out=(Jy (ts.take i)).map λt=>(t.1*a,t.2)):out.length=i:=by
 have:=congrArg List.length h;simp only[Jy,List.length_map,List.length_take]at this;omega
theorem Ly{p:BB}{x:Fr}{a:Rat}(hF:Fits F w)(hP:Jz F p.1 p.2 (Jy p.2))(hA:Jl F x a)(hl:p.2.length<=1000000)(ha:XH a<=40000000)(hz:VR (Jy p.2)<=40000000):
  QQ prog 52 [p.1.v,x.v] w F (λ(c:BB)=>c.1.v) (λc F=>Jz F c.1 c.2 (K4 a (Jy p.2))):=by
 obtain⟨⟨q,n,cap⟩,ts⟩:=p;have hln:ts.length=n:=hP.2.2.2.2;dsimp only[Sr.v,Fr.v]at hP hl hz ⊢;refine QQ.go (G:=λF=>Jz F ⟨q,n,cap⟩ ts (Jy ts)/\Jl F x a) func52 hF ⟨hP,hA⟩ ?_;refine QKt<|Q8 I (vs:=[_,_,_,_]) I λb3=>QLi 6 I<|QA (wJ I JA .here)<|QJ I (λw F hF ⟨hP,⟨hxn,hxd⟩⟩=>Tg hF ⟨by assumption,by assumption⟩) λ_=>QLi 3 I ?_
 refine QL I (λhc=>?_) λhc=>?_
 ·have ha0:a=0:=Uh.1 (by simpa using hc);refine wA 6 I ?_;exact QM ((⟨none,0,0⟩,[])) rfl (wO rfl) (rfl) λF h9=>⟨Qu.nil F none 5,(λ_ h=>by cases h),by unfold K4;rw[if_pos ha0];rfl,Nat.le_refl _,rfl⟩
 have ha0:a≠0:=λe=>by rw[e]at hc;cases hc
 refine QLj 4 I<|wR rfl<|QG<|wS rfl<|QA (QW rfl ZI)<|QJj rfl<|QJi<|QO<|ZH (ι:=QIO a ts) [(3,_),(11,_),(12,_)] (λi=>[(5,i.v),(13,.int .i64 ((i.i:Nat):Int))]) (λi=>(b3,.cells [.int .i64 x.n.s,.slice x.n.q x.n.n x.n.cap,.int .i64 x.d.s,.slice x.d.q x.d.n x.d.cap].toArray 77 (0,0))::i.ob) (λi F=>GI F i.out) (λi=>ts.length-i.i) (⟨0,_,[],[],Nat.zero_le _,.nil,by simp[Jy]⟩) wV wU (hg:=λ_ _ _ h=>by cases h) λi=>?_
 have hi:=i.le;refine wA 6 I ?_;refine QL I (λhc=>?_) λhc=>?_
 ·have hlt:i.i<ts.length:=wm<|QK8 hc
  have htm:=Ql hlt;have hz2:XH (el ts i.i).t.1<=VR (Jy ts):=Mc (List.mem_map_of_mem htm);refine QLj 6 I<|QA (Qo (n:=n) i.i (λF h9=>(h9.1.1.1).1) rfl rfl ZI XQ O)<|QA (JG (n:=n) (vs:=[.int .i64 (el ts i.i).x.n.s,.slice (el ts i.i).x.n.q (el ts i.i).x.n.n (el ts i.i).x.n.cap,.int .i64 (el ts i.i).x.d.s,.slice (el ts i.i).x.d.q (el ts i.i).x.d.n (el ts i.i).x.d.cap,.slice (el ts i.i).r.q (el ts i.i).r.n (el ts i.i).r.cap]) ((i.i)*5) (λF h9=>(h9.1.1.1).1) O rfl XQ I λj v hv=>Q4 (f:=Vx) (l:=ts) W8 O hv)<|Qe Kz λb7=>QS (vs:=[_,_,_,_,_]) I I I XQ I .here .h5 wX<|QJi<|JC tJ mixed wu<|QI (QD I)<|QI (QH I WC JA)<|QI (wJ I JA .here)<|QI (wJ I JA .u1)<|QV I (λw F hF ⟨⟨⟨hP,⟨hxn,hxd⟩⟩,_⟩,hT⟩=>HH hF (hP.2.1 _ htm |>.1) ⟨by assumption,by assumption⟩ O O) λx21=>QI (QH I K9 Q5)<|QI (Qf I Q5 .here (.skip (.skip (.skip (.skip .h1)))))<|QI (Jr I U2 Kz (.cons (vs:=[_,_,_,_]) I I I .h4 (.cons (vs:=[_]) I I I (.skip (.skip (.skip (.skip .h1)))) .nil))) ?_
  refine Jp I (JR ZI) XQ Kz I I (λb25=>?_) (λw h=>h.imp tJ tD);refine Km (List.perm_append_comm (l₁:=[_,_])) ?_;refine Kn (n:=i.i) (k:=1) (sz:=5) (news:=Vx ⟨x21,(el ts i.i).r,((el ts i.i).t.1*a,(el ts i.i).t.2)⟩) I I ZI XQ Kz I yK i.hr (Src.row (off:=0) tE (λj v hv=>by rw[Nat.zero_add];show((Vx ⟨x21,(el ts i.i).r,((el ts i.i).t.1*a,(el ts i.i).t.2)⟩).toArray)[j]?=some v;rw[List.getElem?_toArray];exact hv) rfl) O O (L3 _) QJ3 (λ_ h=>h.1.1) (λv26 ob26 hr26=>?_);refine Km (List.perm_append_comm (l₂:=[_,_]))<|QI (QE I)<|Qv<|Qa<|QC<|QB<|QA (Qk I I O)<|wB 2 I ?_
  exact Qb (⟨i.i+1,v26,ob26,i.out++[⟨x21,(el ts i.i).r,((el ts i.i).t.1*a,(el ts i.i).t.2)⟩],hlt,by rw[List.flatMap_append];simpa using hr26,by rw[YO hlt,List.map_append,<-i.ho];simp[Jy]⟩) (hg:=λF ⟨⟨⟨hB,hT⟩,⟨h21,h21_⟩⟩,_⟩=>⟨hB,λt ht=>by
  rcases List.mem_append.1 ht with ht | ht
  ·exact hT t ht
  rw[List.mem_singleton.1 ht];exact⟨⟨h21,h21_⟩,(hB.1.1.2.1 _ htm).2⟩⟩)
 have hge:i.i=ts.length:=wm<|QK9 hc
 refine Q7 ?_;refine QG<|QB ?_
 obtain⟨r,hv,hrn,hrc,hfix⟩:=Qp.fix (w0:=w) (F0:=F) (bs1:=[_]) (G:=_) i.hr;refine Vp hfix ?_;rw[hv];refine QLi 5 I ?_;exact QM ((r,i.out)) I (wO I) (rfl) λF h9=>⟨by rw[hrn];exact h9.2,h9.1.2,by unfold K4;rw[if_neg ha0,i.ho,hge,List.take_length],by rw[hrn];exact hrc,by rw[hrn];exact gD hi i.ho⟩
abbrev Pt:=List (List UInt8×List Int)
def Y7(ts:List VP):Pt:=ts.map λt=>(t.f,t.k)
def J2(l:List Tm):Pt:=l.map λt=>(Q6 t.1,t.2)
def Z4(F:Gs)(s:Sr)(ts:List VP)(p:Pt):Prop:=Qu F s.q s.n 2 (ts.flatMap Y2)/\Yk F ts/\Y7 ts=p/\s.n<=s.cap/\ts.length=s.n
def Z4.le{s:Sr}{ts:List VP}{p:Pt}(h:Z4 F s ts p)(k:Gs.le F F'):Z4 F' s ts p:=⟨h.1.le k,h.2.1.le k,h.2.2⟩
abbrev Y1:=Sr×List VP
def RU(t:VP):∀v∈Y2 t,v.oneCell'=true:=by
 intro v hv;unfold Y2 at hv;simp only[List.mem_cons,List.not_mem_nil,or_false]at hv;rcases hv with rfl | rfl<;>rfl
structure QIL(ts:List Xp) where
 i:Nat
 v:Value
 ob:List (Nat×Obj)
 out:List VP
 le:i<=ts.length
 hr:Qp 68 2 v i (out.flatMap Y2) ob
 ho:Y7 out=J2 (Jy (ts.take i))
def QBW{out:List VP}(hi:i<=ts.length)(h:Y7 out=J2 (Jy (ts.take i))):out.length=i:=by
 have:=congrArg List.length h;simp only[Y7,J2,Jy,List.length_map,List.length_take]at this;omega
theorem qk{p:BB}(hF:Fits F w)(hGl:JZ F)(hP:Jz F p.1 p.2 (Jy p.2))(hp:∀t∈p.2,PW t.t.2)(hl:p.2.length<=1000000)(hz:∀t∈p.2,XH t.t.1<=100000000):
  QQ prog 43 [p.1.v] w F (λ(c:Y1)=>c.1.v) (λc F=>Z4 F c.1 c.2 (J2 (Jy p.2))):=by
 obtain⟨⟨q,n,cap⟩,ts⟩:=p;have hln:ts.length=n:=hP.2.2.2.2;dsimp only[Sr.v]at hP hl hz ⊢;refine QQ.go (G:=λF=>JZ F/\Jz F ⟨q,n,cap⟩ ts (Jy ts)) func43 hF ⟨hGl,hP⟩ ?_;refine QKt<|wR rfl<|QKt<|wR rfl<|QG<|wS rfl<|QA (QW rfl ZI)<|QJj rfl<|QJi<|QO<|ZH (ι:=QIL ts) [(6,_),(7,_)] (λi=>[(3,i.v),(8,.int .i64 ((i.i:Nat):Int))]) (λi=>i.ob) (λi F=>Yk F i.out) (λi=>ts.length-i.i) (⟨0,_,[],[],Nat.zero_le _,.nil,by simp[Jy,Y7,J2]⟩) wU wU (hg:=λ_ _ _ h=>by cases h) λi=>?_
 have hi:=i.le;refine wA 6 I ?_;refine QL I (λhc=>?_) λhc=>?_
 ·have hlt:i.i<ts.length:=wm<|QK8 hc
  have htm:=Ql hlt;refine QLj 6 I<|QA (Qo (n:=n) i.i (λF h9=>(h9.1.2).1) rfl rfl ZI XQ O)<|QA (JG (n:=n) (vs:=[.int .i64 (el ts i.i).x.n.s,.slice (el ts i.i).x.n.q (el ts i.i).x.n.n (el ts i.i).x.n.cap,.int .i64 (el ts i.i).x.d.s,.slice (el ts i.i).x.d.q (el ts i.i).x.d.n (el ts i.i).x.d.cap,.slice (el ts i.i).r.q (el ts i.i).r.n (el ts i.i).r.cap]) ((i.i)*5) (λF h9=>(h9.1.2).1) O rfl XQ I λj v hv=>Q4 (f:=Vx) (l:=ts) W8 O hv)<|Qe Kz λb5=>QS (vs:=[_,_,_,_,_]) I I I XQ I .here .h5 wX<|QJi<|JC tH mixed wu<|QI (QD I)<|QI (QH I WC JA)<|QI (wJ I JA .here)<|QV I (λ_ _ f k=>Mu f k.1.1 (k.1.2.2.1 _ htm |>.1) (hz _ htm)) λ_=>QI (QH I K9 Q5)<|QI (Qf I Q5 .here (.skip (.skip (.skip (.skip .h1)))))<|QV I (λ_ _ f k=>OQ f (r:=(el ts i.i).r) (k.1.1.2.2.1 _ htm).2 (wm<|(hp _ htm).2)) λc18=>QI (Jr I Uz Gp (wQ I I I)) ?_
  refine Jp I (JR Xk) Xq Gp I I (λb20=>?_) (λw h=>h.imp tH λF h=>h.1.1);refine Km (List.perm_append_comm (l₁:=[_])) ?_;refine Kn (n:=i.i) (k:=1) (sz:=2) (news:=Y2 ⟨Q6 (el ts i.i).t.1,c18,(el ts i.i).t.2⟩) I I Xk Xq Gp I FJ i.hr (Src.row (off:=0) tE (λj v hv=>by rw[Nat.zero_add];show((Y2 ⟨Q6 (el ts i.i).t.1,c18,(el ts i.i).t.2⟩).toArray)[j]?=some v;rw[List.getElem?_toArray];exact hv) rfl) O O (RU _) QJ3 (λ_ h=>h.1.1.1) (λv21 ob21 hr21=>?_);refine Km (List.perm_append_comm (l₂:=[_]))<|QI (QE I)<|Qv<|Qa<|QC<|QB<|QA (Qk I I O)<|wB 2 I ?_
  exact Qb (⟨i.i+1,v21,ob21,i.out++[⟨Q6 (el ts i.i).t.1,c18,(el ts i.i).t.2⟩],hlt,by rw[List.flatMap_append];simpa using hr21,by unfold Y7 J2;rw[YO hlt,List.map_append,List.map_append];have:=i.ho;unfold Y7 J2 at this;rw[this];rfl⟩) (hg:=λF ⟨⟨⟨⟨hB,hT⟩,_⟩,h18⟩,_⟩=>⟨hB,λt ht=>by
   rcases List.mem_append.1 ht with ht | ht
   ·exact hT t ht
   rw[List.mem_singleton.1 ht];exact h18⟩)
 have hge:i.i=ts.length:=wm<|QK9 hc
 refine Q7 ?_;refine QG<|QB ?_
 obtain⟨r,hv,hrn,hrc,hfix⟩:=Qp.fix (w0:=w) (F0:=F) (bs1:=[]) (G:=_) i.hr;refine Vp hfix ?_;rw[hv];refine QLi 5 I ?_;exact QM ((r,i.out)) I (wO I) (rfl) λF h9=>⟨by rw[hrn];exact h9.2,h9.1.2,by rw[i.ho,hge,List.take_length],by rw[hrn];exact hrc,by rw[hrn];exact QBW hi i.ho⟩
end Go.Proofs.YteldggljlnakmaaGreatDoor
