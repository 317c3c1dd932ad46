/- Steps of the proof of the theorem in the last file. -/
import Derived.Test.YtogkbhegfnklhaaGreatDoorP1
import Derived.MapKept
import Derived.Maps.RangeRun
import Derived.Lib.ItoaLen
import Derived.Shelf.SlSortCmp.PdqK
import Derived.Ground.SlsfProg
import Derived.Test.YtogkbhegfnklhaaGreatDoorProg
import Derived.Sort.AssemblyPlain
import Derived.Shelf.SlSortCmp.NoneTotal
set_option linter.all false
set_option maxHeartbeats 4000000
open Go.Proofs.Tryz
open Go.Lib renaming trimPrefix -> aa,hasPrefix -> au,decDigits -> ax,decDigits_length -> bL,itoa -> il,compareInt -> im
open Int renaming mul_le_mul_of_nonneg_left -> ae,mul_le_mul_of_nonneg_right -> aw,mul_comm -> aR,gcd -> aY,one_mul -> bh,pow_succ -> bA,lt_or_le -> bQ,sub_add_cancel -> bU,toNat_natCast -> bZ,ediv_le_self -> ee,ediv_nonneg -> er,ediv_lt_of_lt_mul -> eu,sub_mul -> ew,natAbs_mul -> ey,mul_sub -> eB,mul_nonneg -> eC,mul_le_mul -> eD,toNat_of_nonneg -> eH,emod_lt_of_pos -> eM,lt_trichotomy -> eP,le_refl -> eW,add_mul -> eX,natAbs_tdiv -> eZ,mul_ne_zero -> e8,emod_nonneg -> e9,mul_lt_mul_of_pos_right -> ff,lt_of_mul_lt_mul_left -> fi,eq_of_mul_eq_mul_left -> fj,mul_ediv_cancel_left -> fp,mul_assoc -> fq,emod_add_mul_ediv -> fB,pow_add -> fI,mul_one -> fJ,mul_add -> fK,gcd_dvd_left -> hJ,ofNat_tmod -> ig,ofNat_tdiv -> ij,zero_add -> iA,mul_zero -> iB,lt_trans -> iC,emod_def -> iD,mul_neg -> iH
open Go.Value renaming int -> af,bool -> ar
open List renaming length_append -> ah,eq_nil_of_length_eq_zero -> aj,length_set -> ao,length_take -> aq,length_singleton -> ay,drop_of_length_le -> az,length_cons -> aB,map_cons -> aD,drop_drop -> aE,take_set_of_le -> aH,length_drop -> aM,mem_map_of_mem -> aT,take_length -> aV,drop_set_of_lt -> aX,take_of_length_le -> aZ,mem_cons_of_mem -> bw,drop_zero -> bH,perm_append_comm -> bJ,map_append -> bN,replicate -> bS,mem_cons_self -> bT,drop_eq_getElem_cons -> bW,mem_cons -> bY,take_append_drop -> ep,drop_set -> eG,flatMap_cons -> eN,cons_append -> eT,sum_append -> eU,takeWhile_cons_of_pos -> fa,range -> fb,nodup_nil -> fc,sum_cons -> fh,length_eq_zero_iff -> fm,drop_eq_nil_of_le -> fu,range' -> fA,flatMap_append -> fG,pairwise_map -> fP,not_mem_nil -> fT,any_eq_true -> fU,length_nil -> fX,isPrefixOf -> fY,append_nil -> fZ,take_zero -> ia,all_cons -> ic,set_set -> iu,map_nil -> iv,map_map -> iw,length -> iz
open Rat renaming divInt -> ai,add_assoc -> aW,zero_add -> bj,add_zero -> bm,add_comm -> eO,neg_num -> fF,neg_divInt_neg -> fN,neg_den -> iF
open Nat renaming le_refl -> ak,eq_zero_or_pos -> aA,zero_le -> aC,zero_add -> aG,mul_lt_mul_of_lt_of_lt -> bz,add_sub_cancel_left -> bF,lt_or_ge -> bI,pow_le_pow_right -> bK,le_trans -> bO,gcd -> bP,pow_le_pow_left -> eF,add_assoc -> eI,add_sub_cancel -> eL,div_le_self -> eY,eq_of_beq_eq_true -> fz,lt_of_lt_of_le -> fO,zero_mul -> ix,sub_zero -> iy
open Bool renaming and_eq_true -> aF,eq_iff_iff -> aS,or_eq_true -> ek,or_eq_false_iff -> fD,not_eq_false' -> fL,false_eq_true -> fM,true_and -> ir
open List.Perm renaming refl -> aK,flatMap_right -> eV,swap -> fH
open And renaming intro -> aQ
open Go.Region renaming waitsFor -> bB,ready -> eK,binds -> fk,waitsFor_spec -> fy
open Go.MapKept renaming run_getObj_map -> bD,run_setObj_map -> fg,bytes_beq -> fC
open Go.Result renaming andThen_ok -> bV
open Option.some renaming inj -> eE
open Go.Sem renaming run_pure -> eQ,run_bind -> eR
open List.Pairwise renaming nil -> fe
open Go.IntWalk renaming i64_in -> fQ
open Go.Instr renaming buildSlice -> fR,mapUpdate -> fW,findNow -> ib,lookup -> iq,fill -> iE
open ByteArray renaming mk -> fS
open Go.Proofs.SlLaysF0 renaming n14 -> fV
open List.Sublist renaming refl -> iG
namespace Go.Proofs.YtogkbhegfnklhaaGreatDoor
variable{a b l o u:List Int}{c i j k m n:Nat}{w:World}{F F':Gs}{ra rb:Sr}{d f z zx:Int}{x y:Operand}{s:List UInt8}{cs rest:List Value}{α ι:Type}{et kt yT:TypeId}{P:Program}{seen:List Nat}
open Go.RowKit Ig
def EU(h:k<o.length):(o.map JJ)[0+k*1]?=some (.int .i64 (Qg o k)):=by
 rw[ZJ h];simp[h,JJ]
def JN(h:k<o.length):(o.map JJ)[k*1]?=some (.int .i64 (Qg o k)):=by
 rw[ZJ h];simp[h,JJ]
theorem Hg(h:k<o.length)(x:Int):Yz (o.map JJ) (0+k*1) [.int .i64 x] ((o.set k x).map JJ):=by
 have:=Yz.one (l:=o.map JJ) (n:=0+k*1) (v:=.int .i64 x) (by simpa using h);simpa[List.map_set,JJ]using this
structure QHG(a b:List Int) where
 i:Nat
 o:List Int
 le:i<=a.length
 h:HZ a b i 0 0 o 0
structure QHF(a b:List Int)(i:Nat) where
 j:Nat
 o:List Int
 c:Int
 le:j<=b.length
 h:HZ a b i j (Qg a i) o c
theorem Wy(hF:Fits F w)(hA:JG F ra a)(hB:JG F rb b)(da:DG B9 a)(db:DG B9 b)(la:a.length<=100000000)(lb:b.length<=100000000):
  Ee prog 115 [ra.v,rb.v] w F (λl=>dv B9 l=dv B9 a*dv B9 b/\NZ l/\l.length<=a.length+b.length):=by
 obtain⟨q,n,c⟩:=ra;obtain⟨E,g,H⟩:=rb;have na:=hA.2.1;have nb:=hB.2.1;dsimp only at na nb;have h9:B9=1000000000:=rfl;refine QU.go (G:=λF=>JG F ⟨q,n,c⟩ a/\JG F ⟨E,g,H⟩ b) func115 hF ⟨hA,hB⟩ ?_;dsimp only[Sr.v];refine wA 8 I<|QA (Qb I Qd)<|QMu I<|QA (Qb I Qd)<|QA (Qk I I O)<|Gf (n:=n+g) (bytes:=8) rfl rfl Qd Qo MK I EV O O λz=>?_
 rw[show Jz [af .i64 0] (n+g)=(bS (a.length+b.length) (0:Int)).map JJ by rw[Wt,na,nb];simp[JJ]];refine QOm 10 I ?_;refine Xd (ι:=QHG a b) (λi=>[(0,.slice q n c),(1,.slice E g H),(5,.slice (some ⟨z,0,none⟩) (n+g) (n+g)),(6,.int .i64 (i.i:Int))]) (λi=>[(z,.cells (i.o.map JJ).toArray 3 (0,0))]) (λ_ F=>JG F ⟨q,n,c⟩ a/\JG F ⟨E,g,H⟩ b) (λi=>a.length-i.i)
  ⟨0,_,aC _,HZ.start a b⟩ wV QNG w6 λi=>?_
 have hile:=i.le;refine wA 5 I<|QA (Qb I Qd)<|QOm 3 I ?_
 refine QP I (λhc=>?_) λhc=>?_
 ·have hi:i.i<n:=wg<|QOW hc
  have y:i.i<a.length:=O;refine XD _ (λ_ _ f h=>h.1.1.ptr (by dsimp only;omega)) (λm=>?_);obtain⟨qb,qo,m⟩:=m;dsimp only at m;subst m;refine QOn 16 I ?_;refine Xd (ι:=QHF a b i.i) (λd=>[(0,.slice (some ⟨qb,qo,none⟩) n c),(1,.slice E g H),(5,.slice (some ⟨z,0,none⟩) (n+g) (n+g)),(6,.int .i64 (i.i:Int)),(7,.int .i64 d.c),(8,.int .i64 (d.j:Int))]) (λd=>[(z,.cells (d.o.map JJ).toArray 3 (0,0))]) (λ_ F=>JG F ⟨some ⟨qb,qo,none⟩,n,c⟩ a/\JG F ⟨E,g,H⟩ b) (λd=>b.length-d.j)
   ⟨0,i.o,0,aC _,i.h.next _⟩ wX QNG w6 λd=>?_
  have hjle:=d.le;have hol:d.o.length=a.length+b.length:=d.h.1;have hcc:=d.h.2.2.2.1;refine wA 5 I<|QA (Qb I Qd)<|QOm 3 I ?_
  refine QP I (λhc=>?_) λhc=>?_
  ·have hj:d.j<g:=wg<|QOW hc
   have X:d.j<b.length:=O;have U:i.i+d.j<d.o.length:=O;have bx:=da.Qg Q8 i.i;have by':=db.Qg Q8 d.j;have bo:=d.h.2.1.Qg Q8 (i.i+d.j);have bd:=OC bx by' bo hcc;have hst:=d.h.step bx db X y rfl;refine XD _ (λ_ _ f h=>h.2.1.ptr (by dsimp only;omega)) (λm=>?_);obtain⟨qb',qo',m⟩:=m;dsimp only at m;subst m;refine QOn 5 I<|JO QNG mixed wi<|QK (QC I)<|QK (QC I)<|QK (QC I)<|QK (Qk I I O)<|QK (Ql (i:=i.i+d.j) rfl rfl Qd Qo O)<|QK (YI (c:=d.o.map JJ) (T':=3) rfl Qo .here (EU U))<|QK (QC I)<|QK (QC I)<|QK (Ql (i:=i.i) rfl rfl Qd Qo O)<|QK (XQ (n:=n) (sz:=1) (cs:=a.map JJ) rfl Qo (λF h=>h.1.1) O (JN y))<|QK (QC I)<|QK (QC I)<|QK (Ql (i:=d.j) rfl rfl Qd Qo O)<|QK (XQ (n:=g) (sz:=1) (cs:=b.map JJ) rfl Qo (λF h=>h.2.1) O (JN X))<|QK (We I I O)<|QK (Qk I I O)<|QK (QC I)<|QK (Qk I I O)<|QK (QF I)<|Qw<|QOo 6 I<|QA (Qk I I O)<|QMu I<|QA (KV I I O O)<|QA (Ql (i:=i.i+d.j) rfl rfl Qd Qo O)<|QV (vs:=[_]) I I I Qo I .here (Hg U _) wS<|QOm 4 I ?_
   refine QA (WJ I I O O O)<|wB 2 I<|Qf<|QOo 3 I<|QA (Qk I I O)<|wB 2 I ?_
   exact Qh (⟨d.j+1,d.o.set (i.i+d.j) _,_,O,hst⟩:QHF a b i.i) (by show b.length-(d.j+1)<b.length-d.j;omega) wX QNG w6
  have hjn:d.j=b.length:=wg<|QOX hc
  have x:i.i+g<d.o.length:=O;have K:HZ a b (i.i+1) 0 0 (d.o.set (i.i+g) d.c) 0:=by
   have e:=d.h;rw[hjn]at e;have:=e.row y rfl
   rwa [nb]at this
  have hz:Qg d.o (i.i+g)=0:=d.h.2.2.1 _ O;refine Q7 ?_;refine wA 4 I<|QA (Qb I Qd)<|QA (Qk I I O)<|wB 3 I<|QA (Qb I Qd)<|QA (Qk I I O)<|QA (Ql (i:=i.i+g) rfl rfl Qd Qo O)<|QA (YI (c:=d.o.map JJ) (T':=3) rfl Qo .here (EU x))<|QMu I<|QA (Qk I I O)<|QA (Ql (i:=i.i+g) rfl rfl Qd Qo O)<|QV (vs:=[_]) I I I Qo I .here (Hg x _) wS<|QE<|Qf<|QOo 3 I<|QA (Qk I I O)<|wB 2 I ?_
  exact Qh (⟨i.i+1,d.o.set (i.i+g) d.c,O,K⟩:QHG a b) (by show a.length-(i.i+1)<a.length-i.i;omega) wV (by rw[hz,iA];exact iG _) w6
 refine Q7 ?_;refine QG ?_;have hex:a.length<=i.i:=wg<|QOX hc
 have hol:i.o.length=a.length+b.length:=i.h.1;have hr:Q2 3 1 (.slice (some ⟨z,0,none⟩) (n+g) (n+g)) (n+g) (i.o.map JJ) [(z,.cells (i.o.map JJ).toArray 3 (0,0))]:=by
  have:=Q2.some (T:=3) (sz:=1) (b:=z) (n:=n+g) (cap:=n+g) (l:=i.o.map JJ) (rest:=[]) wv wv (ak _) (bO (show n+g<=200000000 by omega) wj);simpa using this
 obtain⟨r,hv,L,hrc,Y⟩:=Q2.fix (w0:=w) (F0:=F) (bs1:=[]) (G:=λF=>JG F ⟨q,n,c⟩ a/\JG F ⟨E,g,H⟩ b) hr;have hlz:=Xc i.o;refine P5 Y ?_;rw[hv];refine wA 2 I<|QL I (λ_ _ f k=>Wx (r:=r) (l:=i.o) f ⟨by rw[L];exact k.2,by rw[L];omega,O⟩ O) λc71=>wQ I<|QW ?_
 exact QO ((⟨r.q,(Q3 i.o).length,r.cap⟩,Q3 i.o):Sr×List Int) rfl (wN I) rfl λF h=>⟨h.2,i.h.2.1.Q3,by show dv B9 (Q3 i.o)=_;rw[XB];exact i.h.stop hex,Xa _,by show(Q3 i.o).length<=_;omega⟩
structure QHP(a:List Int)(d:Int) where
 k:Nat
 o:List Int
 r:Int
 le:k<=a.length
 len:o.length=a.length
 dg:DG B9 o
 r0:0<=r
 r1:r<d
 h:dv B9 (a.drop k)=d*dv B9 (o.drop k)+r
theorem set_drop{p:Nat}(h:p<o.length)(v:Int):(o.set p v).drop p=v::o.drop (p+1):=by
 simp_all[bW,congr,aX]
theorem pU{r x:Int}(a:0<=r)(b:r<d)(hd:d<B9)(hx:0<=x/\x<B9):0<=r*B9+x/\0<=(r*B9+x)/d/\(r*B9+x)/d<B9/\0<=(r*B9+x)%d/\(r*B9+x)%d<d:=by
 have h0:0<=r*B9:=eC a wj;refine⟨O,er O O,eu O ?_,e9 _ O,eM _ O⟩;have h1:(r+1)*B9<=d*B9:=aw O wj
 grind
theorem QB7{r s:Int}{p:Nat}(hp:p<a.length)(b:p<o.length)(h:dv B9 (a.drop (p+1))=d*dv B9 (o.drop (p+1))+r)(c:s=r*B9+Qg a p):
  dv B9 (a.drop p)=d*dv B9 ((o.set p (s/d)).drop p)+s%d:=by
 rw[set_drop b,bW hp,<-ZJ hp];simp;have e:=fB s d
 grind
theorem Eu(hF:Fits F w)(hA:JG F ra a)(da:DG B9 a)(la:a.length<=100000000)(d0:0<d)(d1:d<B9):
  QU prog 171 [ra.v,.int .i64 d] w F (λ(c:(Sr×List Int)×Int)=>.tuple [.slice c.1.1.q c.1.1.n c.1.1.cap,.int .i64 c.2].toArray) (λc F=>JG F c.1.1 c.1.2/\DG B9 c.1.2/\NZ c.1.2/\0<=c.2/\c.2<d/\dv B9 a=d*dv B9 c.1.2+c.2/\c.1.2.length<=a.length):=by
 obtain⟨q,n,c⟩:=ra;have na:=hA.2.1;dsimp only at na;have h9:B9=1000000000:=rfl;refine QU.go (G:=λF=>JG F ⟨q,n,c⟩ a) func171 hF hA ?_;dsimp only[Sr.v];refine wA 9 I<|QA (Qb I Qd)<|Gf (n:=n) (bytes:=8) rfl rfl Qd Qo MK I EV O O λK=>?_
 rw[show Jz [af .i64 0] n=(bS a.length (0:Int)).map JJ by rw[Wt,na];simp[JJ]];refine QOm 12 I<|QA (Qb I Qd)<|QA (Jv I I O)<|wQ I<|QQ ?_
 refine Xd (ι:=QHP a d) (λi=>[(0,.slice q n c),(1,.int .i64 d),(6,.slice (some ⟨K,0,none⟩) n n),(7,.int .i64 i.r),(8,.int .i64 ((i.k:Int)-1))]) (λi=>[(K,.cells (i.o.map JJ).toArray 3 (0,0))]) (λ_ F=>JG F ⟨q,n,c⟩ a) (λi=>i.k)
  ⟨n,bS a.length 0,0,O,wu,DG.replicate Q8 _,eW _,d0,by rw[fu O,fu wv];simp[dv]⟩ wW QNG w6 λi=>?_
 have hile:=i.le;have X:=i.len;have x:=i.r0;have m:=i.r1;refine wA 7 I ?_;refine QP I (λhc=>?_) λhc=>?_
 ·have hk0:0<i.k:=wg<|QOW hc
  have E:i.k-1<a.length:=O;have y:i.k-1<i.o.length:=O;have bx:=da.Qg Q8 (i.k-1);have bd:=pU x m d1 bx;rw[h9]at bd;have U:=QB7 (d:=d) (r:=i.r) (s:=i.r*1000000000+Qg a (i.k-1)) E y (by rw[show i.k-1+1=i.k by omega];exact i.h) rfl;refine XD _ (λ_ _ f h=>h.1.ptr (by dsimp only;omega)) (λL=>?_);obtain⟨qb,qo,L⟩:=L;dsimp only at L;subst L;refine QOn 7 I<|QA (We I I O)<|wB 2 I<|QA (Ql (i:=i.k-1) rfl wM Qd Qo O)<|QA (XQ (n:=n) (sz:=1) (cs:=a.map JJ) rfl Qo w7 O (JN E))<|QA (Qk I I O)<|QOm 9 I<|QA (WJ I I O O O)<|QA (Ql (i:=i.k-1) rfl wM Qd Qo O)<|QV (vs:=[_]) I I I Qo I .here (Hg y _) wS<|QOm 5 I<|QA (KV I I O O)<|wB 2 I<|Qf<|QOo 3 I<|QA (Jv I I O)<|wB 2 I ?_
  exact Qh (⟨i.k-1,i.o.set (i.k-1) ((i.r*1000000000+Qg a (i.k-1))/d),(i.r*1000000000+Qg a (i.k-1))%d,O,by simpa using X,i.dg.set _ bd.2.1 bd.2.2.1,bd.2.2.2.1,bd.2.2.2.2,U⟩:QHP a d) (by show i.k-1<i.k;omega) ⟨rfl,rfl,rfl,rfl,congrArg (λz:Int=>some (af .i64 z)) (by dsimp only;omega),trivial⟩ QNG w6
 refine Q7 ?_;refine QG ?_;have Y:i.k=0:=wg<|QOX hc
 have hr:Q2 3 1 (.slice (some ⟨K,0,none⟩) n n) n (i.o.map JJ) [(K,.cells (i.o.map JJ).toArray 3 (0,0))]:=by
  have:=Q2.some (T:=3) (sz:=1) (b:=K) (n:=n) (cap:=n) (l:=i.o.map JJ) (rest:=[]) wv wv (ak _) (bO (show n<=200000000 by omega) wj);simpa using this
 obtain⟨r,hv,j,hrc,H⟩:=Q2.fix (w0:=w) (F0:=F) (bs1:=[]) (G:=λF=>JG F ⟨q,n,c⟩ a) hr;have hlz:=Xc i.o;have g:=i.h;rw[Y,bH,bH]at g;refine P5 H ?_;rw[hv];refine wA 2 I<|QL I (λ_ _ f k=>Wx (r:=r) (l:=i.o) f ⟨by rw[j];exact k.2,by rw[j];omega,O⟩ O) λc37=>QOm 6 I ?_
 exact Xm (((⟨r.q,(Q3 i.o).length,r.cap⟩,Q3 i.o),i.r):(Sr×List Int)×Int) rfl (wO I I) rfl λF h=>⟨h.2,i.dg.Q3,Xa _,x,m,by show _=d*dv B9 (Q3 i.o)+i.r;rw[XB];exact g,by show(Q3 i.o).length<=_;omega⟩
theorem QBz{v:List Int}{t r:Int}(h:Vk B9 u v n)(t0:0<=t)(e:t*Qg v (n+1)+r=Qg u (n+2)*B9+Qg u (n+1))(hc:r*B9+Qg u n<t*Qg v n):dv B9 u<t*dv B9 v:=by
 obtain⟨a,b,a3⟩:=Zt wj h.hu h.lu;obtain⟨b1,b2,b3⟩:=KA wj h.hv h.lv;rw[a,b1];refine PJ b2 a3 (pow_pos Q8 n) t0 ?_;rw[<-e]
 grind
def QGM{v:List Int}{t:Int}(h:Vk B9 u v n)(ht:B9<=t):dv B9 u<t*dv B9 v:=by
 have h0:=Qp wj h.hv;have h1:=aw ht h0;have:=h.lt;omega
theorem pG{v:List Int}{t:Int}(h:Vk B9 u v n)(t0:0<=t)(ht:Qg u (n+2)*B9+Qg u (n+1)<(t+1)*Qg v (n+1)):dv B9 u<(t+1)*dv B9 v:=by
 obtain⟨b,g,a3⟩:=Zt wj h.hu h.lu;obtain⟨b1,b2,b3⟩:=KA wj h.hv h.lv;rw[b,b1];refine PJ b2 a3 (pow_pos Q8 n) O ?_;have f:=h.hu.Qg Q8 n;have a:=h.hv.Qg Q8 n;have d:0<=(t+1)*Qg v n:=eC O a.1;have c:(Qg u (n+2)*B9+Qg u (n+1)+1)*B9<=(t+1)*Qg v (n+1)*B9:=aw O wj
 grind
theorem cg{v:List Int}{t r:Int}(h:Vk B9 u v n)(t0:0<=t)(c:t<B9)(e:t*Qg v (n+1)+r=Qg u (n+2)*B9+Qg u (n+1))(hc:t*Qg v n<=r*B9+Qg u n):(t-1)*dv B9 v<=dv B9 u:=by
 obtain⟨b,a,a3⟩:=Zt wj h.hu h.lu;obtain⟨b1,b2,b3⟩:=KA wj h.hv h.lv;rw[b,b1];have f:=h.hv.Qg Q8 n;have d:1*B9<=Qg v (n+1)*B9:=aw (wg h.nz) wj;refine AU (pow_pos Q8 n) b3 a t0 ?_ O b2;rw[<-e]
 grind
def Ya(h:k<o.length):(o.map JJ++rest)[0+k*1]?=some (.int .i64 (Qg o k)):=by
 rw[List.getElem?_append,if_pos wv];exact EU h
def gN{l vs a:List Value}(h:Yz l n vs a):Yz (l++rest) n vs (a++rest):=by
 induction h with
 |nil=>exact .nil
 |here h ih=>exact .here ih
 |skip h ih=>exact .skip ih
def Gw(h:k<o.length)(x:Int):Yz (o.map JJ++rest) (0+k*1) [.int .i64 x] ((o.set k x).map JJ++rest):=gN (Hg h x)
def Ot(u v:List Int)(t:Int):Prop:=0<=t/\t<B9/\(t-1)*dv B9 v<=dv B9 u/\dv B9 u<(t+1)*dv B9 v
structure GuI(u v:List Int)(m:Nat) where
 t:Int
 r:Int
 t0:0<=t
 r0:0<=r
 r1:r<B9
 t2:t<=1000000000000000000
 e:t*Qg v (m+1)+r=Qg u (m+2)*B9+Qg u (m+1)
 h:dv B9 u<(t+1)*dv B9 v
def Pe{U:List Int}(h:k<m):Qg ((U.drop j).take m) k=Qg U (j+k):=by
 by_cases g:j+k<U.length
 ·rw[ZJ wv,ZJ g];simp
 rw[Br wv,Br O]
def OO{v:List Int}{t r:Int}(h:Vk B9 u v n)(t0:0<=t)(e:t*Qg v (n+1)+r=Qg u (n+2)*B9+Qg u (n+1))(hr:B9<=r)(hu:dv B9 u<(t+1)*dv B9 v):Ot u v t:=by
 have ht:=h.top wj;have j:=h.hu.Qg Q8 n;have i:=h.hu.Qg Q8 (n+1);have c:=h.hv.Qg Q8 n;have d:=h.nz;have g:Qg u (n+2)*B9<=Qg v (n+1)*B9:=aw ht wj;have a:t<B9:=by
  refine Int.not_le.1 λhc=>?_;have b:B9*Qg v (n+1)<=t*Qg v (n+1):=aw hc O;rw[aR]at b;omega
 refine⟨t0,a,cg h t0 a e ?_,hu⟩;have e3:t*Qg v n<=B9*B9:=eD O O c.1 wj;have f:B9*B9<=r*B9:=aw hr wj;omega
theorem SG{v:List Int}{t:Int}(hu:DG B9 u)(t0:0<=t)(h:dv B9 u<t*dv B9 v):0<=t-1:=by
 have:=Qp (b:=B9) wj hu;rcases bQ 0 t with g | g
 ·omega
 have e:t=0:=O;subst e;rw[Int.zero_mul]at h;omega
theorem xP{w0:World}{F0:Gs}{G:Gs->Prop}{bs:List (Nat×Obj)}{o k E j:Nat}{rv:Sr}{U v:List Int}(hU:U.length=k)(hj:j+m+3<=k)(hn:k<=1000000000)(hG:∀F,G F->JG F rv v)(b:Vk B9 ((U.drop j).take (m+3)) v m):
  Jy prog 173 [.slice (some ⟨o,0,none⟩) k E,rv.v,.int .i64 (j:Int)] ⟨w0,F0,(o,.cells (U.map JJ++rest).toArray 3 (0,0))::bs,G⟩ (λt:Int=>.int .i64 t) (λt=>⟨w0,F0,(o,.cells (U.map JJ++rest).toArray 3 (0,0))::bs,λF=>G F/\Ot ((U.drop j).take (m+3)) v t⟩):=by
 obtain⟨q,n,c⟩:=rv;have X:=b.lv;have h9:B9=1000000000:=rfl;have u2:Qg ((U.drop j).take (m+3)) (m+2)=Qg U (j+(m+2)):=Pe O;have u1:Qg ((U.drop j).take (m+3)) (m+1)=Qg U (j+(m+1)):=Pe O;have u0:Qg ((U.drop j).take (m+3)) m=Qg U (j+m):=Pe O;have b2:=b.hu.Qg Q8 (m+2);have b1:=b.hu.Qg Q8 (m+1);have b0:=b.hu.Qg Q8 m;have c1:=b.hv.Qg Q8 (m+1);have H:=b.hv.Qg Q8 m;have nz:=b.nz;refine Jy.intro func173 rfl rfl rfl rfl ?_;dsimp only[Sr.v];refine XD _ (λ_ F f h=>(hG F h).2.1) (λy=>?_);dsimp only at y;obtain rfl:n=m+2:=O;refine XD _ (λ_ F f h=>(hG F h).1.ptr (by dsimp only;omega)) (λx=>?_);obtain⟨L,K,x⟩:=x;dsimp only at x;subst x;refine wA 8 I<|QA (Qb I Qd)<|wQ I<|QG<|JO QNG mixed wi<|QK (QC I)<|QK (QC I)<|QK (QC I)<|QK (Qk I I O)<|QK (Ql (i:=j+(m+2)) I wM Qd Qo O)<|QK (YI (v:=.int .i64 (Qg ((U.drop j).take (m+3)) (m+2))) (c:=U.map JJ++rest) (T':=3) rfl Qo .here (by rw[u2];exact Ya O))<|QK (We I I O)<|QK (QC I)<|QK (QC I)<|QK (QC I)<|QK (Qk I I O)<|QK (Jv I I O)<|QK (Ql (i:=j+(m+1)) I wM Qd Qo O)<|QK (YI (v:=.int .i64 (Qg ((U.drop j).take (m+3)) (m+1))) (c:=U.map JJ++rest) (T':=3) rfl Qo .here (by rw[u1];exact Ya O))<|QK (Qk I I O)<|QK (QF I)<|Qw<|QD<|QG<|JO QNG mixed wi<|QK (QC I)<|QK (QC I)<|QK (QC I)<|QK (Jv I I O)<|QK (Ql (i:=m+1) rfl wM Qd Qo O)<|QK (XQ (n:=m+2) (sz:=1) (cs:=v.map JJ) rfl Qo (λF h=>(hG F h).1) O (JN (show m+1<v.length by omega)))<|QK (WJ I I O O O) ?_
 refine QK (QC I)<|QK (QC I)<|QK (QC I)<|QK (Jv I I O)<|QK (Ql (i:=m+1) rfl wM Qd Qo O)<|QK (XQ (n:=m+2) (sz:=1) (cs:=v.map JJ) rfl Qo (λF h=>(hG F h).1) O (JN (show m+1<v.length by omega)))<|QK (KV I I O O)<|QK (QF I)<|QK (QF I)<|Qw<|QOo 3 I ?_
 refine Xd (ι:=GuI ((U.drop j).take (m+3)) v m) (λi=>[(0,.slice (some ⟨o,0,none⟩) k E),(1,.slice (some ⟨L,K,none⟩) (m+2) c),(2,.int .i64 (j:Int)),(7,.int .i64 ((m+2:Nat):Int)),(9,.int .i64 i.t),(10,.int .i64 i.r)]) (λ_=>(o,.cells (U.map JJ++rest).toArray 3 (0,0))::bs) (λ_=>G) (λi=>i.t.toNat)
  ⟨(Qg ((U.drop j).take (m+3)) (m+2)*1000000000+Qg ((U.drop j).take (m+3)) (m+1))/Qg v (m+1),(Qg ((U.drop j).take (m+3)) (m+2)*1000000000+Qg ((U.drop j).take (m+3)) (m+1))%Qg v (m+1),er O O,e9 _ O,iC (eM _ nz) c1.2,Int.le_trans (ee (a:=(Qg ((U.drop j).take (m+3)) (m+2)*1000000000+Qg ((U.drop j).take (m+3)) (m+1))) _ O) O,by rw[aR,Int.add_comm];exact fB _ _,pG b (er O O) (Int.lt_ediv_add_one_mul_self _ nz)⟩ wX QNG w6 λi=>?_
 have t0:=i.t0;have r0:=i.r0;have r1:=i.r1;have Y:=i.t2;refine QG<|QG<|JO QNG mixed wi<|QK (QC I)<|QK (QM I I I)<|QK (QC I) ?_
 refine Vl (t:=44) rfl (λg=>?_) λg=>?_
 ·refine Q6 I I I<|Q6 I I I<|Q6 I I I<|Q6 I I I<|Q6 I I I<|Q6 I I I<|Q6 I I I<|Q6 I I I<|Q6 I I I<|Q6 I I I<|Q6 I I I<|Q6 I I I<|Q6 I I I<|Q6 I I I<|Q6 I I I<|Q6 I I I<|Q6 I I I<|Q6 I I I<|QK (QT I I I)<|Qw<|QD<|WV I ?_
  have d:dv B9 ((U.drop j).take (m+3))<i.t*dv B9 v:=QGM b (wg<|QOW g);refine QOn 6 I<|QA (Jv I I O)<|QOm 8 I<|QA (Jv I I O)<|QA (Ql (i:=m+1) rfl wM Qd Qo O)<|QA (XQ (n:=m+2) (sz:=1) (cs:=v.map JJ) rfl Qo (λF h=>(hG F h).1) O (JN (show m+1<v.length by omega)))<|QA (Qk I I O)<|QOm 9 I ?_
  refine QP I (λhc=>?_) λhc=>?_
  ·refine wA 6 I<|X4 ?_
   exact Zr (i.t-1) rfl (wN I) rfl λw h=>h.imp QNG λF h=>⟨h,OO (r:=i.r+Qg v (m+1)) b (SG b.hu t0 d) (by rw[ew,bh,<-i.e];omega) (wg<|QOW hc) (by rw[bU];exact d)⟩
  refine QN<|Qf ?_
  exact Qh (⟨i.t-1,i.r+Qg v (m+1),(SG b.hu t0 d),O,wg<|QOX hc,O,(by rw[ew,bh,<-i.e];omega),(by rw[bU];exact d)⟩:GuI ((U.drop j).take (m+3)) v m) (by show(i.t-1).toNat<i.t.toNat;have:=(SG b.hu t0 d);omega) wX QNG w6
 have z:i.t<B9:=wg<|QOX g
 have p0:0<=i.t*Qg v m:=eC t0 H.1;have p1:i.t*Qg v m<=1000000000*1000000000:=eD O O H.1 wj;refine JF I I<|QK (QC I)<|JF I I<|QK (QC I)<|JF I I<|QK (QC I)<|JF I I<|QK (Jv I I O)<|JF I I<|QK (Ql (i:=m) rfl wM Qd Qo O)<|JF I I<|QK (XQ (n:=m+2) (sz:=1) (cs:=v.map JJ) rfl Qo (λF h=>(hG F h).1) O (JN (show m<v.length by omega)))<|JF I I<|QK (We I I O)<|JF I I<|QK (QC I)<|JF I I<|QK (We I I O)<|JF I I<|QK (QC I)<|JF I I<|QK (QC I)<|JF I I<|QK (QC I)<|JF I I<|QK (Qk I I O)<|JF I I<|QK (Jv I I O)<|JF I I<|QK (Ql (i:=j+m) rfl wM Qd Qo O)<|JF I I<|QK (YI (v:=.int .i64 (Qg ((U.drop j).take (m+3)) (m))) (c:=U.map JJ++rest) (T':=3) rfl Qo .here (by rw[u0];exact Ya O))<|JF I I<|QK (Qk I I O)<|JF I I<|QK (QM I I I)<|QK (QS I I I)<|Qw<|QD ?_
 refine QP I (λhc=>?_) λhc=>?_
 ·have d:dv B9 ((U.drop j).take (m+3))<i.t*dv B9 v:=QBz b t0 i.e (by have:=QOW hc;rw[h9];omega);refine QOn 6 I<|QA (Jv I I O)<|QOm 8 I<|QA (Jv I I O)<|QA (Ql (i:=m+1) rfl wM Qd Qo O)<|QA (XQ (n:=m+2) (sz:=1) (cs:=v.map JJ) rfl Qo (λF h=>(hG F h).1) O (JN (show m+1<v.length by omega)))<|QA (Qk I I O)<|QOm 9 I ?_
  refine QP I (λhc=>?_) λhc=>?_
  ·refine wA 6 I<|X4 ?_
   exact Zr (i.t-1) rfl (wN I) rfl λw h=>h.imp QNG λF h=>⟨h,OO (r:=i.r+Qg v (m+1)) b (SG b.hu t0 d) (by rw[ew,bh,<-i.e];omega) (wg<|QOW hc) (by rw[bU];exact d)⟩
  refine QN<|Qf ?_
  exact Qh (⟨i.t-1,i.r+Qg v (m+1),(SG b.hu t0 d),O,wg<|QOX hc,O,(by rw[ew,bh,<-i.e];omega),(by rw[bU];exact d)⟩:GuI ((U.drop j).take (m+3)) v m) (by show(i.t-1).toNat<i.t.toNat;have:=(SG b.hu t0 d);omega) wX QNG w6
 refine Q7 ?_;refine wA 7 I ?_;exact Zr (i.t) rfl (wN I) rfl λw h=>h.imp QNG λF h=>⟨h,⟨t0,z,cg b t0 z i.e (by have:=QOX hc;rw[h9];omega),i.h⟩⟩
end Go.Proofs.YtogkbhegfnklhaaGreatDoor
namespace Ig
structure RR(b:Int)(U v:List Int)(j:Nat)(t:Int)(i:Nat)(U':List Int)(br:Int):Prop where
 len:U'.length=U.length
 dg:DG b U'
 lo:U'.take j=U.take j
 hi:U'.drop (j+i)=U.drop (j+i)
 br0:0<=br
 br1:br<=b
 h:dv b U'+b^j*(t*dv b (v.take i))=dv b U+b^(j+i)*br
def RR.start{b:Int}(hb:0<=b){U v:List Int}(a:DG b U)(j:Nat)(t:Int):RR b U v j t 0 U 0 :=
 ⟨rfl,a,rfl,rfl,eW _,hb,wu⟩
def yt{l:List Int}{p k:Nat}:Qg (l.drop p) k=Qg l (p+k):=by
 by_cases g:p+k<l.length
 ·rw[ZJ wv,ZJ g];simp
 rw[Br wv,Br O]
def Za{l m:List Int}{p q:Nat}(h:l.drop p=m.drop p)(a:p<=q):Qg l q=Qg m q:=by
 have:=congrArg (λx=>Qg x (q-p)) h;simp only[yt]at this;rw[show p+(q-p)=q by omega]at this;exact this
def vt{b t x a:Int}(hb:1<b)(ht:0<=t/\t<b)(hx:0<=x/\x<b)(h:0<=a/\a<=b):0<=t*x/\t*x<=(b-1)*(b-1)/\0<=(t*x+a)/b/\(t*x+a)/b<b:=by
 have h0:=eC ht.1 hx.1;have h1:t*x<=(b-1)*(b-1):=eD O O hx.1 O;refine⟨h0,h1,er O O,eu O ?_⟩;have e:(b-1)*(b-1)=b*b-2*b+1:=by grind
 omega
def RR.step{b:Int}{U v f:List Int}{j i:Nat}{t d x a:Int}(h:RR b U v j t i f d)(g:j+i<U.length)
  (hx:0<=x/\x<b) (c:a<=b/\0<=a) (e:x-b*a=Qg U (j+i)-(t*Qg v i+d)):RR b U v j t (i+1) (f.set (j+i) x) a:=by
 obtain⟨h1,h2,h3,h4,h5,h6,h7⟩:=h;have hd:Qg f (j+i)=Qg U (j+i):=Za h4 (ak _);refine⟨by simpa using h1,h2.set _ hx.1 hx.2,?_,?_,c.2,c.1,?_⟩
 ·rw[aH O];exact h3
 ·rw[aX O,<-eI,<-aE,h4,aE]
 rw[G7 b O,hd,Ve,<-eI,bA];have k:b^(j+i)*(x-b*a)=b^(j+i)*(Qg U (j+i)-(t*Qg v i+d)):=by rw[e]
 rw[fI]at *
 generalize b^i=p at *
 generalize b^j=q at *
 grind
structure Tw(b:Int)(U v:List Int)(j n:Nat)(t:Int)(U':List Int)(top:Int):Prop where
 len:U'.length=U.length
 dg:DG b (U'.set (j+n) 0)
 lo:U'.take j=U.take j
 hi:U'.drop (j+n+1)=U.drop (j+n+1)
 tp:Qg U' (j+n)=top
 h:dv b U'=dv b U-b^j*(t*dv b v)
def RR.stop{b:Int}(hb:1<b){U v c:List Int}{j n:Nat}{t a:Int}(h:RR b U v j t n c a)(d:v.length=n)(f:j+n<U.length):Tw b U v j n t (c.set (j+n) (Qg U (j+n)-a)) (Qg U (j+n)-a):=by
 obtain⟨h1,h2,h3,h4,h5,h6,h7⟩:=h;have hd:Qg c (j+n)=Qg U (j+n):=Za h4 (ak _);refine⟨by simpa using h1,?_,?_,?_,?_,?_⟩
 ·rw[iu];exact h2.set _ (eW _) O
 ·rw[aH O];exact h3
 ·rw[aX O,<-aE,h4,aE]
 ·rw[WD O,if_pos rfl]
 rw[G7 b O,hd];rw[aZ O]at h7;generalize b^(j+n)=p at *
 generalize b^j=q at *
 grind
def X8(b:Int)(l:List Int)(j:Nat):dv b l=dv b (l.take j)+b^j*dv b (l.drop j):=by
 by_cases h:j<=l.length
 ·exact KX b l j h
 rw[aZ O,az O];simp
def Tw.part{b:Int}(hb:0<b){U v a:List Int}{j n:Nat}{t top:Int}(h:Tw b U v j n t a top):dv b (a.drop j)=dv b (U.drop j)-t*dv b v:=by
 have e:=h.h;rw[X8 b a j,X8 b U j,h.lo]at e;have hp:=pow_pos hb j;have c:b^j*dv b (a.drop j)=b^j*(dv b (U.drop j)-t*dv b v):=by
  rw[eB];generalize b^j*dv b (a.drop j)=x at *;generalize b^j*dv b (U.drop j)=y at *;omega
 exact fj O c
def Eo{l:List Int}{j n:Nat}(h:j+n<l.length):l.drop j=(l.drop j).take n++Qg l (j+n)::l.drop (j+n+1):=by
 have e:(l.drop j).drop n=Qg l (j+n)::l.drop (j+n+1):=by
  rw[aE,XC h]
 rw[<-e,ep]
def Cs{b:Int}(hb:1<b){U:List Int}{k n:Nat}(a:DG b U)(h:dv b (U.drop k)<b^n):dv b (U.drop (k+n))=0:=by
 have e:=X8 b (U.drop k) n;rw[aE]at e;have h1:=Qp (b:=b) O ((a.drop k).take n);have h2:=Qp (b:=b) O (a.drop (k+n));have hp:=pow_pos (b:=b) O n;rcases bQ 0 (dv b (U.drop (k+n)))with g | g
 ·have:b^n*1<=b^n*dv b (U.drop (k+n)):=ae O O;rw[fJ]at this;omega
 omega
def Tw.sign{b:Int}(hb:1<b){U v a:List Int}{j n:Nat}{t top:Int}(h:Tw b U v j n t a top)(hz:dv b (U.drop (j+n+1))=0)(f:j+n<U.length):
  ∃lo,0<=lo/\lo<b^n/\dv b (a.drop j)=lo+b^n*top:=by
 have c:=h.len;have d:=Eo (l:=a) (j:=j) (n:=n) O;refine⟨dv b ((a.drop j).take n),?_,?_,?_⟩
 ·have:DG b ((a.drop j).take n):=by
   have:=((h.dg.drop j).take n);rw[eG,if_neg O,bF,aH (ak _)]at this;exact this
  exact Qp O this
 ·have:DG b ((a.drop j).take n):=by
   have:=((h.dg.drop j).take n);rw[eG,if_neg O,bF,aH (ak _)]at this;exact this
  have h2:=Zu (by omega:0<b) this;rw[show((a.drop j).take n).length=n by simp;omega]at h2;exact h2
 have e:=congrArg (dv b) d;rw[ZP,Yp,h.hi,hz,h.tp,show((a.drop j).take n).length=n by simp;omega]at e;simpa using e
def Tw.QB2{b:Int}(hb:1<b){U v a:List Int}{j n:Nat}{t top:Int}(h:Tw b U v j n t a top)(c:j+n<U.length)(h0:0<=top)(ht:top<b)
  (g:dv b (U.drop j)<(t+1)*dv b v):DG b a/\dv b (a.drop j)<dv b v/\dv b a=dv b U-b^j*(t*dv b v):=by
 have hp:=h.part O;refine⟨?_,?_,h.h⟩
 ·have e:a=(a.set (j+n) 0).set (j+n) top:=by
   rw[iu];have:=h.tp;rw[ZJ (by rw[h.len];exact c)]at this;rw[<-this,List.set_getElem_self]
  rw[e];exact h.dg.set _ h0 ht
 rw[hp];rw[eX,bh]at g;omega
structure Eg(b:Int)(U v:List Int)(j n i:Nat)(U':List Int)(c:Int):Prop where
 len:U'.length=U.length
 dg:DG b (U'.set (j+n) 0)
 lo:U'.take j=U.take j
 hi:U'.drop (j+i)=U.drop (j+i)
 c0:0<=c
 c1:c<=1
 h:dv b U'+b^(j+i)*c=dv b U+b^j*dv b (v.take i)
def Eg.start{b:Int}{U v:List Int}{j n:Nat}(a:DG b (U.set (j+n) 0)):Eg b U v j n 0 U 0 :=
 ⟨rfl,a,rfl,rfl,eW _,O,wu⟩
def Eg.step{b:Int}{U v d:List Int}{j n i:Nat}{c x a:Int}(h:Eg b U v j n i d c)(hi:i<n)(f:j+n<U.length)
  (hx:0<=x/\x<b) (hc:0<=a/\a<=1) (e:x+b*a=Qg U (j+i)+Qg v i+c):Eg b U v j n (i+1) (d.set (j+i) x) a:=by
 obtain⟨h1,h2,h3,h4,h5,h6,h7⟩:=h;have hd:Qg d (j+i)=Qg U (j+i):=Za h4 (ak _);refine⟨by simpa using h1,?_,?_,?_,hc.1,hc.2,?_⟩
 ·rw[List.set_comm _ _ O];exact h2.set _ hx.1 hx.2
 ·rw[aH O];exact h3
 ·rw[aX O,<-eI,<-aE,h4,aE]
 rw[G7 b O,hd,Ve,<-eI,bA];have g:b^(j+i)*(x+b*a)=b^(j+i)*(Qg U (j+i)+Qg v i+c):=by rw[e]
 rw[fI]at *
 generalize b^i=p at *
 generalize b^j=q at *
 grind
def Eg.Qg{b:Int}(hb:1<b){U v a:List Int}{j n i:Nat}{c:Int}(h:Eg b U v j n i a c)(hi:i<n):0<=Qg a (j+i)/\Qg a (j+i)<b:=by
 have:=h.dg.Qg O (j+i);by_cases g:j+n<a.length
 ·rw[WD g,if_neg O]at this;exact this
 rw[List.set_eq_of_length_le O]at this;exact this
def Eg.QB2{b:Int}(hb:1<b){U v L a:List Int}{j n:Nat}{t top c:Int}(h:Eg b L v j n n a c)(i:Tw b U v j n t L top)(hU:DG b U)(hv:DG b v)(hn:v.length=n)(hz:dv b (U.drop (j+n+1))=0)(hj:j+n<U.length)(h0:top<0)
  (g:(t-1)*dv b v<=dv b (U.drop j)):DG b (a.set (j+n) (top+c))/\dv b ((a.set (j+n) (top+c)).drop j)<dv b v/\dv b (a.set (j+n) (top+c))=dv b U-b^j*((t-1)*dv b v)/\0<=t-1/\(a.set (j+n) (top+c)).length=U.length:=by
 obtain⟨lo,l0,l1,l2⟩:=i.sign hb hz hj;have hp:=i.part O;have hlen:=i.len;obtain⟨a1,a2,a3,a4,a5,a6,a7⟩:=h;have hd:Ig.Qg a (j+n)=top:=by rw[Za a4 (ak _),i.tp]
 rw[aZ O]at a7;have w:=Qp (b:=b) O hv;have o:=Zu (b:=b) O hv;rw[hn]at o;have hB:=pow_pos (b:=b) O n;have X:dv b (a.set (j+n) (top+c))=dv b U-b^j*((t-1)*dv b v):=by
  rw[G7 b O,hd];have e:=i.h;generalize b^(j+n)=p at *
  generalize b^j=q at *
  grind
 have F:(a.set (j+n) (top+c)).take j=U.take j:=by
  rw[aH O,a3,i.lo]
 have d:dv b ((a.set (j+n) (top+c)).drop j)=dv b (U.drop j)-(t-1)*dv b v:=by
  have e:=X;rw[X8 b _ j,X8 b U j,F]at e;have hq:=pow_pos (b:=b) O j;have K:b^j*dv b ((a.set (j+n) (top+c)).drop j)=b^j*(dv b (U.drop j)-(t-1)*dv b v):=by
   rw[eB];generalize b^j*dv b ((a.set (j+n) (top+c)).drop j)=x at *;generalize b^j*dv b (U.drop j)=y at *;omega
  exact fj O K
 have Y:dv b (L.drop j)<0:=by
  rw[l2];have:b^n*top<=b^n*(-1):=ae O O;omega
 have k:dv b ((a.set (j+n) (top+c)).drop j)<dv b v:=by
  rw[d,ew,bh];omega
 have H:0<=dv b ((a.set (j+n) (top+c)).drop j):=by rw[d];omega
 have E:dv b ((a.set (j+n) (top+c)).drop j)=dv b ((a.drop j).take n)+b^n*(top+c):=by
  have f:=congrArg (dv b) (Eo (l:=a.set (j+n) (top+c)) (j:=j) (n:=n) wv);have e3:(a.set (j+n) (top+c)).drop (j+n+1)=a.drop (j+n+1):=aX O;rw[ZP,Yp,WD (show j+n<a.length by omega),if_pos rfl,e3]at f;have:dv b (a.drop (j+n+1))=0:=by
   rw[<-aE,a4,aE,i.hi];exact hz
  have K:((a.set (j+n) (top+c)).drop j).take n=(a.drop j).take n:=by
   rw[eG,if_neg O,bF,aH (ak _)]
  rw[this,K,show((a.drop j).take n).length=n by simp;omega]at f;simpa using f
 have m:DG b ((a.drop j).take n):=by
  have:=((a2.drop j).take n);rw[eG,if_neg O,bF,aH (ak _)]at this;exact this
 have d0:=Qp (b:=b) O m;have d1:=Zu (b:=b) O m;rw[show((a.drop j).take n).length=n by simp;omega]at d1;have z:top+c=0:=by
  rw[E]at k H;have q1:¬1<=top+c:=λq=>by
   have:b^n*1<=b^n*(top+c):=ae q O;omega
  have q2:¬top+c<=-1:=λq=>by
   have:b^n*(top+c)<=b^n*(-1):=ae q O;omega
  omega
 refine⟨?_,k,X,?_,wv⟩
 ·rw[z];exact a2
 rcases bQ (t-1) 0 with q | q
 ·exfalso;have u0:=Qp (b:=b) O (hU.drop j);have:t*dv b v<=0:=Int.mul_nonpos_of_nonpos_of_nonneg O w;omega
 exact q
end Ig
namespace Go.Proofs.YtogkbhegfnklhaaGreatDoor
variable{a b l o u:List Int}{c i j k m n:Nat}{w:World}{F F':Gs}{ra rb:Sr}{d f z zx:Int}{x y:Operand}{s:List UInt8}{cs rest:List Value}{α ι:Type}{et kt yT:TypeId}{P:Program}{seen:List Nat}
open Go.RowKit Ig
def el{α:Type}[Inhabited α](l:List α)(i:Nat):α:=l.getD i default
theorem JB[Inhabited α]{l:List α}{i:Nat}(h:i<l.length):el l i=l[i]:=by simp[el,h]
theorem Qy[Inhabited α]{l:List α}{i:Nat}(h:i<l.length):el l i∈l:=by grind[JB,List.getElem_mem]
theorem JX[Inhabited α]{f:α->List Value}{k:Nat}(b:∀x,(f x).length=k){l:List α}{i j:Nat}{u:Value}(h:i<l.length)(a:(f (el l i))[j]?=some u):(l.flatMap f)[i*k+j]?=some u:=by
 grind[bI,OQ,JB]
def X0[Inhabited α]{f:α->Value}{l:List α}{i:Nat}(h:i<l.length):(l.map f)[i*1]?=some (f (el l i)):=by
 rw[Nat.mul_one,List.getElem?_map,List.getElem?_eq_getElem h,JB h];rfl
def Zb[Inhabited α]{l:List α}{i:Nat}(h:i<l.length):l.take (i+1)=l.take i++[el l i]:=by
 rw[List.take_succ_eq_append_getElem h,JB h]
def Mz[Inhabited α]{l:List α}{i:Nat}(h:i<l.length):l.drop i=el l i::l.drop (i+1):=by
 rw[bW h,JB h]
def K7(h:i<l.length):Qg l i=el l i:=by rw[ZJ h,JB h]
def QBA(q:Option Addr):Nat:=(q.getD ⟨0,0,none⟩).block
def QA9(q:Option Addr):Nat:=(q.getD ⟨0,0,none⟩).off
section
variable[Dr][df:Df]{P:Program}{Q:Exit->Act->World->Prop}{N:Nat}{m:Sl}{E E0:Env}{ops:Array Oper}{l:List Oper}{w0:World}{F0:Gs}{bs:List (Nat×Obj)}{G:Gs->Prop}{ty:TypeId}
theorem Qs{T e:TypeId}{q:Option Addr}{sz d:Nat}{g:Bool}(i:Nat)(hr:∀F,G F->Qz F q n d cs)(hx:ev m x=some (.slice q n c))(hy:ev m y=some (.int .i64 (i:Int)))(j:GZ P T=some e)(h:Zm P e=some (g,sz))(hi:i<n):
  Qt P N m (St ⟨w0,F0,bs,G⟩) (.indexAddr T x y) ty (.pointer (some ⟨QBA q,QA9 q+i*sz,none⟩)):=λa w _ _ _ _ ha f=>by
 obtain⟨F,k⟩:=id f;obtain⟨b,off,rfl⟩:=(hr F k.hG).ptr O;exact Ql hx hy j h hi a w _ _ _ _ ha f
theorem Qu{T:TypeId}{q:Option Addr}{sz:Nat}(j:Nat){u:Value}(hr:∀F,G F->Qz F q n sz cs)(d:0<n)(hx:ev m x=some (.pointer (some ⟨QBA q,QA9 q+j,none⟩)))(ht:Zm P T=some (false,k))(hu:cs[j]?=some u):
  Qt P N m (St ⟨w0,F0,bs,G⟩) (.load T x) ty u:=λa w _ _ _ _ ha c=>by
 obtain⟨F,f⟩:=id c;obtain⟨b,off,rfl⟩:=(hr F f.hG).ptr d;exact XQ hx ht hr d hu a w _ _ _ _ ha c
theorem J0{T:TypeId}{q:Option Addr}{sz:Nat}{vs:List Value}(j:Nat)(hr:∀F,G F->Qz F q n sz cs)(d:0<n)(hx:ev m x=some (.pointer (some ⟨QBA q,QA9 q+j,none⟩)))(ht:Zm P T=some (true,k))(f:vs.length=k)(hu:∀i v,vs[i]?=some v->cs[j+i]?=some v):
  Qt P N m (St ⟨w0,F0,bs,G⟩) (.load T x) ty (.agg vs.toArray):=λa w _ _ _ _ ha c=>by
 obtain⟨F,g⟩:=id c;obtain⟨b,off,rfl⟩:=(hr F g.hG).ptr d;exact CG hx ht hr d f hu a w _ _ _ _ ha c
theorem Yb.append{m:Sl}:∀ {k l:Sl},Yb m k->Yb m l->Yb m (k++l)
 |[],_,_,h=>h
 |(_,_)::_,_,⟨h1,h2⟩,h=>⟨h1,Yb.append h2 h⟩
theorem Jf{c:Code}(K:Sl)(M:ι->Sl)(B:ι->List _)(R:ι->Gs->Prop)(μ:ι->Nat)(a:ι)
  (hk:Yb m K) (hm:Yb m (M a)) (hb:(B a).Sublist bs) (hg:∀F,G F->R a F)
  (round:∀i,J P c (Exit.then (Ou N w0 F0 (λi=>K++M i) B (λi F=>G F/\R i F) μ i) Q) N (K++M i) ⟨w0,F0,B i,λF=>G F/\R i F⟩):J P (.loop c) Q N m ⟨w0,F0,bs,G⟩ :=
 Xd (λi=>K++M i) B (λi F=>G F/\R i F) μ a (hk.append hm) hb (λF h=>⟨h,hg F h⟩) round
theorem J2{c:Code}(K:Sl)(M:ι->Sl)(μ:ι->Nat)(a:ι)(hk:Yb m K)(hm:Yb m (M a))
  (round:∀i,J P c (Exit.then (Ou N w0 F0 (λi=>K++M i) (λ_=>bs) (λ_=>G) μ i) Q) N (K++M i) ⟨w0,F0,bs,G⟩):J P (.loop c) Q N m ⟨w0,F0,bs,G⟩ :=
 Xd (λi=>K++M i) (λ_=>bs) (λ_=>G) μ a (hk.append hm) QNG w6 round
theorem Xl{x y:Code}(K M:Sl)(hk:Yb m K)(h1:J P x (Xp λa w=>JH N (K++M) a/\St ⟨w0,F0,bs,G⟩ w) N m ⟨w0,F0,bs,G⟩)(h2:J P y Q N (K++M) ⟨w0,F0,bs,G⟩):J P (.seq x y) Q N m ⟨w0,F0,bs,G⟩ :=
 QAb _ _ _ h1 h2
theorem P4{x y:Code}(K:Sl)(M:ι->Sl)(B:ι->List _)(R:ι->Gs->Prop)(hk:Yb m K)(h1:J P x (Xp λa w=>∃i,JH N (K++M i) a/\St ⟨w0,F0,B i,λF=>G F/\R i F⟩ w) N m ⟨w0,F0,bs,G⟩)
  (h2:∀i,J P y Q N (K++M i) ⟨w0,F0,B i,λF=>G F/\R i F⟩):J P (.seq x y) Q N m ⟨w0,F0,bs,G⟩ :=
 Ha (λi=>K++M i) B (λi F=>G F/\R i F) h1 h2
end
def OL:(1:Int)<B9:=wj
def TC(f:DG B9 b)(c:NZ b)(d:b.length=n+1):1<=Qg b n/\1<=B9/(Qg b n+1)/\B9/(Qg b n+1)<B9/\B9/(Qg b n+1)*(Qg b n+1)<=B9:=by
 have hd:=f.Qg Q8 n;have h1:1<=Qg b n:=by
  have a:n<b.length:=O;have:Qg b n≠0:=by
   intro e;refine c ?_;rw[List.getLast?_eq_getElem?,d,eL,List.getElem?_eq_getElem a];rw[ZJ a]at e;rw[e]
  omega
 have h9:B9=1000000000:=rfl;refine⟨h1,?_,?_,Int.ediv_mul_le _ O⟩
 ·exact(Int.le_ediv_iff_mul_le O).2 O
 exact eu O (by rw[fK];have:B9*1<=B9*Qg b n:=ae h1 O;omega)
def zR{v:List Int}(i:DG B9 b)(k:NZ b)(d:b.length=n+1)(a:DG B9 v)(j:NZ v)(h:dv B9 v=dv B9 b*f)(h1:1<=f)(h2:f*(Qg b n+1)<=B9):v.length=n+1:=by
 have w:n<b.length:=O;have z:dv B9 b=dv B9 (b.take n)+B9^n*Qg b n:=by
  have:=Ve B9 b n;rw[aZ O]at this;exact this
 have y:=Zu Q8 (i.take n);rw[show(b.take n).length=n by simp;omega]at y;have x:B9^n<=dv B9 b:=by
  have:=De Q8 i k (by intro e;rw[e]at d;simp at d);rw[d,eL]at this;exact this
 have hp:=pow_pos Q8 n;have c:dv B9 b<B9^n*(Qg b n+1):=by rw[fK,fJ];omega
 have m:dv B9 v<B9^(n+1):=by
  rw[h,bA];have:dv B9 b*f<B9^n*(Qg b n+1)*f:=ff c O;have q:B9^n*(Qg b n+1)*f<=B9^n*B9:=by
   rw[fq,aR (Qg b n+1)];exact ae h2 O
  omega
 have o:B9^n<=dv B9 v:=by
  rw[h];have:dv B9 b*1<=dv B9 b*f:=ae h1 O;omega
 rcases Nat.lt_trichotomy v.length (n+1)with g | g | g
 ·have h3:=Zu Q8 a;have h4:=Ig.YD (b:=B9) wj (show v.length<=n by omega);omega
 ·exact g
 have h3:=De Q8 a j (by intro e;rw[e]at g;simp at g);have h4:=Ig.YD (b:=B9) wj (show n+1<=v.length-1 by omega);omega
def QBb{b:Int}(hb:0<b){U:List Int}{k:Nat}(a:DG b U):b^k*dv b (U.drop k)<=dv b U:=by
 rw[X8 b U k];have:=Qp hb (a.take k);omega
structure Du(a v:List Int)(f:Int)(n:Nat) where
 k:Nat
 U:List Int
 Q:List Int
 le:k+n<=a.length+1
 lu:U.length=a.length+1
 lq:Q.length=a.length+1-n
 du:DG B9 U
 dq:DG B9 Q
 lt:dv B9 (U.drop k)<dv B9 v
 h:dv B9 a*f=dv B9 v*(B9^k*dv B9 (Q.drop k))+dv B9 U
def Du.start{a b v U:List Int}{f:Int}{n:Nat}(m:DG B9 a)(j:DG B9 b)(i:NZ b)(c:b.length=n+1)(hv:dv B9 v=dv B9 b*f)(h1:1<=f)(du:DG B9 U)(lu:U.length=a.length+1)(g:dv B9 U=dv B9 a*f)(o:n+1<=a.length+1):Du a v f (n+1) where
 k:=a.length+1-(n+1)
 U:=U
 Q:=bS (a.length+1-(n+1)) 0
 le:=O
 lu:=lu
 lq:=wu
 du:=du
 dq:=DG.replicate Q8 _
 lt:=by
  have d:B9^n<=dv B9 b:=by
   have:=De Q8 j i (by intro e;rw[e]at c;simp at c);rw[c,eL]at this;exact this
  have h2:=QBb Q8 (k:=a.length-n) du;have h3:=Zu Q8 m;have h4:dv B9 a*f<B9^a.length*f:=ff h3 O;have h5:B9^a.length*f=B9^(a.length-n)*(B9^n*f):=by rw[<-fq,<-fI];congr 2;omega
  rw[g]at h2;have h6:B9^(a.length-n)*dv B9 (U.drop (a.length-n))<B9^(a.length-n)*(B9^n*f):=O;have h7:dv B9 (U.drop (a.length-n))<B9^n*f:=fi h6 (wg<|pow_pos Q8 (a.length-n));have h8:B9^n*f<=dv B9 b*f:=aw d O;rw[show a.length+1-(n+1)=a.length-n by omega,hv];omega
 h:=by
  rw[az wu,Tg,iB,iB,iA,g]
def Du.zero{v:List Int}(i:Du a v f n)(b:DG B9 v)(hv:v.length=n):dv B9 (i.U.drop (i.k+n))=0:=by
 have:=Zu Q8 b;rw[hv]at this;exact Cs OL i.du (iC i.lt this)
def Du.j7{v:List Int}(i:Du a v f (m+2))(b:DG B9 v)(c:0<Qg v (m+1))(hv:v.length=m+2)(hk:0<i.k):Vk B9 ((i.U.drop (i.k-1)).take (m+3)) v m/\dv B9 (i.U.drop (i.k-1))=dv B9 ((i.U.drop (i.k-1)).take (m+3)):=by
 have hz:=i.zero b hv;have h:=i.le;have d:=i.lu;have e:dv B9 (i.U.drop (i.k-1))=dv B9 ((i.U.drop (i.k-1)).take (m+3)):=by
  have:=X8 B9 (i.U.drop (i.k-1)) (m+3);rw[aE,show i.k-1+(m+3)=i.k+(m+2) by omega,hz]at this;simpa using this
 refine⟨⟨(i.du.drop _).take _,b,wv,hv,c,?_⟩,e⟩;rw[<-e,XC O,Yp,show i.k-1+1=i.k by omega];have hd:=i.du.Qg Q8 (i.k-1);have g:=i.lt;have:B9*dv B9 (i.U.drop i.k)<=B9*(dv B9 v-1):=ae O wj;rw[eB,fJ]at this;omega
def Du.next{a v:List Int}{f:Int}{n:Nat}(i:Du a v f n)(hk:0<i.k)(j:0<n){b:List Int}{t:Int}(t0:0<=t)(c:t<B9)(h1:DG B9 b)(h2:dv B9 (b.drop (i.k-1))<dv B9 v)(h3:dv B9 b=dv B9 i.U-B9^(i.k-1)*(t*dv B9 v))(h4:b.length=i.U.length):Du a v f n where
 k:=i.k-1
 U:=b
 Q:=i.Q.set (i.k-1) t
 le:=wg i.le
 lu:=by rw[h4,i.lu]
 lq:=by rw[ao,i.lq]
 du:=h1
 dq:=i.dq.set _ t0 c
 lt:=h2
 h:=by
  have g:=i.le;have d:=i.lq;rw[h3,XC (l:=i.Q.set (i.k-1) t) (by rw[ao];omega),Yp,WD O,if_pos rfl,aX O,show i.k-1+1=i.k by omega,i.h];have e:B9^i.k=B9^(i.k-1)*B9:=by rw[<-bA];congr 1;omega
  rw[e];generalize B9^(i.k-1)=p;generalize dv B9 (i.Q.drop i.k)=q;generalize dv B9 i.U=u;generalize dv B9 v=y;generalize B9=B
  grind
theorem Du.stop{v:List Int}(i:Du a v f n)(hk:i.k=0)(w:DG B9 b)(x:DG B9 a)(hv:dv B9 v=dv B9 b*f)(h1:1<=f)(hb:0<dv B9 b)(d:DG B9 v)(lv:v.length=n):
  dv B9 i.Q=dv B9 a/dv B9 b/\dv B9 (i.U.take n)=f*(dv B9 a%dv B9 b):=by
 have h:=i.h;have lt:=i.lt;rw[hk,bH]at lt;have hz:=i.zero d lv;rw[hk,aG]at hz;have e0:dv B9 (i.U.take n)=dv B9 i.U:=by
  rw[X8 B9 i.U n,hz];simp
 rw[hk,bH,Int.pow_zero,bh,hv]at h;rw[hv]at lt;have u0:=Qp Q8 i.du;rw[e0];have j:dv B9 i.U=f*(dv B9 a-dv B9 b*dv B9 i.Q):=by rw[eB];grind
 have c:f*(dv B9 a-dv B9 b*dv B9 i.Q)<f*dv B9 b:=by rw[<-j,aR f (dv B9 b)];exact lt
 have m:dv B9 a-dv B9 b*dv B9 i.Q<dv B9 b:=fi c O;have o:0<=dv B9 a-dv B9 b*dv B9 i.Q:=by
  rcases bQ (dv B9 a-dv B9 b*dv B9 i.Q) 0 with g | g
  ·have:f*(dv B9 a-dv B9 b*dv B9 i.Q)<=f*(-1):=ae O O;omega
  exact g
 have q:dv B9 a/dv B9 b=dv B9 i.Q:=ZQ hb (by rw[aR];omega) (by rw[eX,bh,aR];omega);refine⟨q.symm,?_⟩;rw[j];have:=iD (dv B9 a) (dv B9 b);rw[this,q]
section
variable[Dr][df:Df]{P:Program}{Q:Exit->Act->World->Prop}{N:Nat}{m:Sl}{ops:Array Oper}{l:List Oper}{w0:World}{F0:Gs}{bs:List (Nat×Obj)}{G:Gs->Prop}{ty:TypeId}{pos:String}{aft:Array Edge}
theorem Hb{d:Nat}{t e:TypeId}{sz:Nat}{g:Bool}(ht:P.underlying t=some (.slice e))(h:Zm P e=some (g,sz))(k:∀b,JS P ops Q l N ((d,.slice (some ⟨b,0,none⟩) 0 0)::m) ⟨w0,F0,(b,.cells #[] e (0,0))::bs,G⟩)(hu:Gz e=true:=by rfl)(hd:Jx N (some d)=true:=by rfl):
  JS P ops Q (⟨some d,.buildSlice t 0 #[],ty,pos,aft,none⟩::l) N m ⟨w0,F0,bs,G⟩:=λa w ha f=>wpList_plain rfl λK o=>by
 refine upon_value (v:=.slice (some ⟨w.heap.size,0,none⟩) 0 0) (w':=w.alloc (.cells #[] e)) ?_ (o _ _ (k _ _ _ (ha.put hd _) (f.alloc _ (ZB hu))));have c:(fR t 0 #[]).run P w = .ok (.slice (some ⟨w.heap.size,0,none⟩) 0 0) (w.alloc (.cells #[] e)):=by
  have j:iE (λi=>some (i*sz,sz)) (Array.map (λx=>(#[]:Array Value)[x%(#[]:Array Value).size]!) (Array.range 0)) []=some #[]:=by simp[iE]
  simp only[fR,eR,run_underlying ht,bV,Y0 h,ix,if_neg (show ¬0>2^24 by omega),eQ,if_true,j,newRow,run_newObj];rfl
 simp[execOp,c]
theorem Uu{T e b:TypeId}{sz:Nat}{v:Value}{ob:List (Nat×Obj)}{S:World->Prop}(hx:ev m x=some v)(hr:Q2 b sz v n cs ob)(a:GZ P T=some e):Qt P N m S (.call ⟨.builtin .len,#[x],#[T]⟩) ty (.int .i64 n):=by
 cases hr with
 |nil=>exact Qb hx a
 |some=>exact Qb hx a
theorem Q2.big{T:TypeId}{sz:Nat}{v:Value}{ob:List (Nat×Obj)}(hr:Q2 T sz v n cs ob)(a:0<n):∃b cap rest,v = .slice (Option.some ⟨b,0,Option.none⟩) n cap/\ob=[(b,.cells (cs++rest).toArray T (0,0))]/\n<=cap:=by
 cases hr with
 |nil=>exact absurd a (Nat.lt_irrefl 0)
 |some h1 h2 h3 h4=>exact⟨_,_,_,rfl,rfl,h3⟩
theorem Src.QJy{sz b off:Nat}{news:List Value}(hr:∀F,G F->Qz F (some ⟨b,off,none⟩) k sz news)(hk:0<k)(d:news.length=k*sz):Src ⟨w0,F0,bs,G⟩ sz (.slice (.some ⟨b,off,none⟩) k c) k news :=
 ⟨d,.inr ⟨_,_,rfl,λw a j v hv=>by rw[Kl];exact K8 a hr hk hv⟩⟩
end
theorem JG.own{b:Nat}{T:TypeId}(h:F b=some ((l.map JJ++rest).toArray,T))(a:l.length=n)(d:n<=c):JG F ⟨some ⟨b,0,none⟩,n,c⟩ l:=by
 refine⟨⟨by simp[a],λ_=>⟨b,0,_,T,rfl,h,λj u hu=>?_⟩⟩,a,d⟩;have f:j<(l.map JJ).length:=by rcases bI j (l.map JJ).length with g | g;exact g;rw[List.getElem?_eq_none g]at hu;cases hu
 rw[aG,List.getElem?_toArray,List.getElem?_append,if_pos f];exact hu
theorem JG.QJ5{b:Nat}{T:TypeId}(h:F b=some ((l.map JJ).toArray,T))(d:l.length=n)(a:n<=c):JG F ⟨some ⟨b,0,none⟩,n,c⟩ l:=JG.own (rest:=[]) (by rw[fZ];exact h) d a
def JG.one{b:Nat}{x:Int}{T:TypeId}(h:F b=some (([af .i64 x]:List Value).toArray,T)):JG F ⟨some ⟨b,0,none⟩,1,1⟩ [x]:=⟨Qz.of h rfl,rfl,ak _⟩
def JG.take{q:Option Addr}(h:JG F ⟨q,n,c⟩ l)(hk:k<=n):JG F ⟨q,k,c⟩ (l.take k):=by
 have a:=h.2.1;have hc:=h.2.2;dsimp only at a hc;exact⟨h.1.take a hk,wv,by show k<=c;omega⟩
def Vc{m:List Int}(b:DG B9 l)(hm:DG B9 m)(a:NZ l)(h:dv B9 l<=dv B9 m):l.length<=m.length:=by
 rcases bI m.length l.length with g | g
 ·have:=XX OL hm b a g;omega
 exact g
def I1(x:Int):dv B9 [x]=x:=by simp[dv]
def xQ{x r t:Int}(a:0<f)(h:f*x=f*r+t)(h0:0<=t)(h1:t<f):r=x:=by
 have e:t=f*(x-r):=by rw[eB];omega
 rcases eP (x-r) 0 with g | g | g
 ·have:f*(x-r)<=f*(-1):=ae O O;omega
 ·omega
 have:f*1<=f*(x-r):=ae O O;omega
def QAh(a b:List Int)(c:(Sr×List Int)×(Sr×List Int))(F:Gs):Prop :=
 (JG F c.1.1 c.1.2/\DG B9 c.1.2/\NZ c.1.2/\dv B9 c.1.2=dv B9 a/dv B9 b)/\(JG F c.2.1 c.2.2/\DG B9 c.2.2/\NZ c.2.2/\dv B9 c.2.2=dv B9 a%dv B9 b)
theorem gY(nb:b.length=1)(f:DG B9 b)(c:(Sr×List Int)×Int){k:Nat}
  (h:JG F c.1.1 c.1.2/\DG B9 c.1.2/\NZ c.1.2/\0<=c.2/\c.2<Qg b 0/\dv B9 a=Qg b 0*dv B9 c.1.2+c.2/\c.1.2.length<=a.length) (d:JG F ⟨some ⟨k,0,none⟩,(Q3 [c.2]).length,1⟩ (Q3 [c.2])) :
  QAh a b ((c.1.1,c.1.2),(⟨some ⟨k,0,none⟩,(Q3 [c.2]).length,1⟩,Q3 [c.2])) F:=by
 obtain⟨h1,h2,h3,h4,h5,h6,_⟩:=h;have e:dv B9 b=Qg b 0:=by
  obtain⟨x,rfl⟩:=List.length_eq_one_iff.1 nb;simp[dv,Qg]
 have g:=f.Qg Q8 0;refine⟨⟨h1,h2,h3,?_⟩,d,(DG.cons h4 O (DG.nil _)).Q3,Xa _,?_⟩
 ·show dv B9 c.1.2=_;rw[e];exact(ZQ O (by rw[aR];omega) (by rw[eX,bh,aR];omega)).symm
 show dv B9 (Q3 [c.2])=_;rw[XB,I1,e,Zo (q:=dv B9 c.1.2) (by rw[aR];omega) (by rw[eX,bh,aR];omega),aR];omega
structure QLI(a:List Int)(f:Int) where
 U:List Int
 v:Value
 ob:List (Nat×Obj)
 le:U.length<=a.length+1
 du:DG B9 U
 h:dv B9 U=dv B9 a*f
 hr:Q2 3 1 v U.length (U.map JJ) ob
structure QLG(U v:List Int)(j:Nat)(t:Int) where
 i:Nat
 U':List Int
 br:Int
 le:i<=v.length
 h:RR B9 U v j t i U' br
structure QLT(U v:List Int)(j n:Nat) where
 i:Nat
 U':List Int
 c:Int
 le:i<=n
 h:Ig.Eg B9 U v j n i U' c
@[reducible] def QJh (c:(Sr×List Int)×(Sr×List Int)):Value:=.tuple #[.slice c.1.1.q c.1.1.n c.1.1.cap,.slice c.2.1.q c.2.1.n c.2.1.cap]
set_option maxHeartbeats 4000000 in
theorem Wz(hF:Fits F w)(hA:JG F ra a)(hB:JG F rb b)(da:DG B9 a)(db:DG B9 b)(za:NZ a)(zb:NZ b)(hb:0<dv B9 b)(la:a.length<=10000000)(lb:b.length<=10000000):
  QU prog 109 [ra.v,rb.v] w F QJh (λc F=>QAh a b c F):=by
 obtain⟨q,n,c⟩:=ra;obtain⟨q',n',c'⟩:=rb;have na:=hA.2.1;have nb:=hB.2.1;dsimp only at na nb;have h9:B9=1000000000:=rfl;have nb0:0<n':=by
  rcases aA n' with g | g
  ·rw[g]at nb;rw[aj nb]at hb;simp at hb
  exact g
 dsimp only[Sr.v];refine QU.go (G:=λF=>JG F ⟨q,n,c⟩ a/\JG F ⟨q',n',c'⟩ b) func109 hF ⟨hA,hB⟩ ?_;refine wA 11 I<|QL I (λ_ _ f k=>Wd f (ra:=⟨q,n,c⟩) (rb:=⟨q',n',c'⟩) k.1 (k.2) (da) (db) (za) (zb) O O) λ_=>QOm 3 I ?_
 refine QP I (λhc=>?_) λhc=>?_
 ·have hlt:dv B9 a<dv B9 b:=by have:=QOW hc;unfold ZS at this;split at this;assumption;split at this<;>omega
  refine wA 8 I ?_;exact Xm (((⟨none,0,0⟩,[]),(⟨q,n,c⟩,a)):(Sr×List Int)×(Sr×List Int)) I (wO I I) (rfl) λF h9=>⟨⟨⟨Qz.nil F _ _,rfl,ak _⟩,DG.nil _,by simp[NZ],by rw[Tg];exact(Int.ediv_eq_zero_of_lt (Qp Q8 da) hlt).symm⟩,h9.1.1,da,za,(Int.emod_eq_of_lt (Qp Q8 da) hlt).symm⟩
 have hge:dv B9 b<=dv B9 a:=by have:=QOX hc;unfold ZS at this;split at this;exact absurd this wj;omega
 refine QOn 6 I<|QA (Qb I Qd)<|QOm 3 I ?_
 refine QP I (λhc=>?_) λhc=>?_
 ·have hn1:n'=1:=wg<|QOW hc
  subst hn1;obtain⟨f1,_⟩:=TC (n:=0) db zb nb;have bx:=db.Qg Q8 0;have d0:=bx.2;refine wA 4 I<|QA (Qs (n:=1) (0) (λF h9=>(h9.1.2).1) rfl wM Qd Qo O)<|QA (Qu (n:=1) ((0)*1) (λF h9=>(h9.1.2).1) O rfl Qo (JN (o:=b) O))<|QL I (λ_ _ f k=>Eu f (ra:=⟨q,n,c⟩) k.1.1 (da) O O (d0)) λc37=>QOm 8 I<|XD _ (λ_ _ f k=>k.2.2) λp37=>wA 3 I<|JC I (Jc Qd) Qo MK I I λb42=>QL I (λ_ _ f k=>Wx f (r:=⟨some ⟨b42,0,none⟩,1,1⟩) (JG.one k.2) wu) λc43=>QOm 5 I ?_
  exact Xm (((c37.1.1,c37.1.2),(⟨some ⟨b42,0,none⟩,(Q3 [c37.2]).length,1⟩,Q3 [c37.2])):(Sr×List Int)×(Sr×List Int)) I (wO I I) (rfl) λF h9=>gY nb db c37 h9.1.1.2 h9.2
 have hn2:n'≠1:=λe=>QOX hc O;obtain⟨m,rfl⟩:∃m,n'=m+2:=⟨n'-2,O⟩;obtain⟨f1,f2,f3,f4⟩:=TC (n:=m+1) db zb nb;have bx:=db.Qg Q8 (m+1);rw[h9]at bx f2 f3 f4;have d1f:DG B9 [1000000000/(Qg b (m+1)+1)]:=DG.cons O f3 (DG.nil _);refine QOn 6 I<|QA (Qb I Qd)<|QA (Jv I I O)<|QA (Qs (n:=(m+2)) (m+1) (λF h9=>(h9.1.2).1) rfl wM Qd Qo O)<|QA (Qu (n:=(m+2)) ((m+1)*1) (λF h9=>(h9.1.2).1) O rfl Qo (JN (o:=b) O))<|QA (Qk I I O)<|QA (WJ I I O O O)<|JC I (Jc Qd) Qo MK I I λb52=>QOm 7 I ?_
 refine QL I (λ_ _ f k=>Wy f (ra:=⟨q',m+2,c'⟩) (rb:=⟨some ⟨b52,0,none⟩,1,1⟩) k.1.1.2 (JG.one k.2) (db) (d1f) O (by first | omega | (simp;done) | (simp;omega))) (λc55=>?_);rcases c55 with ⟨v55,E⟩;dsimp only;refine J5 _ (λw F hF ⟨⟨⟨⟨hA,hB⟩,_⟩,hs52⟩,⟨h55,h55p⟩⟩=>aQ h55.2 h55p) (λp55=>wQ rfl<|QG ?_);obtain⟨⟨n55,c55⟩,X,e55,z55,m55⟩:=p55;rw[I1]at e55;have L:E.length=m+2:=zR db zb nb X z55 e55 f2 f4;obtain⟨qv,nv,cv⟩:=v55;dsimp only at n55 c55 ⊢;obtain rfl:nv=m+2:=O;have zv:0<Qg E (m+1):=wg ((TC (n:=m+1) X z55 L).1);have hlab:b.length<=a.length:=Vc db da zb hge;refine wA 2 I<|QA (Qb I Qd)<|QOm 5 I<|Hb (Jc Qd) Qo λb58=>wB 2 I ?_
 refine QL I (λ_ _ f k=>Wy f (ra:=⟨q,n,c⟩) (rb:=⟨some ⟨b52,0,none⟩,1,1⟩) k.1.1.1.1 (JG.one k.1.2) (da) (d1f) O (by first | omega | (simp;done) | (simp;omega))) (λc61=>?_);rcases c61 with ⟨v61,l61⟩;dsimp only;refine J5 _ (λw F hF ⟨⟨⟨⟨⟨hA,hB⟩,_⟩,hs52⟩,⟨h55,h55p⟩⟩,⟨h61,h61p⟩⟩=>aQ h61.2 h61p) (λp61=>?_);obtain⟨⟨n61,c61⟩,d61,e61,z61,m61⟩:=p61;rw[I1]at e61;have hpos:0<l61.length:=by
  rcases aA l61.length with g | g
  ·rw[aj g,Tg]at e61;have:0<dv B9 a*(1000000000/(Qg b (m+1)+1)):=Int.mul_pos O O;omega
  exact g
 obtain⟨qa,na',ca⟩:=v61;dsimp only at n61 c61 ⊢;refine J5 _ (λ_ _ f h=>h.2.1.1.ptr (by dsimp only;omega)) (λhq=>?_);obtain⟨qab,qao,hq⟩:=hq;dsimp only at hq;subst hq;simp only[ay]at m61;refine Z1 (bs1:=[]) (ob:=[(b58,.cells #[] 3 (0,0))]) (n:=0) (k:=na') (sz:=1) (olds:=[]) (news:=l61.map JJ) rfl rfl Qd Qo MK rfl EV (Q2.some (l:=[]) (rest:=[]) rfl rfl (ak _) (aC _)) (Src.QJy (λF h=>h.2.1.1) O wv) O O (λv hv=>by obtain⟨x,_,rfl⟩:=List.mem_map.1 hv;rfl) (λv62 ob62 hr62=>QOm 5 I<|Jf (ι:=QLI a (1000000000/(Qg b (m+1)+1))) [(0,_),(8,_),(9,_),(10,_)] (λi=>[(11,i.v)]) (λi=>i.ob) (λi F=>True) (λi=>a.length+1-i.U.length) (⟨l61,v62,ob62,O,d61,e61,by rw[n61];simpa using hr62⟩) wV wS QNG wy λi=>?_);have hle:=i.le;refine wA 4 I<|QA (Uu I i.hr Qd)<|QMu I<|QA (Qb I Qd)<|QA (Qk I I O)<|QOm 3 I ?_
 refine QP I (λhc=>?_) λhc=>?_
 ·refine QOn 5 I<|JC I (Jc Qd) Qo MK I I λb70=>?_
  refine Z1 (bs1:=[]) (ob:=i.ob) (k:=1) (sz:=1) (news:=[.int .i64 0]) I I Qd Qo MK I EV i.hr (Src.row (off:=0) w8 (λj v hv=>by rw[aG];show([.int .i64 0].toArray)[j]?=some v;rw[List.getElem?_toArray];exact hv) rfl) O O (Zd wS) (λv71 ob71 hr71=>?_);refine wB 2 I<|Qf ?_
  exact Qh (⟨i.U++[0],v71,ob71,by have:=QOW hc;simp;omega,i.du.append (DG.cons wj wj (DG.nil _)),by rw[XO,i.h];simp,by simpa[JJ]using hr71⟩) (by have:=QOW hc;show a.length+1-(i.U++[0]).length<a.length+1-i.U.length;rw[ah,ay];omega) wW QNG λF h=>⟨h.1.1,trivial⟩
 refine Q7 ?_;refine QG ?_;have hle0:=i.le;have hU:i.U.length=a.length+1:=wg<|QOX hc
 obtain⟨U0,vU,obU,hle0,du0,hU0,hr0⟩:=i;dsimp only at hU hle0 hU0 ⊢;rw[hU]at hr0;obtain⟨bu,cu,rest,rfl,rfl,hcu⟩:=hr0.big O;refine wA 2 I<|QA (Qb I Qd)<|QMu I<|QA (Jv I I O)<|Gf (n:=a.length+1-(m+2)) (bytes:=8) wM wM Qd Qo MK I EV O O λbq=>?_
 rw[show Jz [af .i64 0] (a.length+1-(m+2))=(bS (a.length+1-(m+2)) (0:Int)).map JJ by rw[Wt];simp[JJ]];refine X5 (fH _ _ _)<|QOm 7 I<|QA (Qb I Qd)<|QMu I<|QA (Jv I I O)<|QA (Jv I I O)<|wQ I<|QQ<|Jf (ι:=Du a E (1000000000/(Qg b (m+1)+1)) (m+2)) [(8,_),(9,_),(10,_),(11,_),(12,_)] (λd=>[(13,.int .i64 ((d.k:Int)-1))]) (λd=>[(bu,.cells (d.U.map JJ++rest).toArray 3 (0,0)),(bq,.cells (d.Q.map JJ).toArray 3 (0,0))]) (λd F=>True) (λd=>d.k) (Du.start da db zb nb e55 f2 du0 hU hU0 O) wW ⟨(congrArg (λz:Int=>some (af .i64 z)) (by simp only[Du.start];omega)),trivial⟩ QNG wy λd=>?_
 have hle2:=d.le;have lu2:=d.lu;have lq2:=d.lq;refine wA 7 I ?_;refine QP I (λhc=>?_) λhc=>?_
 ·have hk0:0<d.k:=wg<|QOW hc
  rw[show((d.k:Int)-1)=((d.k-1:Nat):Int) by omega];obtain⟨hst,hwe⟩:=d.j7 X zv L hk0;have hz0:=d.zero X L;refine QOn 9 I<|Xv (bs1:=_) rfl (aK _) (xP (rest:=rest) (U:=d.U) (v:=E) (j:=(d.k-1)) (m:=m) (rv:=⟨qv,m+2,cv⟩) lu2 O O (λF h9=>h9.1.1.1.2.1) hst) λK=>J5 _ (λ_ _ f h=>h.2) λg89=>?_
  obtain⟨t0,t1,t2,t3⟩:=g89;rw[<-hwe]at t2 t3;refine QOm 15 I<|Jf (ι:=QLG d.U E (d.k-1) K) [(8,_),(9,_),(10,_),(11,_),(12,_),(13,_),(14,_)] (λy=>[(15,.int .i64 (y.br)),(16,.int .i64 ((y.i:Nat):Int))]) (λy=>[(bu,.cells (y.U'.map JJ++rest).toArray 3 (0,0)),(bq,.cells (d.Q.map JJ).toArray 3 (0,0))]) (λy F=>True) (λy=>E.length-y.i) (⟨0,d.U,0,aC _,RR.start wj d.du _ _⟩) wY wT QNG wy λy=>?_
  have hle3:=y.le;have lU3:=y.h.len;have br0:=y.h.br0;have br1:=y.h.br1;rw[h9]at br1;refine wA 8 I ?_;refine QP I (λhc=>?_) λhc=>?_
  ·have hi3:y.i<m+2:=wg<|QOW hc
   have bd:=vt OL ⟨t0,t1⟩ (X.Qg Q8 y.i) ⟨y.h.br0,y.h.br1⟩;simp only[h9]at bd;have bu3:=y.h.dg.Qg Q8 ((d.k-1)+y.i);rw[h9]at bu3;have hd3:Qg y.U' ((d.k-1)+y.i)=Qg d.U ((d.k-1)+y.i):=Za y.h.hi (ak _);refine QOn 9 I<|QA (Qs (n:=(m+2)) (y.i) (λF h9=>(h9.1.1.1.1.1.2.1).1) rfl rfl Qd Qo O)<|QA (Qu (n:=(m+2)) ((y.i)*1) (λF h9=>(h9.1.1.1.1.1.2.1).1) O rfl Qo (JN (o:=E) O))<|QA (We I I O)<|QMu I<|QA (Qk I I O)<|QOm 8 I<|QA (Qk I I O)<|QA (Ql (i:=(d.k-1)+y.i) rfl wM Qd Qo O)<|QA (YI (c:=(y.U').map JJ++rest) (T':=3) rfl Qo .here (Ya (by first | omega | (simp only[ao];omega))))<|QMu I<|QA (KV I I O O)<|QA (Jv I I O)<|QOm 6 I<|QA (WJ I I O O O)<|QOm 6 I ?_
   refine QOm 4 I ?_;refine QP I (λhc=>?_) λhc=>?_
   ·have hx:=QOW hc;refine wR I<|QA (Qk I I O)<|QOm 5 I<|QA (Qk I I O)<|QOm 7 I<|QA (Qk I I O)<|QMu I<|QA (Ql (i:=(d.k-1)+y.i) rfl wM Qd Qo O)<|QV (vs:=[_]) I I I Qo I .here (Gw (by first | omega | (simp only[ao];omega)) (((Qg (y.U') ((d.k-1)+y.i)-(((K*Qg E (y.i))+y.br)%1000000000))+1000000000))) wS<|QE<|Qf<|QOo 3 I<|QA (Qk I I O)<|wB 2 I ?_
    exact Qh (⟨y.i+1,((y.U').set ((d.k-1)+y.i) (((Qg (y.U') ((d.k-1)+y.i)-(((K*Qg E (y.i))+y.br)%1000000000))+1000000000))),((((K*Qg E (y.i))+y.br)/1000000000)+1),O,y.h.step O (by rw[h9];omega) (by rw[h9];omega) (by rw[h9,<-hd3];omega)⟩) (by show E.length-(y.i+1)<E.length-y.i;omega) wa QNG λF h=>⟨h.1,trivial⟩
   have hx:=QOX hc;refine QOn 6 I<|QA (Qk I I O)<|QMu I<|QA (Ql (i:=(d.k-1)+y.i) rfl wM Qd Qo O)<|QV (vs:=[_]) I I I Qo I .here (Gw (by first | omega | (simp only[ao];omega)) ((Qg (y.U') ((d.k-1)+y.i)-(((K*Qg E (y.i))+y.br)%1000000000)))) wS<|QE<|Qf<|QOo 3 I<|QA (Qk I I O)<|wB 2 I ?_
   exact Qh (⟨y.i+1,((y.U').set ((d.k-1)+y.i) ((Qg (y.U') ((d.k-1)+y.i)-(((K*Qg E (y.i))+y.br)%1000000000)))),(((K*Qg E (y.i))+y.br)/1000000000),O,y.h.step O (by rw[h9];omega) (by rw[h9];omega) (by rw[h9,<-hd3];omega)⟩) (by show E.length-(y.i+1)<E.length-y.i;omega) wa QNG λF h=>⟨h.1,trivial⟩
  have hi3:y.i=m+2:=wg<|QOX hc
  refine Q7 ?_;refine QG ?_;have hs3:RR B9 d.U E (d.k-1) K (m+2) y.U' y.br:=by have:=y.h;rw[hi3]at this;exact this
  have hd3:Qg y.U' ((d.k-1)+(m+2))=Qg d.U ((d.k-1)+(m+2)):=Za hs3.hi (ak _);have hS:=hs3.stop OL L O;rw[<-hd3]at hS;have bu4:=d.du.Qg Q8 ((d.k-1)+(m+2));rw[h9,<-hd3]at bu4;have htp:=hS.tp;have hz1:dv B9 (d.U.drop ((d.k-1)+(m+2)+1))=0:=by rw[show(d.k-1)+(m+2)+1=d.k+(m+2) by omega];exact hz0
  refine wA 4 I<|QA (Qk I I O)<|wB 3 I<|QA (Qk I I O)<|QA (Ql (i:=(d.k-1)+(m+2)) I wM Qd Qo O)<|QA (YI (c:=(y.U').map JJ++rest) (T':=3) rfl Qo .here (Ya (by first | omega | (simp only[ao];omega))))<|QMu I<|QA (Jv I I O)<|QA (Ql (i:=(d.k-1)+(m+2)) I wM Qd Qo O)<|QV (vs:=[_]) I I I Qo I .here (Gw (by first | omega | (simp only[ao];omega)) ((Qg (y.U') ((d.k-1)+(m+2))-y.br))) wS<|QOm 8 I<|QA (Qk I I O)<|QA (Ql (i:=(d.k-1)+(m+2)) I wM Qd Qo O)<|QA (YI (c:=(((y.U').set ((d.k-1)+(m+2)) ((Qg (y.U') ((d.k-1)+(m+2))-y.br)))).map JJ++rest) (T':=3) rfl Qo .here (Ya (by first | omega | (simp only[ao];omega))))<|QOm 3 I ?_
  refine QP I (λhc=>?_) λhc=>?_
  ·have Y:Qg y.U' ((d.k-1)+(m+2))-y.br<0:=by have:=QOW hc;rw[htp]at this;exact this
   refine wR I<|QA (Jv I I O)<|QOm 15 I<|Jf (ι:=QLT (y.U'.set ((d.k-1)+(m+2)) (Qg y.U' ((d.k-1)+(m+2))-y.br)) E (d.k-1) (m+2)) [(8,_),(9,_),(10,_),(11,_),(12,_),(13,_),(14,_)] (λH=>[(19,.int .i64 (H.c)),(20,.int .i64 ((H.i:Nat):Int))]) (λH=>[(bu,.cells (H.U'.map JJ++rest).toArray 3 (0,0)),(bq,.cells (d.Q.map JJ).toArray 3 (0,0))]) (λH F=>True) (λH=>m+2-H.i) (⟨0,_,0,aC _,Eg.start hS.dg⟩) wY wT QNG wy λH=>?_
   have hle4:=H.le;have lU4:=H.h.len;rw[ao]at lU4;have c40:=H.h.c0;have c41:=H.h.c1;refine wA 8 I ?_;refine QP I (λhc=>?_) λhc=>?_
   ·have hi4:H.i<m+2:=wg<|QOW hc
    have bu5:=H.h.Qg OL hi4;have bv5:=X.Qg Q8 H.i;rw[h9]at bu5 bv5;have hd4:=Za H.h.hi (ak _);refine QOn 5 I<|JO QNG mixed wi<|QK (QC I)<|QK (QC I)<|QK (QC I)<|QK (Qk I I O)<|QK (Ql (i:=(d.k-1)+H.i) rfl wM Qd Qo O)<|QK (YI (c:=(H.U').map JJ++rest) (T':=3) rfl Qo .here (Ya (by first | omega | (simp only[ao];omega))))<|QK (QC I)<|QK (QC I)<|QK (Qs (n:=(m+2)) (H.i) (λF h9=>(h9.1.1.1.1.1.1.2.1).1) rfl rfl Qd Qo O)<|QK (Qu (n:=(m+2)) ((H.i)*1) (λF h9=>(h9.1.1.1.1.1.1.2.1).1) O rfl Qo (JN (o:=E) O))<|QK (Qk I I O)<|QK (QC I)<|QK (Qk I I O)<|QK (QF I)<|Qw<|QOo 6 I<|QA (Qk I I O)<|QMu I<|QA (KV I I O O)<|QA (Ql (i:=(d.k-1)+H.i) rfl wM Qd Qo O)<|QV (vs:=[_]) I I I Qo I .here (Gw (by first | omega | (simp only[ao];omega)) ((((Qg (H.U') ((d.k-1)+H.i)+Qg E (H.i))+H.c)%1000000000))) wS<|QOm 4 I<|QA (WJ I I O O O)<|wB 2 I<|Qf<|QD ?_
    refine wA 2 I<|QA (Qk I I O)<|wB 2 I ?_
    exact Qh (⟨H.i+1,((H.U').set ((d.k-1)+H.i) ((((Qg (H.U') ((d.k-1)+H.i)+Qg E (H.i))+H.c)%1000000000))),(((Qg (H.U') ((d.k-1)+H.i)+Qg E (H.i))+H.c)/1000000000),O,H.h.step hi4 (by rw[ao];omega) (by rw[h9];omega) O (by rw[h9,<-hd4];omega)⟩) (by show m+2-(H.i+1)<m+2-H.i;omega) wa QNG λF h=>⟨h.1,trivial⟩
   have hi4:H.i=m+2:=wg<|QOX hc
   refine Q7 ?_;have hA4:Ig.Eg B9 (y.U'.set ((d.k-1)+(m+2)) (Qg y.U' ((d.k-1)+(m+2))-y.br)) E (d.k-1) (m+2) (m+2) H.U' H.c:=by have:=H.h;rw[hi4]at this;exact this
   have hd5:Qg H.U' ((d.k-1)+(m+2))=Qg y.U' ((d.k-1)+(m+2))-y.br:=by rw[Za hA4.hi (ak _)];exact htp
   have hS5:Tw B9 d.U E (d.k-1) (m+2) K (y.U'.set ((d.k-1)+(m+2)) (Qg y.U' ((d.k-1)+(m+2))-y.br)) (Qg H.U' ((d.k-1)+(m+2))):=by rw[hd5];exact hS
   obtain⟨g1,g2,g3,g4,g5⟩:=hA4.QB2 OL hS5 d.du X L hz1 O (by rw[hd5];exact Y) t2;have lU4:=H.h.len;rw[ao]at lU4;have b5:Qg H.U' ((d.k-1)+(m+2))=Qg y.U' ((d.k-1)+(m+2))-y.br:=hd5;refine wA 4 I<|QA (Qk I I O)<|wB 3 I<|QA (Qk I I O)<|QA (Ql (i:=(d.k-1)+(m+2)) I wM Qd Qo O)<|QA (YI (c:=(H.U').map JJ++rest) (T':=3) rfl Qo .here (Ya (by first | omega | (simp only[ao];omega))))<|QMu I<|QA (Qk I I O)<|QA (Ql (i:=(d.k-1)+(m+2)) I wM Qd Qo O)<|QV (vs:=[_]) I I I Qo I .here (Gw (by first | omega | (simp only[ao];omega)) ((Qg (H.U') ((d.k-1)+(m+2))+H.c))) wS<|QOm 6 I<|QA (Ql (i:=(d.k-1)) I wM Qd Qo O)<|QV (vs:=[_]) I I I Qo I .u1 (Hg (by first | omega | (simp only[ao];omega)) ((K-1))) wS<|QE<|Qf<|QOo 3 I<|QA (Jv I I O)<|wB 2 I ?_
   exact Qh (d.next hk0 O (t:=K-1) g4 O g1 g2 g3 g5) (by show d.k-1<d.k;omega) wX QNG λF h=>⟨h.1.1.1.1,trivial⟩
  have Y:0<=Qg y.U' ((d.k-1)+(m+2))-y.br:=by have:=QOX hc;rw[htp]at this;omega
  obtain⟨g1,g2,g3⟩:=hS.QB2 OL O Y (by rw[h9];omega) t3;refine QOn 6 I<|QA (Ql (i:=(d.k-1)) I wM Qd Qo O)<|QV (vs:=[_]) I I I Qo I .u1 (Hg (by first | omega | (simp only[ao];omega)) (K)) wS<|QE<|Qf<|QOo 3 I<|QA (Jv I I O)<|wB 2 I ?_
  exact Qh (d.next hk0 O (t:=K) t0 t1 g1 g2 g3 hS.len) (by show d.k-1<d.k;omega) wX QNG λF h=>⟨h.1.1.1,trivial⟩
 have hk0:d.k=0:=wg<|QOX hc
 refine Q7 ?_;refine QG ?_;obtain⟨s1,s2⟩:=d.stop hk0 db da e55 f2 hb X L;have lt40:=Xc (d.U.take (m+2));rw[aq]at lt40;refine MH (b:=bu) .here<|MH (b:=bq) .here<|JO QNG mixed wi<|QK (QC I)<|QK (QC I)<|QK (MQ (m+2) rfl rfl rfl Qd Qo O)<|QZ I (λ_ _ f k=>Wx f (r:=⟨some ⟨bu,0,none⟩,m+2,cu⟩) ((JG.own k.1.2 d.lu hcu).take O) (by rw[aq];omega)) λc196=>QK (QC I)<|QK (Qs (n:=1) (0) (λF h9=>(Qz.of (n:=1) (sz:=1) h9.1.1.1.1.1.1.2 I)) I wM Qd Qo O)<|QK (Qu (n:=1) ((0)*1) (λF h9=>(Qz.of (n:=1) (sz:=1) h9.1.1.1.1.1.1.2 I)) O rfl Qo I)<|QZ I (λ_ _ f k=>Eu f (a:=Q3 (d.U.take (m+2))) (ra:=⟨some ⟨bu,0,none⟩,(Q3 (d.U.take (m+2))).length,cu⟩) k.2 ((d.du.take _).Q3) O (f2) (f3)) λc200=>QK (QC I)<|QK (Qi I I)<|QK (Qi I I)<|QK (QF I)<|QK (QF I)<|Qw<|QD<|wR I<|QL I (λ_ _ f k=>Wx f (r:=⟨some ⟨bq,0,none⟩,a.length+1-(m+2),a.length+1-(m+2)⟩) (JG.QJ5 k.1.1.2 d.lq (ak _)) O) λc204=>QOm 6 I ?_
 exact Xm (((⟨some ⟨bq,0,none⟩,(Q3 d.Q).length,a.length+1-(m+2)⟩,Q3 d.Q),(c200.1.1,c200.1.2)):(Sr×List Int)×(Sr×List Int)) I (wO I I) (rfl) λF h9=>⟨⟨h9.2,d.dq.Q3,Xa _,by show dv B9 (Q3 d.Q)=_;rw[XB];exact s1⟩,h9.1.2.1,h9.1.2.2.1,h9.1.2.2.2.1,xQ O (by rw[<-s2,<-XB];exact h9.1.2.2.2.2.2.2.1) h9.1.2.2.2.2.1 h9.1.2.2.2.2.2.1⟩
section
variable{P:Program}{N:Nat}{m:Sl}{S:World->Prop}{ty:TypeId}
def SV(P:Program)(T:TypeId):Bool:=match P.underlying T with
 |some .bool=>true
 |_=>false
def pz{T:TypeId}(h:SV P T=true):P.underlying T=some .bool:=by
 unfold SV at h;split at h
 ·assumption
 cases h
theorem N1{T:TypeId}(c:SV P T=true)(a b:Bool)(w:World):(Op.equal T (.bool a) (.bool b)).run P w = .ok (a==b) w:=by
 have e:∃n,Op.maxDepth=n+1:=⟨Op.maxDepth-1,wj⟩;obtain⟨n,e⟩:=e;unfold Op.equal;rw[e];unfold Op.equalIn;simp[run_underlying (pz c)]
theorem QBE{T:TypeId}{a b:Bool}(c:SV P T=true)(hx:ev m x=some (.bool a))(hy:ev m y=some (.bool b)):Qt P N m S (.binOp .eql T x y yT) ty (.bool (a==b)):=λs w _ _ _ _ ha _=>by
 simp only[execOp,ha.ev hx,ha.ev hy,eqGuard,binOp,eR,eQ,bV,N1 c];rfl
theorem QBD{T:TypeId}{a b:Bool}(c:SV P T=true)(hx:ev m x=some (.bool a))(hy:ev m y=some (.bool b)):Qt P N m S (.binOp .neq T x y yT) ty (.bool (!(a==b))):=λs w _ _ _ _ ha _=>by
 simp only[execOp,ha.ev hx,ha.ev hy,eqGuard,binOp,eR,eQ,bV,N1 c];rfl
end
structure Ri where
 neg:Bool
 r:Sr
 l:List Int
@[reducible] def Ri.v (x:Ri):Value:=.agg #[.bool x.neg,.slice x.r.q x.r.n x.r.cap]
def H8(neg:Bool)(l:List Int):Int:=if neg=true then -dv B9 l else dv B9 l
def Yh(F:Gs)(x:Ri)(z:Int):Prop:=JG F x.r x.l/\DG B9 x.l/\NZ x.l/\z=H8 x.neg x.l/\(x.neg=true->0<dv B9 x.l)
def Yh.le{x:Ri}(h:Yh F x z)(k:Gs.le F F'):Yh F' x z:=⟨h.1.le k,h.2⟩
instance{x:Ri}{z:Int}: Up (λF=>Yh F x z):=⟨λk h=>Yh.le h k⟩
abbrev Hp(P:Program)(f:FuncId)(args:List Value)(w:World)(F:Gs)(z:Int):Prop:=QU P f args w F Ri.v λx F=>Yh F x z
structure Vm(neg:Bool)(l:List Int)(z:Int):Prop where
 dg:DG B9 l
 nz:NZ l
 e:z=H8 neg l
 ng:neg=true->0<dv B9 l
def Yh.p{x:Ri}(h:Yh F x z):Vm x.neg x.l z:=⟨h.2.1,h.2.2.1,h.2.2.2.1,h.2.2.2.2⟩
def Vm.v0{neg:Bool}(h:Vm neg l z):0<=dv B9 l:=Qp Q8 h.dg
def Vm.abs{neg:Bool}(h:Vm neg l z):(z.natAbs:Int)=dv B9 l:=by
 have:=h.v0;rw[h.e,H8];split<;>omega
theorem QKm(h:DG B9 l)(z:NZ l):l.length<=sz (dv B9 l):=by
 rcases aA l.length with g | g
 ·omega
 have h1:=De Q8 h z (by intro e;rw[e]at g;simp at g);have h2:=H6 (dv B9 l);have h3:=Qp Q8 h;rcases bI (sz (dv B9 l)) l.length with q | q
 ·exfalso;have h4:(2:Int)^(l.length-1)<=B9^(l.length-1):=by
   have:∀n:Nat,(2:Int)^n<=B9^n:=by
    intro n
    induction n with
    |zero=>simp
    |succ n ih =>
     rw[bA,bA];exact eD ih wj wj (Int.le_of_lt (pow_pos Q8 n))
   exact this _
  have h5:(2:Int)^sz (dv B9 l)<=2^(l.length-1):=Ig.YD wj O;have h6:((dv B9 l).natAbs:Int)<((2^sz (dv B9 l):Nat):Int):=Int.ofNat_lt.2 h2;rw[Int.natCast_pow]at h6;have:((2:Nat):Int)=2:=rfl;rw[this]at h6;omega
 exact q
def Vm.len{neg:Bool}(h:Vm neg l z):l.length<=sz z:=by
 have:=QKm h.dg h.nz;have e:sz (dv B9 l)=sz z:=by
  rw[<-h.abs];unfold sz;simp
 omega
def Vm.neg{neg:Bool}(h:Vm neg l z):neg=decide (z<0):=by
 have h0:=h.v0;cases neg with
 |true=>have:=h.ng I;have e:=h.e;simp only[H8,if_true]at e;symm;rw[decide_eq_true_eq];omega
 |false=>have e:=h.e;simp only[H8]at e;symm;rw[decide_eq_false_iff_not];simp at e;omega
def Vm.zero{neg:Bool}(h:Vm neg l z):l=[]↔z=0:=by
 have:=KD OL h.dg h.nz;have e:=h.abs;rw[<-this];omega
def jm(h:DG B9 l):(0<(Q3 l).length)↔0<dv B9 l:=by
 have h1:=KD OL h.Q3 (Xa l);rw[XB]at h1;have h2:=Qp Q8 h;rw[<-fm]at h1;omega
theorem Zn{r:Sr}{neg:Bool}(o:Fits F w)(a:JG F r l)(dg:DG B9 l)(j:l.length<=1000000000):Hp prog 111 [.bool neg,r.v] w F (H8 neg l):=by
 obtain⟨q,n,c⟩:=r;have h:=a.2.1;dsimp only[Sr.v]at h ⊢;have i:=Xc l;have g:=jm dg;have d:=Qp Q8 dg;refine QU.go (G:=λF=>JG F ⟨q,n,c⟩ l) func111 o a ?_;refine QNz<|Qe Z2 λb4=>QOm 5 I<|QL I (λ_ _ f k=>Wx f (r:=⟨q,n,c⟩) k (j)) λx=>QOm 7 I ?_
 refine QY (t:=8) rfl (λb=>?_) λb=>?_
 ·refine wB 3 I<|QA (Qb I Qd)<|wB 4 I<|QA (XM I zB Z2 (wP I I I))<|QV (vs:=[_,_]) I I I JE I .here .h2 wT<|QMt<|QW ?_
  exact QO ((⟨decide ((((Q3 l).length:Nat):Int)>0),⟨q,(Q3 l).length,c⟩,Q3 l⟩:Ri)) I (.Jo (c:=[_,_]) I JE .here .nil) (rfl) λF ⟨a,h6⟩=>⟨h6,dg.Q3,Xa _,by show H8 neg l=H8 (decide ((((Q3 l).length:Nat):Int)>0)) (Q3 l);rw[H8,H8,XB];cases neg<;>simp_all<;>omega,λm=>by show 0<dv B9 (Q3 l);rw[XB];simp_all⟩
 refine wB 5 I<|QA (XM I zB Z2 (wP I I I))<|QV (vs:=[_,_]) I I I JE I .here .h2 wT<|QMt<|QW ?_
 exact QO ((⟨false,⟨q,(Q3 l).length,c⟩,Q3 l⟩:Ri)) I (.Jo (c:=[_,_]) I JE .here .nil) (rfl) λF ⟨a,h6⟩=>⟨h6,dg.Q3,Xa _,by show H8 neg l=H8 false (Q3 l);rw[H8,H8,XB];cases neg<;>simp_all<;>omega,λm=>by show 0<dv B9 (Q3 l);rw[XB];simp_all⟩
theorem Oc:SV prog 4=true:=wi
def pc{x y:Int}(h:ZS x y>=0):y<=x:=by
 unfold ZS at h;split at h
 ·omega
 split at h<;>omega
def y8{x y:Int}(h:¬ZS x y>=0):x<=y:=by
 unfold ZS at h;split at h
 ·omega
 split at h<;>omega
theorem Uq{x:Ri}(y:Fits F w)(hx:Yh F x zx)(hz:sz zx<=1000000):Hp prog 108 [x.v] w F (-zx):=by
 obtain⟨b,⟨h,i,j⟩,d⟩:=x;have a:=hx.p;have m:=a.len;have o:=hx.1.2.1;have vx:=a.v0;dsimp only at a m o vx;dsimp only[Ri.v];have g : -zx=H8 (!b) d:=by rw[a.e];cases b<;>simp[H8]
 refine QU.go (G:=λF=>Yh F ⟨b,⟨h,i,j⟩,d⟩ zx) func108 y hx ?_;refine QNz<|Qv I (vs:=[_,_]) I λb1=>Qe Z2 λb2=>QMt<|QNz<|QA (QH I Yo Vt)<|QA (Qa I Vt .u1 .h1)<|QA (Jw I)<|QA (QH I XN Qx)<|QA (Qa I Qx .u1 (.skip .h1))<|QL I (λ_ _ f k=>Zn f (r:=⟨h,i,j⟩) (l:=d) (neg:=!b) k.1 (a.dg) O) λz=>QV (vs:=[_,_]) I I I JE I .here .h2 wT<|QMt<|QW ?_
 exact QO (z) rfl (.Jo (c:=[_,_]) I JE .here .nil) (rfl) λF h9=>(by rw[g];exact h9.2)
theorem WZ{x y:Ri}{g:Int}(hF:Fits F w)(hx:Yh F x zx)(hy:Yh F y g)(hzx:sz zx<=1000000)(hzy:sz g<=1000000):Hp prog 50 [x.v,y.v] w F (zx*g):=by
 obtain⟨E,⟨xq,xm,xc⟩,xl⟩:=x;have j:=hx.p;have lx:=j.len;have kx:=hx.1.2.1;have vx:=j.v0;dsimp only at j lx kx vx;obtain⟨z,⟨yq,ym,yc⟩,yl⟩:=y;have i:=hy.p;have ly:=i.len;have ky:=hy.1.2.1;have vy:=i.v0;dsimp only at i ly ky vy;dsimp only[Ri.v];refine QU.go (G:=λF=>Yh F ⟨E,⟨xq,xm,xc⟩,xl⟩ zx/\Yh F ⟨z,⟨yq,ym,yc⟩,yl⟩ g) func50 hF ⟨hx,hy⟩ ?_;refine QNz<|Qv I (vs:=[_,_]) I λb2=>Qv I (vs:=[_,_]) I λb3=>Qe Z2 λb4=>QMt<|QG<|JO (.cons _ w9) mixed wi<|QK (QH I Yo Vt)<|QK (Qa I Vt .u1 .h1)<|QK (QH I Yo Vt)<|QK (Qa I Vt .here .h1)<|QK (QBD Oc I I)<|QK (QH I XN Qx)<|QK (Qa I Qx .u1 (.skip .h1))<|QK (QH I XN Qx)<|QK (Qa I Qx .here (.skip .h1)) ?_
 refine QZ I (λ_ _ f k=>Wy f (a:=xl) (b:=yl) (ra:=⟨xq,xm,xc⟩) (rb:=⟨yq,ym,yc⟩) k.1.1 (k.2.1) (j.dg) (i.dg) O (by first | omega | (simp;done) | (simp;omega))) (λY=>?_);rcases Y with ⟨H,m⟩;dsimp only;refine KL _ (λw F hF ⟨⟨hx,hy⟩,⟨K,o⟩⟩=>aQ K.2 o) (λd=>?_);have L:zx*g=H8 (!(E==z)) m:=by
  have U:=d.2.2.1;rw[j.e,i.e];unfold H8;rw[U];cases E<;>cases z<;>simp[iH,Int.neg_mul]
 have m14:=d.2.2.2.2;refine QZ I (λ_ _ f k=>Zn f (r:=H) (l:=m) (neg:=!(E==z)) k.2.1 (d.2.1) O) (λX=>Jg (vs:=[_,_]) I I I JE I .here w9 (λ_ h=>h.1.1) .h2 wT<|Qw<|QD<|QW ?_);exact QO (X) rfl (.Jo (c:=[_,_]) I JE .here .nil) (rfl) λF h9=>(by rw[L];exact h9.2)
theorem Lr{x y:Ri}{E:Int}(hF:Fits F w)(hx:Yh F x zx)(hy:Yh F y E)(hzx:sz zx<=1000000)(hzy:sz E<=1000000):Hp prog 49 [x.v,y.v] w F (zx+E):=by
 obtain⟨z,⟨xq,xm,xc⟩,K⟩:=x;have g:=hx.p;have lx:=g.len;have kx:=hx.1.2.1;have vx:=g.v0;dsimp only at g lx kx vx;obtain⟨m,⟨Y,ym,yc⟩,H⟩:=y;have d:=hy.p;have ly:=d.len;have ky:=hy.1.2.1;have vy:=d.v0;dsimp only at d ly ky vy;dsimp only[Ri.v];refine QU.go (G:=λF=>Yh F ⟨z,⟨xq,xm,xc⟩,K⟩ zx/\Yh F ⟨m,⟨Y,ym,yc⟩,H⟩ E) func49 hF ⟨hx,hy⟩ ?_;refine QNz<|Qv I (vs:=[_,_]) I λb2=>Qv I (vs:=[_,_]) I λb3=>Qe Z2 λb4=>QOm 5 I<|QA (QH I Yo Vt)<|QA (Qa I Vt .u2 .h1)<|QA (QH I Yo Vt)<|QA (Qa I Vt .u1 .h1)<|QA (QBE Oc I I)<|QE<|QD ?_
 refine QP I (λhc=>?_) λhc=>?_
 ·have o:z=m:=by simpa using hc
  refine QG<|JO (.cons _ w9) mixed wi<|QK (QH I Yo Vt)<|QK (Qa I Vt .u1 .h1)<|QK (QH I XN Qx)<|QK (Qa I Qx .u1 (.skip .h1))<|QK (QH I XN Qx)<|QK (Qa I Qx .here (.skip .h1)) ?_
  refine QZ I (λ_ _ f k=>S4 f (a:=K) (b:=H) (ra:=⟨xq,xm,xc⟩) (rb:=⟨Y,ym,yc⟩) k.1.1 (k.2.1) (g.dg) (d.dg) O (by first | omega | (simp;done) | (simp;omega))) (λc16=>?_);rcases c16 with ⟨v16,l16⟩;dsimp only;refine KL _ (λw F hF ⟨⟨hx,hy⟩,⟨h16,h16p⟩⟩=>aQ h16.2 h16p) (λX=>?_);have j:zx+E=H8 z l16:=by
   have e16:=X.2.2.1;rw[g.e,d.e,o];unfold H8;rw[e16];cases m<;>simp<;>omega
  have m16:=X.2.2.2;refine QZ I (λ_ _ f k=>Zn f (r:=v16) (l:=l16) (neg:=z) k.2.1 (X.2.1) O) (λc17=>Jg (vs:=[_,_]) I I I JE I .here w9 (λ_ h=>h.1.1) .h2 wT<|Qw<|QD<|QW ?_);exact QO (c17) rfl (.Jo (c:=[_,_]) I JE .here .nil) (rfl) λF h9=>(by rw[j];exact h9.2)
 have o:z=!m:=by cases z<;>cases m<;>simp_all
 refine QOn 5 I<|QA (QH I XN Qx)<|QA (Qa I Qx .u2 (.skip .h1))<|QA (QH I XN Qx)<|QA (Qa I Qx .u1 (.skip .h1))<|QL I (λ_ _ f k=>Wd f (a:=K) (b:=H) (ra:=⟨xq,xm,xc⟩) (rb:=⟨Y,ym,yc⟩) k.1.1 (k.2.1) (g.dg) (d.dg) (g.nz) (d.nz) O O) λ_=>QOm 3 I ?_
 refine QP I (λhc=>?_) λhc=>?_
 ·have i:dv B9 H<=dv B9 K:=pc (QOW hc);have hll:=Vc d.dg g.dg d.nz i;refine QG<|JO (.cons _ w9) mixed wi<|QK (QH I Yo Vt)<|QK (Qa I Vt .u1 .h1)<|QK (QH I XN Qx)<|QK (Qa I Qx .u1 (.skip .h1))<|QK (QH I XN Qx)<|QK (Qa I Qx .here (.skip .h1)) ?_
  refine QZ I (λ_ _ f k=>DL f (a:=K) (b:=H) (ra:=⟨xq,xm,xc⟩) (rb:=⟨Y,ym,yc⟩) k.1.1.1 (k.1.2.1) (g.dg) (d.dg) O O (i)) (λc30=>?_);rcases c30 with ⟨v30,l30⟩;dsimp only;refine KL _ (λw F hF ⟨⟨⟨hx,hy⟩,_⟩,⟨h30,h30p⟩⟩=>aQ h30.2 h30p) (λU=>?_);have j:zx+E=H8 z l30:=by
   have e30:=U.2.2.1;rw[g.e,d.e,o];unfold H8;rw[e30];cases m<;>simp<;>omega
  have m30:=U.2.2.2;refine QZ I (λ_ _ f k=>Zn f (r:=v30) (l:=l30) (neg:=z) k.2.1 (U.2.1) O) (λc31=>Jg (vs:=[_,_]) I I I JE I .here w9 (λ_ h=>h.1.1) .h2 wT<|Qw<|QD<|QW ?_);exact QO (c31) rfl (.Jo (c:=[_,_]) I JE .here .nil) (rfl) λF h9=>(by rw[j];exact h9.2)
 have i:dv B9 K<=dv B9 H:=y8 (QOX hc);have hll:=Vc g.dg d.dg g.nz i;refine QOn 3 I<|JO (.cons _ w9) mixed wi<|QK (QH I Yo Vt)<|QK (Qa I Vt .here .h1)<|QK (QH I XN Qx)<|QK (Qa I Qx .here (.skip .h1))<|QK (QH I XN Qx)<|QK (Qa I Qx .u1 (.skip .h1)) ?_
 refine QZ I (λ_ _ f k=>DL f (a:=H) (b:=K) (ra:=⟨Y,ym,yc⟩) (rb:=⟨xq,xm,xc⟩) k.1.2.1 (k.1.1.1) (d.dg) (g.dg) O O (i)) (λc38=>?_);rcases c38 with ⟨v38,l38⟩;dsimp only;refine KL _ (λw F hF ⟨⟨⟨hx,hy⟩,_⟩,⟨h38,h38p⟩⟩=>aQ h38.2 h38p) (λL=>?_);have j:zx+E=H8 m l38:=by
  have e38:=L.2.2.1;rw[g.e,d.e,o];unfold H8;rw[e38];cases m<;>simp<;>omega
 have m38:=L.2.2.2;refine QZ I (λ_ _ f k=>Zn f (r:=v38) (l:=l38) (neg:=m) k.2.1 (L.2.1) O) (λc39=>Jg (vs:=[_,_]) I I I JE I .here w9 (λ_ h=>h.1.1) .h2 wT<|Qw<|QD<|QW ?_);exact QO (c39) rfl (.Jo (c:=[_,_]) I JE .here .nil) (rfl) λF h9=>(by rw[j];exact h9.2)
structure QLQ(A B:Int) where
 ra:Sr
 rb:Sr
 a:List Int
 b:List Int
 da:DG B9 a
 db:DG B9 b
 za:NZ a
 zb:NZ b
 la:a.length<=10000000
 lb:b.length<=10000000
 nb:b.length=rb.n
 h:aY (dv B9 a) (dv B9 b)=aY A B
def Cw(x y:Int):aY y (x%y)=aY x y:=by
 rw[Int.gcd_comm y,iD]
 first | rw[Int.gcd_sub_mul_left_left] | rw[Int.gcd_sub_mul_right_left] | rw[Int.gcd_sub_mul_left] | simp
theorem Rq(U:Fits F w)(X:JG F ra a)(o:JG F rb b)(da:DG B9 a)(Y:DG B9 b)(y:NZ a)(x:NZ b)(la:a.length<=10000000)(lb:b.length<=10000000):
  QU prog 59 [ra.v,rb.v] w F (λ(c:Sr×List Int)=>.slice c.1.q c.1.n c.1.cap) (λc F=>JG F c.1 c.2/\DG B9 c.2/\NZ c.2/\dv B9 c.2=(aY (dv B9 a) (dv B9 b):Int)):=by
 refine QU.go (G:=λF=>JG F ra a/\JG F rb b) func59 U ⟨X,o⟩ ?_;refine wA 7 I<|Jf (ι:=QLQ (dv B9 a) (dv B9 b)) [] (λi=>[(0,.slice i.ra.q i.ra.n i.ra.cap),(1,.slice i.rb.q i.rb.n i.rb.cap)]) (λi=>[]) (λi F=>JG F i.ra i.a/\JG F i.rb i.b) (λi=>(dv B9 i.b).toNat) (⟨ra,rb,a,b,da,Y,y,x,la,lb,o.2.1,rfl⟩) trivial wT QNG w6 λi=>?_
 have L:=i.la;have K:=i.lb;have z:=i.nb;refine wA 4 I<|QA (Qb I Qd)<|QOm 3 I ?_
 refine QP I (λhc=>?_) λhc=>?_
 ·have g:0<dv B9 i.b:=by
   have h1:=KD OL i.db i.zb;have h2:=Qp Q8 i.db;rw[<-fm]at h1;have:=QOW hc;omega
  have H:=e9 (dv B9 i.a) (Int.ne_of_gt g);have E:=eM (dv B9 i.a) g;refine QOn 3 I<|wR rfl<|QMu rfl<|QL rfl (λ_ _ f k=>Wz f (a:=i.a) (b:=i.b) (ra:=i.ra) (rb:=i.rb) k.2.1 (k.2.2) (i.da) (i.db) (i.za) (i.zb) (g) O O) λj=>QMu rfl<|QA (Qi rfl rfl)<|QA (Qi rfl rfl)<|QMv rfl<|wQ rfl<|XD _ (λ_ _ f h=>aQ h.2.2.2 h.2.2.1.2.1) λd=>?_
  obtain⟨d,m⟩:=d;refine wA 6 I<|Qf ?_
  exact Qh (⟨i.rb,j.2.1,i.b,j.2.2,i.db,d.1,i.zb,d.2.1,i.lb,by have:=Vc d.1 i.db d.2.1 (by rw[d.2.2];omega);omega,m,by rw[d.2.2,Cw];exact i.h⟩) (by show(dv B9 j.2.2).toNat<(dv B9 i.b).toNat;rw[d.2.2];omega) wT QNG λF h9=>⟨⟨h9.1.1.1,h9.1.1.2⟩,⟨h9.1.2.2,h9.2.2.1⟩⟩
 have hz:i.b=[]:=by
  have:=QOX hc;exact aj O
 refine Q7 ?_;refine wA 7 I ?_;exact QO ((i.ra,i.a):Sr×List Int) rfl (wN I) (rfl) λF h9=>⟨h9.2.1,i.da,i.za,by have e:=i.h;rw[hz,Tg,Int.gcd_zero_right]at e;have:=Qp Q8 i.da;show dv B9 i.a=_;omega⟩
section
variable{P:Program}{N:Nat}{m:Sl}{S:World->Prop}{ty:TypeId}
def xY{T:TypeId}{a b:Int}(hx:ev m x=some (.int .i64 a))(hy:ev m y=some (.int .i64 b))(h:1<b)(h0 : -9223372036854775808<=a)(h1:a<=9223372036854775807):Qt P N m S (.binOp .quo T x y yT) ty (.int .i64 (a.tdiv b)):=by
 have:=L1 (P:=P) (N:=N) (m:=m) (S:=S) (ty:=ty) (T:=T) (yT:=yT) hx hy O;have e:=eZ a b;have c:a.natAbs.div b.natAbs<=a.natAbs:=eY _ _;have e3:a.natAbs.div b.natAbs<=a.natAbs/2:=Nat.div_le_div_left O wj;rw[fQ _ O]at this;exact this
end
def Su(neg:Bool)(m:Nat):Int:=if neg=true then -(m:Int)else(m:Int)
def gD(neg:Bool)(m:Nat):(Su neg m).tmod 1000000000=Su neg (m%1000000000):=by
 unfold Su;split
 ·rw[Int.neg_tmod];exact congrArg Neg.neg (ig m 1000000000).symm
 exact(ig m 1000000000).symm
def Lj(neg:Bool)(m:Nat):(Su neg m).tdiv 1000000000=Su neg (m/1000000000):=by
 unfold Su;split
 ·rw[Int.neg_tdiv];exact congrArg Neg.neg (ij m 1000000000).symm
 exact(ij m 1000000000).symm
def xD(n:Int):n=Su (decide (n<0)) n.natAbs:=by
 unfold Su;by_cases h:n<0
 ·simp[h];omega
 simp[h];omega
def EA(neg:Bool)(m:Nat):Su neg m=m\/Su neg m = -(m:Int):=by
 unfold Su;split
 ·exact .inr rfl
 exact .inl rfl
structure WhI(M:Nat) where
 m:Nat
 out:List Int
 v:Value
 ob:List (Nat×Obj)
 le:m<=M
 l3:out.length<=3
 dg:DG B9 out
 h:dv B9 out+B9^out.length*(m:Int)=M
 hr:Q2 3 1 v out.length (out.map JJ) ob
def WhI.two{M:Nat}(i:WhI M)(a:M<=9223372036854775808)(h0:0<i.m):i.out.length<=2:=by
 rcases bI 2 i.out.length with g | g
 ·exfalso;have e:i.out.length=3:=wg i.l3;have h:=i.h;have h1:=Qp Q8 i.dg;rw[e]at h;have h2:B9^3*1<=B9^3*(i.m:Int):=ae O wj;have h3:B9^3=1000000000000000000000000000:=wj;rw[h3]at h2 h;omega
 exact g
def LS{m M:Nat}(h:dv B9 l+B9^l.length*(m:Int)=M):dv B9 (l++[((m%1000000000:Nat):Int)])+B9^(l++[((m%1000000000:Nat):Int)]).length*((m/1000000000:Nat):Int)=M:=by
 rw[XO,ah,ay,bA,fq,Int.add_assoc,<-fK,<-h];have e:((m%1000000000:Nat):Int)+B9*((m/1000000000:Nat):Int)=m:=by
  have h9:B9=1000000000:=rfl;rw[h9];omega
 rw[e]
theorem He{n:Int}(hF:Fits F w)(hn : -9223372036854775808<=n/\n<=9223372036854775807):Hp prog 104 [.int .i64 n] w F n:=by
 refine QU.go (G:=λF=>True) func104 hF trivial ?_;refine QNz<|Qe Z2 λb2=>QOm 16 I<|Jf (ι:=WhI n.natAbs) [(2,_),(4,_)] (λi=>[(0,.int .i64 (Su (decide (n<0)) i.m)),(3,i.v)]) (λi=>(b2,.cells [.bool false,.slice none 0 0].toArray 102 (0,0))::i.ob) (λi F=>True) (λi=>i.m) (⟨n.natAbs,[],.slice none 0 0,[],ak _,wu,DG.nil _,wu,.nil⟩) wT ⟨congrArg (λz:Int=>some (af .i64 z)) (xD n),rfl,trivial⟩ QNG wy λi=>?_
 have hle:=i.le;have hM:n.natAbs<=9223372036854775808:=O;have hcs:=EA (decide (n<0)) i.m;have hsr : -9223372036854775808<=Su (decide (n<0)) i.m/\Su (decide (n<0)) i.m<=9223372036854775807:=by unfold Su;split<;>rename_i g<;>simp at g<;>omega
 refine wA 7 I ?_;refine QP I (λhc=>?_) λhc=>?_
 ·have h9:B9=1000000000:=rfl;have hm0:0<i.m:=by
   rcases aA i.m with g | g
   ·rw[g]at hc;cases hd:decide (n<0)<;>simp[Su,hd]at hc
   exact g
  have l2:=i.two hM hm0;refine QOn 6 I<|QA (cC I I wj) ?_
  rw[gD];refine QOm 10 I ?_;refine QP I (λhc=>?_) λhc=>?_
  ·have e1:Su (decide (n<0)) (i.m%1000000000) = -(((i.m%1000000000):Nat):Int):=by
    have:=QOW hc;rcases EA (decide (n<0)) (i.m%1000000000)with g | g<;>omega
   rw[e1];refine wA 2 I<|QA (Jv I I O)<|QOm 7 I<|JC I (Jc Qd) Qo MK I I λb18=>X5 (bs':=[(b2,.cells [.bool false,.slice none 0 0].toArray 102 (0,0))]++i.ob) (aK _) ?_
   refine Z1 (ob:=i.ob) (k:=1) (sz:=1) (news:=[.int .i64 (0 - -(((i.m%1000000000):Nat):Int))]) I I Qd Qo MK I EV i.hr (Src.row (off:=0) w8 (λj v hv=>by rw[aG];show([.int .i64 (0 - -(((i.m%1000000000):Nat):Int))].toArray)[j]?=some v;rw[List.getElem?_toArray];exact hv) rfl) O O (Zd wS) (λv19 ob19 hr19=>?_);refine QOm 5 I<|QA (xY I I wj O O) ?_
   rw[Lj];refine wB 2 I<|Qf ?_
   exact Qh (⟨i.m/1000000000,i.out++[(((i.m%1000000000):Nat):Int)],v19,ob19,O,by rw[ah,ay];omega,i.dg.append (DG.cons O (by show _<B9;rw[h9];omega) (DG.nil _)),LS i.h,by simpa[JJ]using hr19⟩) (by show i.m/1000000000<i.m;omega) wV QNG λF h=>⟨h.1.1,trivial⟩
  have e1:Su (decide (n<0)) (i.m%1000000000)=(((i.m%1000000000):Nat):Int):=by
   have:=QOX hc;rcases EA (decide (n<0)) (i.m%1000000000)with g | g<;>omega
  rw[e1];refine QOn 6 I<|JC I (Jc Qd) Qo MK I I λb18=>X5 (bs':=[(b2,.cells [.bool false,.slice none 0 0].toArray 102 (0,0))]++i.ob) (aK _) ?_
  refine Z1 (ob:=i.ob) (k:=1) (sz:=1) (news:=[.int .i64 ((((i.m%1000000000):Nat):Int))]) I I Qd Qo MK I EV i.hr (Src.row (off:=0) w8 (λj v hv=>by rw[aG];show([.int .i64 ((((i.m%1000000000):Nat):Int))].toArray)[j]?=some v;rw[List.getElem?_toArray];exact hv) rfl) O O (Zd wS) (λv19 ob19 hr19=>?_);refine QOm 5 I<|QA (xY I I wj O O) ?_
  rw[Lj];refine wB 2 I<|Qf ?_
  exact Qh (⟨i.m/1000000000,i.out++[(((i.m%1000000000):Nat):Int)],v19,ob19,O,by rw[ah,ay];omega,i.dg.append (DG.cons O (by show _<B9;rw[h9];omega) (DG.nil _)),LS i.h,by simpa[JJ]using hr19⟩) (by show i.m/1000000000<i.m;omega) wV QNG λF h=>⟨h.1.1,trivial⟩
 have hm0:i.m=0:=by
  rcases hcs with g | g
  ·rw[g]at hc;simp at hc;exact hc
  rw[g]at hc;simp at hc;exact hc
 refine Q7 ?_;refine QG ?_;have hfin:=i.h;rw[hm0]at hfin;have l3:=i.l3;obtain⟨r,hv,hrn,hrc,hfix⟩:=Q2.fix (w0:=w) (F0:=F) (bs1:=[(b2,.cells [.bool false,.slice none 0 0].toArray 102 (0,0))]) (G:=λF=>True/\True) i.hr;refine P5 hfix ?_;rw[hv];refine wA 3 I<|QL I (λ_ _ f k=>Zn f (r:=r) (l:=i.out) (neg:=decide (n<0)) ⟨by rw[hrn];exact k.2,by rw[hrn],O⟩ (i.dg) O) λc24=>QV (vs:=[_,_]) I I I JE I .here .h2 wT<|QMt<|QW ?_
 have e:n=H8 (decide (n<0)) i.out:=by
  have e2:=xD n;unfold H8;unfold Su at e2;split at e2<;>rename_i hs<;>simp only[hs]<;>simp<;>omega
 exact QO (c24) rfl (.Jo (c:=[_,_]) I JE .here .nil) (rfl) λF ⟨⟨⟨hT,_⟩,hX⟩,h24⟩=>(by rw[<-e]at h24;exact h24)
theorem V5{x:Int}{least:Nat}(b:Fits F w)(h0:0<=x)(c:x<=9223372036854775807)(a:least<=1000):QX prog 106 [.int .i64 x,.int .i64 (least:Int)] w F (tx (ES x.toNat least)):=by
 have:=IP (n:=x.toNat) (least:=least) b O a;rw[eH h0]at this;exact this
def Pf(h:0<n):ES n 1=ax n:=by
 have a:(ax n).length≠0:=λe=>YJ n (aj e);unfold ES hd VZ;rw[if_neg O,show 1-(ax n).length=0 by omega];rfl
def SM(n:Nat):ES n 9=VZ 9 (ax n):=by
 unfold ES hd;split
 ·rename_i h;subst h;rw[Xz];decide
 rfl
theorem BI(h:n<1000000000):(ES n 9).length=9:=by
 rw[SM,Ux];have:=Ze (u:=n) (k:=9) O wj;rw[bL];exact this
structure kN(l:List Int) where
 k:Nat
 s:List UInt8
 le:k<l.length
 ps:0<dv B9 (l.drop k)
 sl:s.length<=20+9*(l.length-k)
 h:s=ax (dv B9 (l.drop k)).toNat
theorem Hl(hd:DG B9 l)(hz:NZ l)(h0:0<l.length):dv B9 (l.drop (l.length-1))=Qg l (l.length-1)/\0<Qg l (l.length-1):=by
 have e:=XC (l:=l) (k:=l.length-1) O;rw[az (i:=l.length-1+1) O]at e;refine⟨by rw[e];simp[dv],?_⟩;obtain⟨h1,_⟩:=TC (n:=l.length-1) hd hz O;omega
def kN.start{l:List Int}(hd:DG B9 l)(hz:NZ l)(h0:0<l.length):kN l:=⟨l.length-1,ES (Qg l (l.length-1)).toNat 1,O,by rw[(Hl hd hz h0).1];exact(Hl hd hz h0).2,by
  have b:=hd.Qg Q8 (l.length-1);have h9:B9=1000000000:=rfl;rw[Pf (wg<|(Hl hd hz h0).2),bL];have:=Ze (u:=(Qg l (l.length-1)).toNat) (k:=9) (by rw[h9]at b;omega) wj;omega,by
  rw[Pf (wg<|(Hl hd hz h0).2),(Hl hd hz h0).1]⟩
def kN.add(i:kN l)(hd:DG B9 l)(hk:0<i.k):dv B9 (l.drop (i.k-1))=Qg l (i.k-1)+B9*dv B9 (l.drop i.k):=by
 have a:=i.le;rw[XC O,Yp,show i.k-1+1=i.k by omega]
def kN.next{l:List Int}(i:kN l)(hd:DG B9 l)(hk:0<i.k):kN l:=⟨i.k-1,i.s++ES (Qg l (i.k-1)).toNat 9,wg i.le,by
  rw[i.add hd hk];have b:=hd.Qg Q8 (i.k-1);have p:=i.ps;have:B9*1<=B9*dv B9 (l.drop i.k):=ae O wj;have h9:B9=1000000000:=rfl;omega,by
  have b:=hd.Qg Q8 (i.k-1);have h9:B9=1000000000:=rfl;rw[h9]at b;have c:=i.le;have a:=i.sl;rw[ah,BI O];omega,by
  have b:=hd.Qg Q8 (i.k-1);have h9:B9=1000000000:=rfl;rw[h9]at b;have p:=i.ps;have e:=Kj (q:=(dv B9 (l.drop i.k)).toNat) O 9 (Qg l (i.k-1)).toNat wj O;rw[SM,i.h,<-e,i.add hd hk];congr 1;generalize dv B9 (l.drop i.k)=D at *
  rw[h9];omega⟩
theorem Sx{x:Ri}(hF:Fits F w)(hx:Yh F x zx)(hz:sz zx<=1000000):QX prog 110 [x.v] w F (tx (XR zx)):=by
 obtain⟨H,⟨E,j,K⟩,b⟩:=x;have a:=hx.p;have L:=a.len;have U:=hx.1.2.1;have vx:=a.v0;dsimp only at a L U vx;dsimp only[Ri.v];have h9:B9=1000000000:=rfl;refine QU.go (G:=λF=>Yh F ⟨H,⟨E,j,K⟩,b⟩ zx) func110 hF hx ?_;refine QNz<|Qv I (vs:=[_,_]) I λb1=>QOm 6 I<|QA (QH I XN Qx)<|QA (Qa I Qx .here (.skip .h1))<|QA (Qb I Qd)<|QOm 3 I ?_
 refine QP I (λhc=>?_) λhc=>?_
 ·have y:zx=0:=(a.zero).1 (aj (by have:=hc;simp at this;omega));refine wA 6 I ?_;exact QO2 I I (by rw[y,Jd wj];exact congrArg (λl=>tx l) Xz) wy
 have m:0<b.length:=by
  rcases aA j with g | g
  ·rw[g]at hc;simp at hc
  omega
 obtain⟨d1,d2⟩:=Hl a.dg a.nz m;have b0:=a.dg.Qg Q8 (b.length-1);rw[h9]at b0;refine QOn 4 I<|QA (QH I XN Qx)<|QA (Qa I Qx .here (.skip .h1))<|QA (QH I XN Qx)<|QA (Qa I Qx .here (.skip .h1))<|QA (Qb I Qd)<|QA (Jv I I O)<|QA (Qs (n:=j) (b.length-1) (λF hx=>(hx.1).1) rfl wM Qd Qo O)<|QA (Qu (n:=j) ((b.length-1)*1) (λF hx=>(hx.1).1) O rfl Qo (JN (o:=b) O))<|QL I (λ_ _ f k=>V5 f (least:=1) O O O) λ_=>QOm 6 I<|QA (QH I XN Qx)<|QA (Qa I Qx .here (.skip .h1))<|QA (Qb I Qd)<|QA (Jv I I O)<|wQ I<|QQ<|J2 (ι:=kN b) [(1,_)] (λi=>[(3,tx i.s),(4,.int .i64 ((i.k:Int)-1))]) (λi=>i.k) (kN.start a.dg a.nz m) wS ⟨rfl,(congrArg (λz:Int=>some (af .i64 z)) (by simp only[kN.start];omega)),trivial⟩ λi=>?_
 have Y:=i.le;have X:=i.sl;refine wA 7 I ?_;refine QP I (λhc=>?_) λhc=>?_
 ·have d:0<i.k:=wg<|QOW hc
  have b1:=a.dg.Qg Q8 (i.k-1);rw[h9]at b1;have ln:=BI (n:=(Qg b (i.k-1)).toNat) O;refine QOn 6 I<|QA (QH I XN Qx)<|QA (Qa I Qx .here (.skip .h1))<|QMu I<|QA (Qs (n:=j) (i.k-1) (λF h9=>(h9.1.1).1) rfl wM Qd Qo O)<|QA (Qu (n:=j) ((i.k-1)*1) (λF h9=>(h9.1.1).1) O rfl Qo (JN (o:=b) O))<|QL I (λ_ _ f k=>V5 f (least:=9) O O O) λ_=>QA (XU I I O)<|wB 2 I<|Qf<|QOo 3 I<|QA (Jv I I O)<|wB 2 I ?_
  exact Qh (i.next a.dg d) (by show i.k-1<i.k;omega) ⟨rfl,rfl,(congrArg (λz:Int=>some (af .i64 z)) (by simp only[kN.next];omega)),trivial⟩ QNG w7
 have d:i.k=0:=wg<|QOX hc
 have hi:=i.h;rw[d,bH]at hi;have ha:=a.abs;refine Q7 ?_;refine QG<|QNz<|QA (QH I Yo Vt)<|QA (Qa I Vt .here .h1)<|QE<|QD ?_
 refine QP I (λhc=>?_) λhc=>?_
 ·have c:zx<0:=by have:=a.neg;rw[hc]at this;exact QOW this.symm
  refine wR I<|QA (XU I I wv)<|wQ I<|QW ?_
  exact QO2 I I (by rw[Zi c,hi];exact congrArg (λn=>tx (45::ax n)) O) wy
 have c:¬zx<0:=by have:=a.neg;rw[hc]at this;exact QOX this.symm
 refine QOn 9 I ?_;exact QO2 I I (by rw[Jd O,hi];exact congrArg (λn=>tx (ax n)) O) wy
structure PaI(s:List UInt8) where
 s':List UInt8
 out:List Int
 v:Value
 ob:List (Nat×Obj)
 dg:DG B9 out
 al:XK s'=true
 ll:s'.length+9*out.length<=s.length
 h:(JA s':Int)*B9^out.length+dv B9 out=JA s
 hr:Q2 3 1 v out.length (out.map JJ) ob
def AB:((10^9:Nat):Int)=B9:=wj
theorem gU{s:List UInt8}{out:List Int}(h:(JA s:Int)*B9^out.length+dv B9 out=z)(c:9<=s.length):(JA (s.take (s.length-9)):Int)*B9^(out++[(JA (s.drop (s.length-9)):Int)]).length+dv B9 (out++[(JA (s.drop (s.length-9)):Int)])=z:=by
 have e:=Zy (s.take (s.length-9)) (s.drop (s.length-9));rw[ep,aM,show s.length-(s.length-9)=9 by omega]at e;rw[XO,ah,ay,bA,<-h,e,Int.natCast_add,Int.natCast_mul,AB];generalize B9^out.length=p;generalize ((JA (s.take (s.length-9)):Nat):Int)=a;generalize ((JA (s.drop (s.length-9)):Nat):Int)=b;generalize B9=B
 grind
def Ba(h:au s [45]=true):1<=s.length:=by
 rcases aA s.length with g | g
 ·rw[aj g]at h;simp[au]at h
 omega
theorem Vz{Q:Exit->Act->World->Prop}{b:Array Oper}{l:List Oper}{N:Nat}{m:Sl}{E E':Env}(h:∀w,St E w->St E' w)(k:JS P b Q l N m E'):JS P b Q l N m E:=λa w ha c=>k a w ha (h w c)
def QBP{t:List UInt8}{out:List Int}(h:(JA t:Int)*B9^out.length+dv B9 out=JA (aa s [45])):H8 (au s [45]) (out++[(JA t:Int)])=YB s:=by
 have e:dv B9 (out++[(JA t:Int)])=JA (aa s [45]):=by
  rw[XO,<-h,aR];omega
 unfold H8 YB;rw[e];unfold aa;cases au s [45]<;>simp
def Ro{s:List UInt8}(h:XK s=true)(a:s.length<=9):(JA s:Int)<B9:=by
 have h1:=Ku h;have h2:10^s.length<=10^9:=bK wj a;have h3:=AB;omega
theorem Wb(H:Fits F w)(Y:XK (aa s [45])=true)(hl:s.length<=1000000):Hp prog 107 [tx s] w F (YB s):=by
 refine QU.go (G:=λF=>True) func107 H trivial ?_;refine QNz<|Qe Z2 λb2=>QE<|QD ?_
 refine Xl [(0,_),(2,_)] [(3,.bool (au s [45]))] wT ?_ ?_
 ·refine wA 2 I<|QA (Je I J7)<|wB 2 I ?_
  refine QY (t:=8) rfl (λa=>?_) λa=>?_
  ·refine wB 3 I<|QA (Yj (i:=0) rfl rfl J7 (wg<|QOW a))<|wB 5 I ?_
   exact Q4 ⟨rfl,rfl,(congrArg (λb=>some (ar b)) (by have h0:0<s.length:=(wg<|QOW a);rw[Yk h0];exact GG I)),trivial⟩ QNG w6
  refine wB 6 I ?_;exact Q4 ⟨rfl,rfl,(congrArg (λb=>some (ar b)) (by have h0:s.length=0:=(wg<|QOX a);rw[aj h0];rfl)),trivial⟩ QNG w6
 refine Xl [(2,_),(3,_)] [(0,tx (aa s [45]))] wT ?_ ?_
 ·refine wA 5 I ?_;refine QP I (λhc=>?_) λhc=>?_
  ·refine wA 2 I<|QA (Zp (1) rfl rfl J7 I (Ba hc))<|wB 2 I ?_
   exact Q4 ⟨rfl,rfl,(congrArg (λl=>some (tx l)) (by unfold aa;rw[if_pos hc];rfl)),trivial⟩ QNG w6
  refine QN ?_;exact Q4 ⟨rfl,rfl,(congrArg (λl=>some (tx l)) (by unfold aa;rw[hc];rfl)),trivial⟩ QNG w6
 have hln:(aa s [45]).length<=s.length:=Ns _ _;refine wA 7 I<|Jf (ι:=PaI (aa s [45])) [(2,_),(3,_)] (λi=>[(0,tx i.s'),(4,i.v)]) (λi=>(b2,.cells [.bool false,.slice none 0 0].toArray 102 (0,0))::i.ob) (λi F=>True) (λi=>i.s'.length) (⟨aa s [45],[],.slice none 0 0,[],DG.nil _,Y,wu,wu,.nil⟩) wT wT QNG wy λi=>?_
 have hll:=i.ll;refine wA 4 I<|QA (Je I J7)<|QOm 3 I ?_
 refine QP I (λhc=>?_) λhc=>?_
 ·have h9:9<i.s'.length:=wg<|QOW hc
  refine QOn 8 I<|QA (Je I J7)<|QA (Jv I I O)<|QA (Zp (i.s'.length-9) rfl rfl J7 wM O)<|QL I (λ_ _ f k=>DK f (EZ i.al _) (by rw[aM];omega)) λ_=>JC I (Jc Qd) Qo MK I I λb26=>X5 (bs':=[(b2,.cells [.bool false,.slice none 0 0].toArray 102 (0,0))]++i.ob) (aK _) ?_
  refine Z1 (ob:=i.ob) (k:=1) (sz:=1) (news:=[.int .i64 ((JA (i.s'.drop (i.s'.length-9)):Int))]) I I Qd Qo MK I EV i.hr (Src.row (off:=0) w8 (λj v hv=>by rw[aG];show([.int .i64 ((JA (i.s'.drop (i.s'.length-9)):Int))].toArray)[j]?=some v;rw[List.getElem?_toArray];exact hv) rfl) O O (Zd wS) (λE d x=>?_);refine QOm 6 I<|QA (Je I J7)<|QA (Jv I I O)<|QA (V7 (i.s'.length-9) rfl rfl J7 wM O)<|wB 2 I<|Qf ?_
  exact Qh (⟨i.s'.take (i.s'.length-9),i.out++[(JA (i.s'.drop (i.s'.length-9)):Int)],E,d,i.dg.append (DG.cons O (Ro (EZ i.al _) (by rw[aM];omega)) (DG.nil _)),Hn i.al _,by rw[aq,ah,ay];omega,gU i.h O,by simpa[JJ]using x⟩) (by show(i.s'.take (i.s'.length-9)).length<i.s'.length;rw[aq];omega) wV QNG λF h=>⟨h.1.1.1,trivial⟩
 have h9:i.s'.length<=9:=wg<|QOX hc
 refine Q7 ?_;refine wA 5 I<|QL I (λ_ _ f k=>DK f (i.al) O) λ_=>JC I (Jc Qd) Qo MK I I λb37=>X5 (bs':=[(b2,.cells [.bool false,.slice none 0 0].toArray 102 (0,0))]++i.ob) (aK _) ?_
 refine Z1 (ob:=i.ob) (k:=1) (sz:=1) (news:=[.int .i64 ((JA i.s':Int))]) I I Qd Qo MK I EV i.hr (Src.row (off:=0) w8 (λj v hv=>by rw[aG];show([.int .i64 ((JA i.s':Int))].toArray)[j]?=some v;rw[List.getElem?_toArray];exact hv) rfl) O O (Zd wS) (λX L o=>?_);obtain⟨r,hv,m,hrc,y⟩:=Q2.fix (w0:=w) (F0:=F) (bs1:=[(b2,.cells [.bool false,.slice none 0 0].toArray 102 (0,0))]) (G:=_) o;refine Vz y ?_;rw[hv];refine QL I (λw F H ⟨⟨⟨⟨hT,_⟩,_⟩,g⟩,U⟩=>Zn H (r:=r) (l:=i.out++[(JA i.s':Int)]) (neg:=au s [45]) ⟨by rw[m];simpa[JJ]using U,by rw[m];simp,O⟩ (i.dg.append (DG.cons O (Ro i.al h9) (DG.nil _))) (by first | omega | (simp;omega))) (λK=>QV (vs:=[_,_]) I I I JE I .here .h2 wT<|QMt<|QW ?_);exact QO (K) rfl (.Jo (c:=[_,_]) I JE .here .nil) (rfl) λF ⟨⟨⟨⟨⟨hT,_⟩,_⟩,g⟩,U⟩,z⟩=>(by rw[QBP i.h]at z;exact z)
def Hj(z:Int):(XR z).length<=sz z+2:=by
 have h:(ax z.natAbs).length<=sz z+1:=by
  rw[bL];refine Ze ?_ O;have h1:=H6 z;have h2:2^sz z<=10^sz z:=eF wj _;have h3:10^sz z<=10^(sz z+1):=bK wj O;omega
 rcases bQ z 0 with g | g
 ·rw[Zi g,aB];omega
 rw[Jd g];omega
def TN(n:Nat):(ax n).length<=sz (n:Int)+1:=by
 rw[bL];refine Ze ?_ O;have h1:=H6 (n:Int);have h2:2^sz (n:Int)<=10^sz (n:Int):=eF wj _;have h3:10^sz (n:Int)<=10^(sz (n:Int)+1):=bK wj O;simp at h1;omega
def WA(x:Rat):(Q5 x).length<=2*J6 x+4:=by
 have h1:=Hj x.num;have h2:=TN x.den;have h3:=Ji x;have h4:=Jb x;unfold Q5;split
 ·omega
 rw[ah,aB];omega
def SX{l:List UInt8}(h:l.contains 47=false):l.all (λc=>!Jl c)=true:=by
 rw[List.all_eq_true];intro c hc;have:c≠47:=by rintro rfl;simp[hc]at h
 simp[Jl,this]
def VN(z:Int):(XR z).contains 47=false:=DU z wj wj
def MN{x:Rat}(h:x.den=1):Q5 x=XR x.num/\ahead Jl (Q5 x)=(Q5 x).length:=by
 have e:Q5 x=XR x.num:=by unfold Q5;rw[if_pos h]
 exact⟨e,by rw[e];exact SZ (SX (VN _))⟩
def VU{x:Rat}(h:x.den≠1):ahead Jl (Q5 x)=(XR x.num).length/\ahead Jl (Q5 x)<(Q5 x).length/\(Q5 x).take (ahead Jl (Q5 x))=XR x.num/\(Q5 x).drop (ahead Jl (Q5 x)+1)=ax x.den:=by
 have e:Q5 x=XR x.num++47::ax x.den:=by unfold Q5;rw[if_neg h]
 have h1:ahead Jl (Q5 x)=(XR x.num).length:=by
  refine SY (by rw[e];simp) ?_ ?_
  ·rw[e,List.take_append_of_le_length (ak _),aV];exact SX (VN _)
  simp[e,Jl]
 rw[h1];refine⟨rfl,by rw[e];simp,?_,?_⟩
 ·rw[e];simp
 rw[e,List.drop_append];simp
def RB(x:Rat):(ahead Jl (Q5 x)=(Q5 x).length)↔x.den=1:=by
 constructor
 ·intro h;by_cases g:x.den=1
  ·exact g
  have:=(VU g).2.1;omega
 intro h;exact(MN h).2
def R3(z:Int):XK (aa (XR z) [45])=true:=by rw[VK];exact JL _
def C6(n:Nat):XK (aa (ax n) [45])=true:=by rw[YR (JL n)];exact JL _
def O9(n:Nat):YB (ax n)=n:=by rw[X7 (JL n),Jh]
@[reducible] def Ri.v2 (c:Ri×Ri):Value:=.tuple #[c.1.v,c.2.v]
theorem DN{x:Rat}(K:Fits F w)(X:J6 x<=100000):QU prog 47 [tx (Q5 x)] w F Ri.v2 (λc F=>Yh F c.1 x.num/\Yh F c.2 x.den):=by
 have y:=WA x;refine QU.go (G:=λF=>True) func47 K trivial ?_;refine QNz<|Qe Z2 λb2=>Qe Z2 λb3=>QOm 11 I<|QL I (λ_ _ f k=>Wa f O) λ_=>QOm 8 I<|QA (Je I J7)<|QOm 3 I ?_
 refine QP I (λhc=>?_) λhc=>?_
 ·have hd:x.den=1:=(RB x).1 (by have:(ahead Jl (Q5 x):Int)=((Q5 x).length:Int):=(by simpa using hc);omega);rw[(MN hd).1];refine wR I<|QL I (λ_ _ f k=>Wb f (R3 _) (by have:=Hj x.num;have:=Ji x;omega)) λo=>QL I (λ_ _ f k=>He f wj) λm=>QV (vs:=[_,_]) I I I JE I .u1 .h2 wT<|QV (vs:=[_,_]) I I I JE I .here .h2 wT<|QMt<|QW ?_
  exact Xm ((o,m):Ri×Ri) rfl (.Jo (c:=[_,_]) I JE .u1 (.Jo (c:=[_,_]) I JE .here .nil)) (rfl) λF ⟨⟨⟨H,_⟩,b⟩,d⟩=>⟨by rw[ZN]at b;exact b,by have e:(x.den:Int)=1:=(by rw[hd];rfl);rw[e];exact d⟩
 have hd:¬x.den=1:=λg=>by have:=(RB x).2 g;rw[this]at hc;simp at hc
 obtain⟨U,L,E,z⟩:=VU hd;refine QOn 3 I<|JO (.cons _ (.cons _ .slnil)) mixed wi<|QK (QC I)<|QK (QC I)<|QK (V7 (ahead Jl (Q5 x)) I I J7 I O) ?_
 rw[E];refine QZ I (λ_ _ f k=>Wb f (R3 _) (by have:=Hj x.num;have:=Ji x;omega)) (λj=>QK (QC I)<|QK (QC I)<|QK (Qk I I O)<|QK (Zp ((ahead Jl (Q5 x)+1)) I I J7 wM O) ?_);rw[z];refine QZ I (λ_ _ f k=>Wb f (C6 _) (by have:=TN x.den;have:=Jb x;omega)) (λi=>Jg (vs:=[_,_]) I I I JE I .u1 (.cons _ .slnil) (λ_ h=>h.1.1) .h2 wT<|Jg (vs:=[_,_]) I I I JE I .here (.cons _ .slnil) (λ_ h=>h.1.1) .h2 wT<|Qw<|QD<|QW ?_);exact Xm ((j,i):Ri×Ri) rfl (.Jo (c:=[_,_]) I JE .u1 (.Jo (c:=[_,_]) I JE .here .nil)) (rfl) λF ⟨⟨⟨H,_⟩,OL⟩,a⟩=>⟨by rw[ZN]at OL;exact OL,by rw[O9]at a;exact a⟩
structure QLO(zx zy:Int) where
 n:Ri
 d:Ri
 zn:Int
 zd:Int
 h:0<zd
 e:ai zn zd=ai zx zy
 sn:sz zn<=500000
 sd:sz zd<=500000
theorem pH{n d:Int}(h:0<d){neg:Bool}{l p:List Int}(c:Vm neg l n)(hp:dv B9 p=dv B9 l/(aY n d:Int)):H8 neg p=(ai n d).num:=by
 rw[(Z0 h).1];have hg:(0:Int)<(aY n d:Int):=wg (K5 (x:=n) h);obtain⟨k,hk⟩:=hJ (a:=n) (b:=d);have e:=c.e;have hv:=c.v0;unfold H8 at e ⊢;rw[hp];cases neg with
 |true =>
  simp only[if_true]at e ⊢;have f:dv B9 l=(aY n d:Int)*(-k):=by rw[iH,<-hk];omega
  rw[f,fp _ O];have e3:n/(aY n d:Int)=k:=by
   conv=>lhs;lhs;rw[hk]
   exact fp _ O
  rw[e3];omega
 |false =>
  simp only[fM,if_false]at e ⊢;rw[<-e]
def pI{n d:Int}(h:0<d){neg:Bool}{l p:List Int}(a:Vm neg l d)(hp:dv B9 p=dv B9 l/(aY n d:Int)):dv B9 p=((ai n d).den:Int):=by
 rw[(Z0 h).2,hp];have:=a.abs;congr 1;omega
def Ag{n:Int}{a b:Bool}{m:List Int}(c:Vm a l n)(hd:Vm b m d):aY (dv B9 l) (dv B9 m)=aY n d:=by
 rw[<-c.abs,<-hd.abs];simp[aY]
def Au(x y:Int):ai (-x) (-y)=ai x y:=fN x y
theorem PC(h:DG B9 l)(hz:NZ l):(l.length=1/\Qg l 0=1)↔dv B9 l=1:=by
 constructor
 ·rintro⟨h1,h2⟩;obtain⟨x,rfl⟩:=List.length_eq_one_iff.1 h1;simp[Qg]at h2;simp[dv,h2]
 intro e;have:l=[1]:=yo OL h (DG.cons wj wj (DG.nil _)) hz (by simp[NZ]) (by rw[e];simp[dv]);subst this;exact⟨rfl,rfl⟩
def Lx{x:Rat}(h:(x.den:Int)=1):XR x.num=Q5 x:=by unfold Q5;rw[if_pos O]
theorem S3{x:Rat}(h:¬(x.den:Int)=1):XR x.num++[47]++XR (x.den:Int)=Q5 x:=by
 unfold Q5;rw[if_neg O,Jd (z:=(x.den:Int)) O];simp
theorem Gq{x y:Ri}{X:Int}(hF:Fits F w)(hx:Yh F x zx)(hy:Yh F y X)(h0:X≠0)(hzx:sz zx<=500000)(hzy:sz X<=500000):QX prog 48 [x.v,y.v] w F (tx (Q5 (ai zx X))):=by
 obtain⟨xn,⟨xq,xm,xc⟩,xl⟩:=x;have px:=hx.p;have lx:=px.len;have kx:=hx.1.2.1;have vx:=px.v0;dsimp only at px lx kx vx;obtain⟨yn,⟨yq,ym,yc⟩,yl⟩:=y;have py:=hy.p;have ly:=py.len;have ky:=hy.1.2.1;have vy:=py.v0;dsimp only at py ly ky vy;dsimp only[Ri.v];have U:=py.neg;refine QU.go (G:=λF=>Yh F ⟨xn,⟨xq,xm,xc⟩,xl⟩ zx/\Yh F ⟨yn,⟨yq,ym,yc⟩,yl⟩ X) func48 hF ⟨hx,hy⟩ ?_;refine QNz<|Qv I (vs:=[_,_]) I λb2=>Qv I (vs:=[_,_]) I λb3=>QOm 3 I ?_
 refine P4 (ι:=QLO zx X) [(2,_),(3,_)] (λi=>[]) (λi=>[(b3,.cells [.bool i.d.neg,.slice i.d.r.q i.d.r.n i.d.r.cap].toArray 102 (0,0)),(b2,.cells [.bool i.n.neg,.slice i.n.r.q i.n.r.n i.n.r.cap].toArray 102 (0,0))]) (λi F=>Yh F i.n i.zn/\Yh F i.d i.zd) wT ?_ ?_
 ·refine QNz<|QA (QH I Yo Vt)<|QA (Qa I Vt .here .h1)<|QE<|QD ?_
  refine QP I (λhc=>?_) λhc=>?_
  ·refine Jq 4 QNG mixed wi wi ?_;simp only[List.take_succ_cons,ia,List.drop_succ_cons,bH];refine QK (wH I JE .u1)<|QZ I (λ_ _ f k=>Uq f (x:=⟨xn,⟨xq,xm,xc⟩,xl⟩) k.1 O) λc14=>QK (wH I JE .here)<|QZ I (λ_ _ f k=>Uq f (x:=⟨yn,⟨yq,ym,yc⟩,yl⟩) k.1.2 O) λc16=>Zf<|QV (vs:=[_,_]) I I I JE I .u1 .h2 wT<|QV (vs:=[_,_]) I I I JE I .here .h2 wT<|QE ?_
   exact Xw (⟨c14,c16,-zx,-X,by rw[hc]at U;have:=QOW U.symm;omega,Au _ _,by rw[Kh];exact hzx,by rw[Kh];exact hzy⟩) wT QNG λF h9=>⟨⟨h9.1.1.1,h9.1.1.2⟩,⟨h9.1.2,h9.2⟩⟩
  refine QN ?_;exact Xw (⟨⟨xn,⟨xq,xm,xc⟩,xl⟩,⟨yn,⟨yq,ym,yc⟩,yl⟩,zx,X,by rw[hc]at U;have:=QOX U.symm;omega,rfl,hzx,hzy⟩) wT QNG λF ⟨hx,hy⟩=>⟨⟨hx,hy⟩,⟨hx,hy⟩⟩
 intro i;refine XD _ (λ_ _ f h=>aQ h.2.1.p (aQ h.2.2.p (aQ h.2.1.1.2.1 h.2.2.1.2.1))) (λpp=>?_);obtain⟨pn,E,kn,kd⟩:=pp;have ln:=pn.len;have ld:=E.len;have hsn:=i.sn;have hsd:=i.sd;have hi:=i.h;have gg:=Ag pn E;have q1:=VQ (a:=i.zn) (b:=i.zd) O;have q2:=Ji (ai i.zn i.zd);have q3:=Jb (ai i.zn i.zd);have q4:sz (ai i.zn i.zd).num<=500000:=O;have q5:sz ((ai i.zn i.zd).den:Int)<=500000:=O;refine QNz<|QA (QH I XN Qx)<|QA (Qa I Qx .u1 (.skip .h1))<|QA (QH I XN Qx)<|QA (Qa I Qx .here (.skip .h1)) ?_
 refine QL I (λ_ _ f k=>Rq f (a:=i.n.l) (b:=i.d.l) (ra:=i.n.r) (rb:=i.d.r) k.2.1.1 (k.2.2.1) (pn.dg) (E.dg) (pn.nz) (E.nz) O O) (λc21=>?_);rcases c21 with ⟨v21,L⟩;dsimp only;refine J5 _ (λw F hF ⟨⟨⟨hx,hy⟩,⟨hN,hD⟩⟩,⟨h21,h21p⟩⟩=>aQ h21.2 h21p) (λm=>wQ rfl<|QG ?_);have g0:0<dv B9 L:=by rw[m.2.2.2,gg];have:=K5 (x:=i.zn) i.h;omega
 have l21l:L.length<=i.d.l.length:=by
  refine Vc m.2.1 E.dg m.2.2.1 ?_;rw[m.2.2.2,gg];have h1:(aY i.zn i.zd:Int)<=i.zd:=Int.le_of_dvd i.h (Int.gcd_dvd_right (a:=i.zn) (b:=i.zd));have h2:=E.abs;omega
 refine QB<|QA (QH rfl XN Qx)<|QA (Qa rfl Qx .u1 (.skip .h1))<|QMu rfl<|QL rfl (λ_ _ f k=>Wz f (a:=i.n.l) (b:=L) (ra:=i.n.r) (rb:=v21) k.1.2.1.1 (k.2.1) (pn.dg) (m.2.1) (pn.nz) (m.2.2.1) (g0) O O) λY=>QMu rfl<|QA (Qi rfl rfl)<|QA (Qi rfl rfl)<|QMv rfl<|wQ rfl<|QG<|XD _ (λ_ _ f h=>aQ h.2.1.2 h.2.1.1.2.1) λz=>?_
 obtain⟨z,n26⟩:=z;refine QB<|QA (QH rfl XN Qx)<|QA (Qa rfl Qx .here (.skip .h1))<|QMu rfl<|QL rfl (λ_ _ f k=>Wz f (a:=i.d.l) (b:=L) (ra:=i.d.r) (rb:=v21) k.1.1.2.2.1 (k.1.2.1) (E.dg) (m.2.1) (E.nz) (m.2.2.1) (g0) O O) λc=>QMu rfl<|QA (Qi rfl rfl)<|QA (Qi rfl rfl)<|QMv rfl<|wQ rfl<|QG<|XD _ (λ_ _ f h=>aQ h.2.1.2 h.2.1.1.2.1) λj=>?_
 obtain⟨j,n33⟩:=j;have en:H8 i.n.neg Y.1.2=(ai i.zn i.zd).num:=pH i.h pn (by rw[z.2.2,m.2.2.2,gg]);have ed:dv B9 c.1.2=((ai i.zn i.zd).den:Int):=pI i.h E (by rw[j.2.2,m.2.2.2,gg]);have ed2:H8 false c.1.2=((ai i.zn i.zd).den:Int):=by rw[<-ed];rfl
 have lnp:=Vc z.1 pn.dg z.2.1 (by rw[z.2.2];exact ee _ pn.v0);have lnq:=Vc j.1 E.dg j.2.1 (by rw[j.2.2];exact ee _ E.v0);have H:=PC j.1 j.2.1;have lr1:=Hj (ai i.zn i.zd).num;have lr2:=Hj ((ai i.zn i.zd).den:Int);refine QB<|QA (QH I Yo Vt)<|QA (Qa I Vt .u1 .h1)<|QMu I<|QL I (λ_ _ f k=>Zn f (r:=Y.1.1) (l:=Y.1.2) (neg:=i.n.neg) k.1.2.1.1 (z.1) (by first | omega | (simp;omega))) λc39=>QL I (λ_ _ f k=>Sx f (zx:=(ai i.zn i.zd).num) (by rw[<-en];exact k.2) O) λ_=>QOm 7 I<|QA (Qb I Qd)<|wB 2 I ?_
 refine QY (t:=44) rfl (λK=>?_) λK=>?_
 ·have hn1:c.1.1.n=1:=by simp at K;omega
  refine wB 3 I<|QA (Qs (n:=c.1.1.n) (0) (λF h9=>(h9.1.1.2.1.1).1) rfl wM Qd Qo O)<|QJ I I<|QA (Qu (n:=c.1.1.n) ((0)*1) (λF h9=>(h9.1.1.2.1.1).1) O rfl Qo (JN (o:=c.1.2) O))<|QOm 5 I ?_
  refine QP I (λhc=>?_) λhc=>?_
  ·refine wA 7 I ?_;exact QO2 I I (by rw[<-i.e];exact congrArg (λl=>tx l) (Lx (by rw[<-ed];exact H.1 ⟨O,by simpa using hc⟩)).symm) wy
  refine QOn 5 I<|QA (XU I I wv)<|QMu I<|QL I (λ_ _ f k=>Zn f (r:=c.1.1) (l:=c.1.2) (neg:=false) k.1.1.2.1.1 (j.1) (by first | omega | (simp;omega))) λc54=>QL I (λ_ _ f k=>Sx f (zx:=((ai i.zn i.zd).den:Int)) (by rw[<-ed2];exact k.2) O) λ_=>QA (XU I I wv)<|wQ I<|QW ?_
  exact QO2 I I (by rw[<-i.e];exact congrArg (λl=>tx l) (S3 λg=>by have:=H.2 (by rw[ed];exact g);rw[this.2]at hc;simp at hc).symm) wy
 have hn1:c.1.1.n≠1:=by simp at K;omega
 refine QOm 7 I<|Zq I<|QOn 5 I<|QA (XU I I wv)<|QMu I<|QL I (λ_ _ f k=>Zn f (r:=c.1.1) (l:=c.1.2) (neg:=false) k.1.1.2.1.1 (j.1) (by first | omega | (simp;omega))) λc54=>QL I (λ_ _ f k=>Sx f (zx:=((ai i.zn i.zd).den:Int)) (by rw[<-ed2];exact k.2) O) λ_=>QA (XU I I wv)<|wQ I<|QW ?_
 exact QO2 I I (by rw[<-i.e];exact congrArg (λl=>tx l) (S3 λg=>by have:=H.2 (by rw[ed];exact g);omega).symm) wy
def Z4(x:Rat):Rat:=if x.num<0 then -x else x
def xV(x:Rat):(Z4 x).num=(x.num.natAbs:Int)/\(Z4 x).den=x.den:=by
 unfold Z4;split
 ·exact⟨by rw[fF];omega,by rw[iF]⟩
 exact⟨O,rfl⟩
def CP(h:z<0):XR z=45::XR (-z):=by
 rw[Zi h,Jd (z:=-z) O];congr 2;omega
def DP{x:Rat}(h:x.num<0):Q5 x=45::Q5 (-x):=by
 unfold Q5;rw[fF,iF,CP h];split<;>rfl
theorem V6(x:Rat):au (Q5 x) [45]=decide (x.num<0):=by
 by_cases h:x.num<0
 ·rw[DP h];simp[au,fY,h]
 have e:(decide (x.num<0))=false:=by simpa using h
 rw[e];unfold Q5;rw[Jd O];have hd:=JL x.num.natAbs;split
 ·exact YN hd
 have a:=YJ x.num.natAbs;cases b:ax x.num.natAbs with
 |nil=>exact absurd b a
 |cons c r =>
  have:=YN hd;rw[b]at this;simpa[au,fY]using this
def Ut(x:Rat):aa (Q5 x) [45]=Q5 (Z4 x):=by
 unfold aa Z4;rw[V6];by_cases h:x.num<0
 ·rw[if_pos (by simpa using h),if_pos h,DP h];rfl
 rw[if_neg (by simpa using h),if_neg h]
def jw(x:Rat):J6 (Z4 x)=J6 x:=by
 unfold Z4;split
 ·exact Mj x
 rfl
def uH(x:Rat)(c:Int×Int×Bool):Prop:=c.2.2=true->c.1=x.num/\c.2.1=(x.den:Int)/\x.num.natAbs<1000000000/\x.den<1000000000
def N4{l:List UInt8}(h:XK l=true)(a:l.length<=9):JA l<1000000000:=by
 have h1:=Ku h;have h2:10^l.length<=10^9:=bK wj a;omega
theorem Un{x:Rat}(hF:Fits F w)(hl:J6 x<=100000):QU prog 45 [tx (Q5 x)] w F (λ(c:Int×Int×Bool)=>.tuple #[.int .i64 c.1,.int .i64 c.2.1,.bool c.2.2]) (λc _=>uH x c):=by
 have U:=WA x;have m:=WA (Z4 x);rw[jw]at m;obtain⟨an,K⟩:=xV x;have hah:=Yr Jl (Q5 (Z4 x));have d:XR (Z4 x).num=ax x.num.natAbs:=by rw[an,Jd O];rfl
 refine QU.go (G:=λF=>True) func45 hF trivial ?_;refine wA 17 I<|QA (Je I J7)<|QOm 3 I ?_
 refine QP I (λhc=>?_) λhc=>?_
 ·refine wA 8 I ?_;exact Xm ((0,0,false):Int×Int×Bool) rfl (.tmp rfl (wO rfl rfl)) (rfl) λF hT=>λh=>by cases h
 refine QN<|QD ?_
 refine Xl [(5,_)] [(6,.bool (decide (x.num<0)))] wS ?_ ?_
 ·refine wA 2 I<|QA (Je I J7)<|wB 2 I ?_
  refine QY (t:=17) rfl (λa=>?_) λa=>?_
  ·refine wB 3 I<|QA (Yj (i:=0) rfl rfl J7 (wg<|QOW a))<|wB 5 I ?_
   exact Q4 ⟨rfl,(congrArg (λb=>some (ar b)) (by have h0:0<(Q5 x).length:=(wg<|QOW a);rw[<-V6,Yk h0];exact GG I)),trivial⟩ QNG w6
  refine wB 6 I ?_;exact Q4 ⟨rfl,(congrArg (λb=>some (ar b)) (by have h0:(Q5 x).length=0:=(wg<|QOX a);rw[<-V6,aj h0];rfl)),trivial⟩ QNG w6
 refine Xl [(6,_)] [(5,tx (Q5 (Z4 x)))] wS ?_ ?_
 ·refine wA 5 I ?_;refine QP I (λhc=>?_) λhc=>?_
  ·refine wA 2 I<|QA (Zp (1) rfl rfl J7 I (by have:=Ba (s:=Q5 x) (by rw[V6];exact hc);omega))<|wB 2 I ?_
   exact Q4 ⟨rfl,(congrArg (λl=>some (tx l)) (by rw[<-Ut];unfold aa;rw[if_pos (by rw[V6];exact hc)];rfl)),trivial⟩ QNG w6
  refine QN ?_;exact Q4 ⟨rfl,(congrArg (λl=>some (tx l)) (by rw[<-Ut];unfold aa;rw[V6,hc];rfl)),trivial⟩ QNG w6
 refine wR I<|QL I (λ_ _ f k=>Wa f O) λ_=>QOm 9 I ?_
 refine QY (t:=29) rfl (λj=>?_) λj=>?_
 ·refine QOm 8 I<|WV I<|wA 8 I ?_
  exact Xm ((0,0,false):Int×Int×Bool) rfl (.tmp rfl (wO rfl rfl)) (rfl) λF h9=>λh=>by cases h
 refine wB 3 I<|QA (Je I J7)<|wB 3 I<|QA (Jv I I O)<|QOm 5 I ?_
 refine QP I (λhc=>?_) λhc=>?_
 ·refine wA 8 I ?_;exact Xm ((0,0,false):Int×Int×Bool) rfl (.tmp rfl (wO rfl rfl)) (rfl) λF h9=>λh=>by cases h
 have k9:ahead Jl (Q5 (Z4 x))<=9/\(Q5 (Z4 x)).length-ahead Jl (Q5 (Z4 x))<=10:=by
  have ha:=Yr Jl (Q5 (Z4 x))
  first | (simp at hc j;omega) | (simp at hc;omega)
 have kt:(Q5 (Z4 x)).take (ahead Jl (Q5 (Z4 x)))=XR (Z4 x).num:=by
  by_cases hd:(Z4 x).den=1
  ·obtain⟨Y,X⟩:=MN hd;rw[X,aV,Y]
  exact(VU hd).2.2.1
 have kr:JA ((Q5 (Z4 x)).take (ahead Jl (Q5 (Z4 x))))=x.num.natAbs:=by rw[kt,d,Jh]
 have o:x.num.natAbs<1000000000:=by
  have h1:=N4 (l:=XR (Z4 x).num) (by rw[d];exact JL _) (by rw[<-kt,aq];omega);rw[d,Jh]at h1;exact h1
 have H:x.den<1000000000:=by
  rw[<-K];by_cases hd:(Z4 x).den=1
  ·omega
  obtain⟨Y,X,e3,e4⟩:=VU hd;have h1:=N4 (l:=ax (Z4 x).den) (JL _) (by rw[<-e4,aM];omega);rw[Jh]at h1;exact h1
 refine QOn 6 I<|QA (V7 (ahead Jl (Q5 (Z4 x))) I I J7 I O)<|QL I (λ_ _ f k=>DK f (by rw[kt,d];exact JL _) (by rw[aq];omega)) λ_=>?_
 rw[kr];refine QOm 4 I ?_;refine Xl [(6,_),(8,_)] [(9,.int .i64 (x.den:Int))] wT ?_ ?_
 ·refine wA 4 I<|QA (Je I J7)<|QOm 3 I ?_
  refine QP I (λhc=>?_) λhc=>?_
  ·have hlt:=QOW hc;have hd:¬(Z4 x).den=1:=λg=>by have:=(RB (Z4 x)).2 g;have:=QOW hc;omega
   have L:=(VU hd).2.2.2;have E:JA ((Q5 (Z4 x)).drop (ahead Jl (Q5 (Z4 x))+1))=x.den:=by rw[L,Jh,K]
   refine wA 3 I<|QA (Qk I I O)<|QA (Zp ((ahead Jl (Q5 (Z4 x))+1)) I I J7 wM O)<|QL I (λ_ _ f k=>DK f (by rw[L];exact JL _) (by rw[aM];omega)) λ_=>?_
   rw[E];refine wB 2 I ?_;exact Q4 wU QNG w7
  have hd:(Z4 x).den=1:=(RB (Z4 x)).1 (by have:=QOX hc;have:=Yr Jl (Q5 (Z4 x));omega);refine QN ?_;exact Q4 ⟨rfl,rfl,(congrArg (λz:Int=>some (af .i64 z)) (by rw[<-K,hd];rfl)),trivial⟩ QNG w6
 have y:x.den<1000000000:=H;refine Xl [(9,_)] [(8,.int .i64 (x.num))] wS ?_ ?_
 ·refine wA 5 I ?_;refine QP I (λhc=>?_) λhc=>?_
  ·refine wA 2 I<|QA (Jv I I O)<|wB 2 I ?_
   exact Q4 ⟨rfl,(congrArg (λz:Int=>some (af .i64 z)) (wg<|QOW hc)),trivial⟩ QNG w6
  refine QN ?_;exact Q4 ⟨rfl,(congrArg (λz:Int=>some (af .i64 z)) (wg<|QOX hc)),trivial⟩ QNG w6
 refine wA 10 I ?_;exact Xm ((x.num,(x.den:Int),true):Int×Int×Bool) rfl (.tmp rfl (wO I I)) (rfl) λF h9=>λ_=>⟨rfl,rfl,o,y⟩
section
variable{P:Program}{N:Nat}{m:Sl}{S:World->Prop}{ty:TypeId}
def QBC{T:TypeId}{a b:Int}(hx:ev m x=some (.int .i64 a))(hy:ev m y=some (.int .i64 b))(h:0<b)(h0 : -9223372036854775807<=a)(h1:a<=9223372036854775807):Qt P N m S (.binOp .quo T x y yT) ty (.int .i64 (a.tdiv b)):=by
 have:=L1 (P:=P) (N:=N) (m:=m) (S:=S) (ty:=ty) (T:=T) (yT:=yT) hx hy O;have e:=eZ a b;have c:a.natAbs.div b.natAbs<=a.natAbs:=eY _ _;rw[fQ _ O]at this;exact this
end
theorem gI{x y:Int}(d:Fits F w)(h0:0<=x)(h1:x<=9223372036854775807)(c:0<=y)(f:y<=9223372036854775807):QX prog 105 [.int .i64 x,.int .i64 y] w F (.int .i64 (bP x.toNat y.toNat:Nat)):=by
 have:=QA5 (a:=x.toNat) (b:=y.toNat) d O O;rw[eH h0,eH c]at this;exact this
def zT(z:Int):(if 0-z>z then 0-z else z)=((z.natAbs:Nat):Int):=by split<;>omega
def Ax(n:Nat):ES n 1=ax n:=by
 rcases aA n with h | h
 ·subst h;unfold ES hd;rw[if_pos rfl,Xz];rfl
 exact Pf h
theorem zM{n:Int}{d:Nat}(h:0<d):n.tdiv ((bP n.natAbs d:Nat):Int)=(ai n d).num:=by
 rw[(Z0 (x:=n) (y:=(d:Int)) O).1];have e:(bP n.natAbs d:Nat)=aY n (d:Int):=by simp[aY]
 rw[e];exact Int.tdiv_eq_ediv_of_dvd (hJ (a:=n) (b:=(d:Int)))
theorem zN{n:Int}{d:Nat}(h:0<d):(d:Int)/((bP n.natAbs d:Nat):Int)=((ai n d).den:Int):=by
 rw[(Z0 (x:=n) (y:=(d:Int)) O).2];have e:(bP n.natAbs d:Nat)=aY n (d:Int):=by simp[aY]
 rw[e]
def gZ(n:Int){d:Int}(h:d≠0):ai (if d<0 then 0-n else n) (d.natAbs:Int)=ai n d:=by
 split
 ·rename_i g;rw[show((d.natAbs:Nat):Int) = -d by omega,Int.zero_sub];exact fN n d
 rw[show((d.natAbs:Nat):Int)=d by omega]
def zO{n:Int}{d:Nat}(h:0<d)(i:n.natAbs<=4000000000000000000)(hd:d<=4000000000000000000):(ai n d).num.natAbs<=4000000000000000000/\(ai n d).den<=4000000000000000000/\0<(ai n d).den:=by
 have b:=zM (n:=n) h;have j:=zN (n:=n) h;have a:=eZ n ((bP n.natAbs d:Nat):Int);have g:n.natAbs.div ((bP n.natAbs d:Nat):Int).natAbs<=n.natAbs:=eY _ _;have f:(d:Int)/((bP n.natAbs d:Nat):Int)<=(d:Int):=ee _ O;have c:=(ai n d).den_pos;rw[b]at a;omega
def U4(z:Int):(if z<0 then[45]else[])++ax z.natAbs=XR z:=by
 split
 ·rename_i h;rw[Zi h];rfl
 rw[Jd O];rfl
def vo(h : -9223372036854775808<=z/\z<=9223372036854775807):sz z<=64:=by
 rw[J3];omega
theorem QFJ{num a:Int}(H:Fits F w)(E : -9223372036854775808<=num/\num<=9223372036854775807)(hd : -9223372036854775808<=a/\a<=9223372036854775807)(h0:a≠0):QX prog 46 [.int .i64 num,.int .i64 a] w F (tx (Q5 (ai num a))):=by
 refine QU.go (G:=λF=>True) func46 H trivial ?_;refine wA 6 I ?_;refine Xl [(0,_),(1,_)] [(20,.bool (decide (num < -4000000000000000000\/num>4000000000000000000\/a < -4000000000000000000\/a>4000000000000000000)))] wT ?_ ?_
 ·refine wA 4 I ?_;refine QY (t:=9) rfl (λi=>?_) λi=>?_
  ·refine wB 12 I ?_;exact Q4 ⟨rfl,rfl,(congrArg (λb=>some (ar b)) (by rw[aS];simp_all;try omega)),trivial⟩ QNG w6
  refine wB 6 I ?_;refine QY (t:=13) rfl (λh=>?_) λh=>?_
  ·refine wB 8 I ?_;exact Q4 ⟨rfl,rfl,(congrArg (λb=>some (ar b)) (by rw[aS];simp_all;try omega)),trivial⟩ QNG w6
  refine wB 6 I ?_;refine QY (t:=17) rfl (λg=>?_) λg=>?_
  ·refine wB 4 I ?_;exact Q4 ⟨rfl,rfl,(congrArg (λb=>some (ar b)) (by rw[aS];simp_all;try omega)),trivial⟩ QNG w6
  refine wB 6 I ?_;exact Q4 ⟨rfl,rfl,(congrArg (λb=>some (ar b)) (by rw[aS];simp_all;try omega)),trivial⟩ QNG w6
 refine QP I (λhc=>?_) λhc=>?_
 ·refine wR I<|QL I (λ_ _ f k=>He f O) λX=>QMu I<|QL I (λ_ _ f k=>He f O) λU=>QL I (λ_ _ f k=>Gq f (k.1.2) (k.2) (h0) (wg<|vo E) (wg<|vo hd)) λ_=>wQ I<|QW ?_
  exact QO2 I I (rfl) wy
 have hb:¬(num < -4000000000000000000\/num>4000000000000000000\/a < -4000000000000000000\/a>4000000000000000000):=QOX hc;refine QN<|QD ?_
 refine Xl [] [(0,.int .i64 (if a<0 then 0-num else num)),(1,.int .i64 ((a.natAbs:Nat):Int))] trivial ?_ ?_
 ·refine wA 6 I ?_;refine QP I (λhc=>?_) λhc=>?_
  ·refine wA 2 I<|QA (Jv I I O)<|QMu I<|QA (Jv I I O)<|wB 3 I ?_
   exact Q4 ⟨(congrArg (λz:Int=>some (af .i64 z)) (if_pos (QOW hc)).symm),(congrArg (λz:Int=>some (af .i64 z)) (wg<|QOW hc)),trivial⟩ QNG w6
  refine QN ?_;exact Q4 ⟨(congrArg (λz:Int=>some (af .i64 z)) (if_neg (QOX hc)).symm),(congrArg (λz:Int=>some (af .i64 z)) (wg<|QOX hc)),trivial⟩ QNG w6
 have j:=gZ num h0;have b1:(if a<0 then 0-num else num).natAbs<=4000000000000000000:=by split<;>omega
 generalize (if a<0 then 0-num else num)=n1 at *
 obtain⟨c1,c2,Y⟩:=zO (n:=n1) (d:=a.natAbs) O b1 O;have hg:0<bP n1.natAbs a.natAbs:=Nat.gcd_pos_of_pos_right _ O;have y:=Hj (ai n1 (a.natAbs:Int)).num;have x:=TN (ai n1 (a.natAbs:Int)).den;have o:=vo (z:=(ai n1 (a.natAbs:Int)).num) O;have m:=vo (z:=((ai n1 (a.natAbs:Int)).den:Int)) O;have L:=zM (n:=n1) (d:=a.natAbs) O;have K:=zN (n:=n1) (d:=a.natAbs) O;refine wA 4 I<|QA (Jv I I O)<|QA (cD I I) ?_
 rw[zT];refine QMu I<|QL I (λ_ _ f k=>gI f O O O O) λ_=>wQ I<|QG<|JO QNG mixed wi ?_
 simp only[bZ];refine QK (QC I)<|QK (QC I)<|QK (QBC I I O O O) ?_
 rw[L];refine QK (QC I)<|QK (QC I)<|QK (WJ I I O O O) ?_
 rw[K];refine QK (QF I)<|QK (QF I)<|Qw<|QOo 6 I ?_
 refine Xl [(0,_),(1,_)] [(6,tx (if(ai n1 (a.natAbs:Int)).num<0 then[45]else[]))] wT ?_ ?_
 ·refine wA 6 I ?_;refine QP I (λhc=>?_) λhc=>?_
  ·refine wA 3 I ?_;exact Q4 ⟨rfl,rfl,(congrArg (λl=>some (tx l)) (if_pos (QOW hc)).symm),trivial⟩ QNG w6
  refine QN ?_;exact Q4 ⟨rfl,rfl,(congrArg (λl=>some (tx l)) (if_neg (QOX hc)).symm),trivial⟩ QNG w6
 refine wA 5 I<|QA (Jv I I O)<|QA (cD I I) ?_
 rw[zT];refine QL I (λ_ _ f k=>V5 f (least:=1) O O O) (λ_=>?_);simp only[bZ,Ax];refine QA (XU I I (by have e:=congrArg iz (U4 (ai n1 (a.natAbs:Int)).num);rw[ah]at e;omega))<|QOm 6 I ?_
 rw[U4];refine QOm 4 I ?_;refine QP I (λhc=>?_) λhc=>?_
 ·have c:¬((ai n1 (a.natAbs:Int)).den:Int)=1:=wg<|QOW hc
  refine wA 2 I<|QA (XU I I (by simp only[ah,aB,fX];omega))<|QMu I<|QL I (λ_ _ f k=>V5 f (least:=1) O O O) λ_=>?_
  simp only[bZ,Ax];refine QA (XU I I (by simp only[ah,aB,fX];omega))<|QOm 10 I ?_
  exact QO2 I I (by rw[<-j];exact congrArg (λl=>tx l) (by rw[<-S3 c,U6])) wy
 have c:((ai n1 (a.natAbs:Int)).den:Int)=1:=wg<|QOX hc
 refine QOn 9 I ?_;exact QO2 I I (by rw[<-j];exact congrArg (λl=>tx l) (Lx c).symm) wy
def N8:Q5 0=[48]:=by
 have h:(0:Rat).num=0:=rfl;unfold Q5;rw[if_pos wm,h,Jd wj];exact Xz
def U5(x:Rat):x.num<0↔x<0:=by rw[<-Rat.not_le,<-Rat.num_nonneg];omega
def TD(x:Rat):Ic (Q5 x)=Q5 (-x):=by
 unfold Ic GJ;rw[V6];by_cases h0:Q5 x=[48]
 ·rw[if_pos h0];have hx:x=0:=by
   have hv:=ZN x.num;by_cases hd:x.den=1
   ·rw[(MN hd).1]at h0;rw[h0]at hv;have:x.num=0:=by rw[<-hv];rfl
    exact Rat.num_eq_zero.1 this
   have:=(VU hd).2.2.1;have h1:=(VU hd).2.1;rw[h0]at h1;have h2:=(VU hd).1;have h3:0<(XR x.num).length:=by
    rcases aA (XR x.num).length with g | g
    ·have e:=aj g;unfold XR at e;rcases bQ x.num 0 with q | q
     ·have:=Zi q;unfold XR at this;rw[this]at e;cases e
     have:=Jd q;unfold XR at this;rw[this]at e;exact absurd e (YJ _)
    exact g
   rw[h0]at h2;simp at h1;omega
  subst hx;have e:(-0:Rat)=0:=wj;rw[e,if_neg wj,if_pos rfl]
 rw[if_neg h0];by_cases a:x.num<0
 ·rw[if_pos (show(decide (x.num<0))=true by simpa using a),if_pos wj,DP a];rfl
 rw[if_neg (show ¬(decide (x.num<0))=true by simpa using a),if_neg wj,if_neg wj];have h1:(-x).num<0:=by
  rw[fF];have:x.num≠0:=by
   intro e;have:=Rat.num_eq_zero.1 e;subst this;exact h0 N8
  omega
 have:=DP h1;rw[Rat.neg_neg]at this;exact this.symm
def Nx(x:Rat):GJ (Q5 x)=Na x.num:=by
 unfold GJ;rw[V6];by_cases h0:x=0
 ·subst h0;rw[if_pos N8];rfl
 have a:x.num≠0:=λe=>h0 (Rat.num_eq_zero.1 e);have h1:Q5 x≠[48]:=by
  intro e;have h2:=TD x;unfold Ic GJ at h2;rw[if_pos e,if_neg wj,if_pos rfl,e]at h2;by_cases hd:x.den=1
  ·have hv:=ZN x.num;rw[<-(MN hd).1,e]at hv;exact a hv.symm
  have:=(VU hd).2.2.1;have hv:=ZN x.num;rw[<-this,e]at hv;have h3:=(VU hd).2.1;rw[e]at h3;have h4:ahead Jl [48]=1:=wj;rw[h4]at h3;exact absurd h3 wj
 rw[if_neg h1];unfold Na;by_cases g:x.num<0
 ·rw[if_pos (show(decide (x.num<0))=true by simpa using g),if_pos g]
 rw[if_neg (show ¬(decide (x.num<0))=true by simpa using g),if_neg g,if_neg a]
def gC(x:Rat):Na x.num=if x<0 then -1 else if x=0 then 0 else 1:=by
 unfold Na;by_cases h:x<0
 ·rw[if_pos h,if_pos ((U5 x).2 h)]
 rw[if_neg h,if_neg (λg=>h ((U5 x).1 g))];by_cases h0:x=0
 ·rw[if_pos h0,if_pos (Rat.num_eq_zero.2 h0)]
 rw[if_neg h0,if_neg (λg=>h0 (Rat.num_eq_zero.1 g))]
theorem pY(x y:Rat):Na (x-y).num=Ky x y:=by
 rw[gC];unfold Ky;have h1:(x-y<0)↔x<y:=by grind
 have h2:(x-y=0)↔x=y:=by grind
 simp only[h1,h2]
def dp(n:Int):Q5 (n:Rat)=XR n:=by unfold Q5;rw[if_pos wu];simp
theorem xU{x y:Rat}(hF:Fits F w)(hx:J6 x<=100000)(hy:J6 y<=100000):QX prog 13 [tx (Q5 x),tx (Q5 y)] w F (tx (Q5 (x+y))):=by
 refine QU.go (G:=λF=>True) func13 hF trivial ?_;refine wA 8 I<|QL I (λ_ _ f k=>Un f (hx)) λc17=>J5 _ (λ_ _ f k=>k.2) λd=>QOm 12 I<|QL I (λ_ _ f k=>Un f (hy)) λc23=>J5 _ (λ_ _ f k=>k.2) λc=>QOm 14 I ?_
 refine QY (t:=28) rfl (λa=>?_) λa=>?_
 ·refine QOm 5 I ?_;refine QP I (λhc=>?_) λhc=>?_
  ·refine QG ?_;obtain⟨a1,a2,a3,a4⟩:=d a;obtain⟨b1,b2,b3,b4⟩:=c hc;have xd:=x.den_pos;have yd:=y.den_pos;have e1:(x.num*y.den).natAbs<1000000000*1000000000:=by rw[ey];exact bz a3 O
   have e2:(y.num*x.den).natAbs<1000000000*1000000000:=by rw[ey];exact bz b3 O
   have e3:(x.num*y.num).natAbs<1000000000*1000000000:=by rw[ey];exact bz a3 b3
   have e4:((x.den:Int)*y.den).natAbs<1000000000*1000000000:=by rw[ey];exact bz O O
   have b:(x.den:Int)*y.den≠0:=by have h1:=Yq x;have h2:=Yq y;exact e8 h1 h2
   rw[a1,a2,b1,b2];refine wA 3 I<|QA (We I I O)<|wB 2 I<|QA (We I I O)<|QA (Qk I I O)<|wB 2 I<|QA (We I I O)<|QL I (λ_ _ f k=>QFJ f O O (b)) λ_=>wQ I<|QW ?_
   exact QO2 I I (by rw[Vi]) wy
  refine QOn 3 I ?_;have Y:=Ji x;have X:=Jb x;have U:=Ji y;have L:=Jb y;have m1:=Y6 x.num y.den;have m2:=Y6 y.num x.den;have m3:=Y6 (x.den:Int) y.den;have m4:=Y6 x.num y.num;have m5:=IA (x.num*y.den) (y.num*x.den);have b:(x.den:Int)*y.den≠0:=e8 (Yq x) (Yq y);refine wA 2 I<|QL I (λ_ _ f k=>DN f (hx)) λo=>wB 3 I<|Qe Z2 λK=>Qe Z2 λH=>QV (vs:=[_,_]) I I I JE I .u1 .h2 wT<|QV (vs:=[_,_]) I I I JE I .here .h2 wT<|QOm 5 I<|QL I (λ_ _ f k=>DN f (hy)) λm=>wB 3 I<|Qe Z2 λE=>Qe Z2 λz=>QV (vs:=[_,_]) I I I JE I .u1 .h2 wT<|QV (vs:=[_,_]) I I I JE I .here .h2 wT<|QMt<|QG<|JO QNG mixed wi<|QK (wH I JE .u3)<|QK (wH I JE .here)<|QZ I (λ_ _ f k=>WZ f (k.1.2.1) (k.2.2) O O) λj=>QK (wH I JE .u1)<|QK (wH I JE .u2)<|QZ I (λ_ _ f k=>WZ f (k.1.2.1) (k.1.1.2.2) O O) λi=>QZ I (λ_ _ f k=>Lr f (k.1.2) (k.2) O O) λh=>QK (wH I JE .u2)<|QK (wH I JE .here)<|QZ I (λ_ _ f k=>WZ f (k.1.1.1.1.2.2) (k.1.1.1.2.2) O O) λg=>QZ I (λ_ _ f k=>Gq f (k.1.2) (k.2) (b) O O) λ_=>QK (QF I)<|Qw<|QD ?_
  refine QW ?_;exact QO2 I I (by rw[Vi]) wy
 refine QOm 4 I<|Zq I<|QOn 3 I ?_
 have Y:=Ji x;have X:=Jb x;have U:=Ji y;have L:=Jb y;have m1:=Y6 x.num y.den;have m2:=Y6 y.num x.den;have m3:=Y6 (x.den:Int) y.den;have m4:=Y6 x.num y.num;have m5:=IA (x.num*y.den) (y.num*x.den);have b:(x.den:Int)*y.den≠0:=e8 (Yq x) (Yq y);refine wA 2 I<|QL I (λ_ _ f k=>DN f (hx)) λo=>wB 3 I<|Qe Z2 λK=>Qe Z2 λH=>QV (vs:=[_,_]) I I I JE I .u1 .h2 wT<|QV (vs:=[_,_]) I I I JE I .here .h2 wT<|QOm 5 I<|QL I (λ_ _ f k=>DN f (hy)) λm=>wB 3 I<|Qe Z2 λE=>Qe Z2 λz=>QV (vs:=[_,_]) I I I JE I .u1 .h2 wT<|QV (vs:=[_,_]) I I I JE I .here .h2 wT<|QMt<|QG<|JO QNG mixed wi<|QK (wH I JE .u3)<|QK (wH I JE .here)<|QZ I (λ_ _ f k=>WZ f (k.1.2.1) (k.2.2) O O) λj=>QK (wH I JE .u1)<|QK (wH I JE .u2)<|QZ I (λ_ _ f k=>WZ f (k.1.2.1) (k.1.1.2.2) O O) λi=>QZ I (λ_ _ f k=>Lr f (k.1.2) (k.2) O O) λh=>QK (wH I JE .u2)<|QK (wH I JE .here)<|QZ I (λ_ _ f k=>WZ f (k.1.1.1.1.2.2) (k.1.1.1.2.2) O O) λg=>QZ I (λ_ _ f k=>Gq f (k.1.2) (k.2) (b) O O) λ_=>QK (QF I)<|Qw<|QD ?_
 refine QW ?_;exact QO2 I I (by rw[Vi]) wy
theorem xK{x y:Rat}(b:Fits F w)(hx:J6 x<=100000)(hy:J6 y<=100000):QX prog 12 [tx (Q5 x),tx (Q5 y)] w F (tx (Q5 (x-y))):=by
 have a:=WA y;refine QU.go (G:=λF=>True) func12 b trivial ?_;refine wA 9 I<|QL I (λ_ _ f k=>xO f O) λ_=>?_
 rw[TD];refine QL I (λ_ _ f k=>xU f (hx) (by rw[Mj];exact hy)) (λ_=>wQ I<|QW ?_);exact QO2 I I (by rw[Rat.sub_eq_add_neg]) wy
theorem IQ{x y:Rat}(a:Fits F w)(hx:J6 x<=100000)(hy:J6 y<=100000):QX prog 52 [tx (Q5 x),tx (Q5 y)] w F (.int .i64 (Ky x y)):=by
 refine QU.go (G:=λF=>True) func52 a trivial ?_;refine wA 9 I<|QL I (λ_ _ f k=>xK f O O) λ_=>QL I (λ_ _ f k=>DM f ) λ_=>wQ I<|QW ?_
 exact QO2 I I (by rw[Nx,pY]) wy
theorem O8(m:Fits F w)(o:s.length<=1000000)(h1:XK (aa (s.take (ahead Jl s)) [45])=true)(h2:ahead Jl s<s.length->XK (aa (s.drop (ahead Jl s+1)) [45])=true):QU prog 47 [tx s] w F Ri.v2 (λc F=>Yh F c.1 (YB (s.take (ahead Jl s)))/\(ahead Jl s<s.length->Yh F c.2 (YB (s.drop (ahead Jl s+1))))):=by
 have j:=Yr Jl s;refine QU.go (G:=λF=>True) func47 m trivial ?_;refine QNz<|Qe Z2 λb2=>Qe Z2 λb3=>QOm 11 I<|QL I (λ_ _ f k=>Wa f O) λ_=>QOm 8 I<|QA (Je I J7)<|QOm 3 I ?_
 refine QP I (λhc=>?_) λhc=>?_
 ·have hd:ahead Jl s=s.length:=by have:(ahead Jl s:Int)=(s.length:Int):=(by simpa using hc);omega
  refine wR I<|QL I (λ_ _ f k=>Wb f (by rw[hd,aV]at h1;exact h1) O) λi=>QL I (λ_ _ f k=>He f wj) λd=>QV (vs:=[_,_]) I I I JE I .u1 .h2 wT<|QV (vs:=[_,_]) I I I JE I .here .h2 wT<|QMt<|QW ?_
  exact Xm ((i,d):Ri×Ri) rfl (.Jo (c:=[_,_]) I JE .u1 (.Jo (c:=[_,_]) I JE .here .nil)) (rfl) λF h9=>⟨by rw[hd,aV];exact h9.1.2,λg=>O⟩
 have hd:ahead Jl s<s.length:=by rcases bI (ahead Jl s) s.length with g | g;exact g;exact absurd (show ahead Jl s=s.length by omega) λe=>by rw[e]at hc;simp at hc
 refine QOn 3 I<|JO (.cons _ (.cons _ .slnil)) mixed wi<|QK (QC I)<|QK (QC I)<|QK (V7 (ahead Jl s) rfl rfl J7 I O)<|QZ I (λ_ _ f k=>Wb f (h1) (by rw[aq];omega)) λb=>QK (QC I)<|QK (QC I)<|QK (Qk I I O)<|QK (Zp ((ahead Jl s+1)) I I J7 wM O)<|QZ I (λ_ _ f k=>Wb f (h2 hd) (by rw[aM];omega)) λa=>Jg (vs:=[_,_]) I I I JE I .u1 (.cons _ .slnil) (λ_ h=>h.1.1) .h2 wT<|Jg (vs:=[_,_]) I I I JE I .here (.cons _ .slnil) (λ_ h=>h.1.1) .h2 wT<|Qw<|QD<|QW ?_
 exact Xm ((b,a):Ri×Ri) rfl (.Jo (c:=[_,_]) I JE .u1 (.Jo (c:=[_,_]) I JE .here .nil)) (rfl) λF h9=>⟨h9.1.2,λ_=>h9.2⟩
def RO(s:List UInt8):Bool:=!J1 ((aa s [45]).take (ahead Jl (aa s [45])))||(au s [45]&&(aa s [45]).take (ahead Jl (aa s [45]))==[48])
def GX(s:List UInt8):List UInt8:=(aa s [45]).drop (ahead Jl (aa s [45])+1)
def Gm(s:List UInt8):Bool:=decide (ahead Jl (aa s [45])<(aa s [45]).length)
def Pm(s:List UInt8):Bool:=Gm s&&(!J1 (GX s)||(GX s==[48]||GX s==[49]))
def RL(s:List UInt8):Bool:=decide (600<ahead Jl (aa s [45]))||decide (600<(GX s).length)
def TV(s:List UInt8):Bool:=Gm s&&!(bP (JA ((aa s [45]).take (ahead Jl (aa s [45])))) (JA (GX s))==1)
def HM(s:List UInt8):Int:=if RO s=true then 1 else if Pm s=true then 1 else if RL s=true then 4 else if TV s=true then 1 else 0
def Nn{l:List UInt8}(h:(!J1 l)=false):0<l.length:=by
 rcases aA l.length with g | g
 ·rw[aj g]at h;simp[J1]at h
 exact g
theorem vd{p:UInt8->Bool}(h:∀c∈s,p c=true):s.takeWhile p=s:=by
 induction s with
 |nil=>rfl
 |cons c r ih=>rw[fa (h c wu),ih (λd hd=>h d (by simp[hd]))]
def LX{l:List UInt8}(h:XK l=true):sz (JA l:Int)<=4*l.length:=by
 rw[J3];have h1:=Ku h;have h2:10^l.length<=2^(4*l.length):=by rw[Nat.pow_mul];exact eF wj _
 simp;omega
theorem qL(s:List UInt8):(ZK 47 s).1=s.take (ahead Jl s)/\(ZK 47 s).2.1=s.drop (ahead Jl s+1)/\(ZK 47 s).2.2=decide (ahead Jl s<s.length):=by
 have a:(λc:UInt8=>!Jl c)=λc=>c != 47:=by funext c;simp[Jl,bne]
 have h1:=KF (λc:UInt8=>c != 47) s;have ha:ahead Jl s=(s.takeWhile λc=>c != 47).length:=by unfold ahead;rw[a]
 rw[ha];by_cases hc:s.contains 47=true
 ·have e:ZK 47 s=(s.takeWhile (· != 47),(s.dropWhile (· != 47)).drop 1,true):=by unfold ZK;rw[if_pos hc]
  rw[e];obtain⟨r,hr⟩:=BH (show(47:UInt8)∈s by simpa using hc);have hd:=h1.2;rw[hr]at hd;refine⟨h1.1.symm,?_,?_⟩
  ·show(s.dropWhile (· != 47)).drop 1=_;rw[hr,<-aE,hd]
  have:(s.takeWhile λc=>c != 47).length<s.length:=by
   have:=congrArg iz hd;rw[aM,aB]at this;omega
  simp[this]
 have e:ZK 47 s=(s,[],false):=by unfold ZK;rw[if_neg hc]
 rw[e];have h2:s.takeWhile (λc=>c != 47)=s:=by
  refine vd λc hm=>?_;have:c≠47:=by rintro rfl;exact hc (by simpa using hm)
  simpa using this
 rw[h2];simp
theorem jn(s:List UInt8):aa (ZK 47 s).1 [45]=(ZK 47 (aa s [45])).1/\au (ZK 47 s).1 [45]=au s [45]/\(ZK 47 s).2=(ZK 47 (aa s [45])).2:=by
 cases s with
 |nil=>exact⟨rfl,rfl,rfl⟩
 |cons c r =>
  by_cases hc:c=45
  ·subst hc;have e:aa (45::r) [45]=r:=rfl;rw[e];unfold ZK;have h0:((45:UInt8)::r).contains 47=r.contains 47:=wu;rw[h0];split
   ·exact⟨rfl,rfl,rfl⟩
   exact⟨rfl,rfl,rfl⟩
  have hp:au (c::r) [45]=false:=by
   rw[Yk wu];simpa using hc
  have e:aa (c::r) [45]=c::r:=by unfold aa;rw[if_neg (by rw[hp];decide)]
  rw[e];have b:∀l:List UInt8,au l [45]=false->aa l [45]=l:=λl h=>by unfold aa;rw[if_neg (by rw[h];decide)]
  have h3:au (ZK 47 (c::r)).1 [45]=false:=by
   unfold ZK;split
   ·by_cases a:c=47
    ·subst a;rfl
    rw[fa (by simpa using a),Yk wu];simpa using hc
   exact hp
  exact⟨b _ h3,by rw[h3,hp],rfl⟩
def ph(h1:RO s=false)(h2:Pm s=false)(hk:ahead Jl (aa s [45])<(aa s [45]).length):XK ((aa s [45]).take (ahead Jl (aa s [45])))=true/\XK (GX s)=true:=by
 have a:Gm s=true:=by simp[Gm];exact hk
 simp only[RO,fD,fL]at h1;simp only[Pm,a,ir,fD,fL]at h2;exact⟨Y5 h1.1,Y5 h2.1⟩
theorem qE(s:List UInt8):HM s=JW s:=by
 obtain⟨g,c,t3⟩:=jn s;obtain⟨c1,c2,h⟩:=qL (aa s [45]);have t4:(ZK 47 s).2.1=GX s:=by rw[t3,c2];rfl
 have t5:(ZK 47 s).2.2=Gm s:=by rw[t3,h];rfl
 have b:(aa s [45]).take (ahead Jl (aa s [45]))=(aa s [45]).take (ahead Jl (aa s [45])):=rfl;have hk:((aa s [45]).take (ahead Jl (aa s [45]))).length=ahead Jl (aa s [45]):=by
  rw[aq];have:=Yr Jl (aa s [45]);omega
 unfold JW WQ HM FG RO Pm RL TV;rw[g,c,t4,t5,c1,hk];generalize (aa s [45]).take (ahead Jl (aa s [45]))=a;generalize GX s=d;generalize Gm s=f;generalize au s [45]=n;have e:(!J1 a||(n&&a==[48])||(f&&(!J1 d||d==[48]||d==[49])))=((!J1 a||(n&&a==[48]))||(f&&(!J1 d||(d==[48]||d==[49])))):=by rw[Bool.or_assoc (!J1 d)]
 rw[e];cases (!J1 a||(n&&a==[48]))<;>cases (f&&(!J1 d||(d==[48]||d==[49])))<;>rfl
theorem Rr(hF:Fits F w)(hl:s.length<=9223372036854775807):QX prog 22 [tx s] w F (.int .i64 (JW s)):=by
 rw[<-qE];have hln:(aa s [45]).length<=s.length:=Ns _ _;have hah:=Yr Jl (aa s [45]);refine QU.go (G:=λF=>True) func22 hF trivial ?_;refine wA 11 I ?_;refine Xl [(0,_)] [(3,tx (aa s [45]))] wS ?_ ?_
 ·refine Xl [(0,_),(3,_)] [(16,.bool (au s [45]))] wT ?_ ?_
  ·refine wA 2 I<|QA (Je I J7)<|wB 2 I ?_
   refine QY (t:=12) rfl (λH=>?_) λH=>?_
   ·refine wB 3 I<|QA (Yj (i:=0) rfl rfl J7 (wg<|QOW H))<|wB 4 I ?_
    exact Q4 ⟨rfl,rfl,(congrArg (λb=>some (ar b)) (by have h0:0<s.length:=(wg<|QOW H);rw[Yk h0];exact GG I)),trivial⟩ QNG w6
   refine wB 5 I ?_;exact Q4 ⟨rfl,rfl,(congrArg (λb=>some (ar b)) (by have h0:s.length=0:=(wg<|QOX H);rw[aj h0];rfl)),trivial⟩ QNG w6
  refine QP I (λhc=>?_) λhc=>?_
  ·refine wA 2 I<|QA (Zp (1) rfl rfl J7 I (Ba hc))<|wB 2 I ?_
   exact Q4 ⟨rfl,(congrArg (λl=>some (tx l)) (by unfold aa;rw[if_pos hc];rfl)),trivial⟩ QNG w6
  refine QN ?_;exact Q4 ⟨rfl,(congrArg (λl=>some (tx l)) (by unfold aa;rw[hc];rfl)),trivial⟩ QNG w6
 refine wR I<|QL I (λ_ _ f k=>Wa f O) λ_=>wQ I<|QG ?_
 refine Xl [(3,_),(4,_)] [(36,.bool (RO s))] wT ?_ ?_
 ·refine wA 3 I<|QA (V7 ((ahead Jl (aa s [45]))) I I J7 I O)<|QL I (λ_ _ f k=>Ls f (by rw[aq];omega)) λ_=>QA (Jw I)<|QMu I ?_
  refine QY (t:=26) rfl (λc=>?_) λc=>?_
  ·refine wB 4 I<|JM I I<|JM I I<|JM I I<|JM I I<|wB 3 I ?_
   exact Q4 ⟨rfl,rfl,(congrArg (λb=>some (ar b)) (by simp[RO]at c ⊢;simp[c])),trivial⟩ QNG w7
  refine wB 3 I<|QA (Yj (i:=0) rfl rfl VI (by have h1:=Nn c;rw[aq]at h1;omega))<|wB 4 I ?_
  refine QY (t:=30) rfl (λY=>?_) λY=>?_
  ·refine wB 5 I<|QA (V7 ((ahead Jl (aa s [45]))) I I J7 I O)<|QJ I I<|QA (Yw I I)<|wB 4 I ?_
   exact Q4 ⟨rfl,rfl,(congrArg (λb=>some (ar b)) (by have h0:0<s.length:=(by have h1:=Nn c;rw[aq]at h1;omega);have hp:au s [45]=true:=(by rw[Yk h0,<-GG (z:=45) rfl];exact Y);simp[RO]at c ⊢;simp[c,hp])),trivial⟩ QNG w7
  refine wB 8 I ?_;exact Q4 ⟨rfl,rfl,(congrArg (λb=>some (ar b)) (by have h0:0<s.length:=(by have h1:=Nn c;rw[aq]at h1;omega);have hp:au s [45]=false:=(by rw[Yk h0,<-GG (z:=45) rfl];exact Y);simp[RO]at c ⊢;simp[c,hp])),trivial⟩ QNG w7
 refine QP I (λhc=>?_) λhc=>?_
 ·have x:RO s=true:=hc;refine wA 6 I ?_;exact QO2 I I (congrArg (af .i64) (by simp[HM,x])) wy
 have x:RO s=false:=hc;refine QOn 3 I ?_;refine Xl [(3,_),(4,_)] [(62,.bool (Pm s))] wT ?_ ?_
 ·refine wA 3 I<|QA (Je I J7)<|wB 2 I ?_
  refine QY (t:=41) rfl (λd=>?_) λd=>?_
  ·refine wB 5 I<|QA (Qk I I (by first | omega | (simp only[decide_eq_true_eq]at *;omega)))<|QJ I I<|QA (Zp (((ahead Jl (aa s [45]))+1)) I I J7 wM (wg<|QOW d))<|QJ I I<|QL I (λ_ _ f k=>Ls f (by rw[aM];omega)) λ_=>QJ I I<|QA (Jw I)<|wB 2 I ?_
   refine QY (t:=48) rfl (λm=>?_) λm=>?_
   ·refine wB 18 I ?_;exact Q4 ⟨rfl,rfl,(congrArg (λb=>some (ar b)) (by have h1:Gm s=true:=(by simp[Gm];simpa using d);simp[Pm,h1];simp at m;exact .inl m)),trivial⟩ QNG w7
   refine wB 5 I<|QA (Qk I I (by first | omega | (simp only[decide_eq_true_eq]at *;omega)))<|QJ I I<|QA (Zp (((ahead Jl (aa s [45]))+1)) I I J7 wM (wg<|QOW d))<|QJ I I<|QA (Yw I I)<|wB 4 I ?_
   refine QY (t:=55) rfl (λE=>?_) λE=>?_
   ·refine wB 9 I ?_;exact Q4 ⟨rfl,rfl,(congrArg (λb=>some (ar b)) (by have h1:Gm s=true:=(by simp[Gm];simpa using d);simp[Pm,h1];exact .inr (.inl (by simpa[GX]using E)))),trivial⟩ QNG w7
   refine wB 5 I<|QA (Qk I I (by first | omega | (simp only[decide_eq_true_eq]at *;omega)))<|QJ I I<|QA (Zp (((ahead Jl (aa s [45]))+1)) I I J7 wM (wg<|QOW d))<|QJ I I<|QA (Yw I I)<|wB 4 I ?_
   exact Q4 ⟨rfl,rfl,(congrArg (λb=>some (ar b)) (by have h1:Gm s=true:=(by simp[Gm];simpa using d);simp at m E;simp[Pm,h1,GX,m,E])),trivial⟩ QNG w7
  refine wB 7 I<|JM I I<|JM I I<|JM I I<|JM I I<|JM I I<|wB 2 I<|JM I I<|JM I I<|JM I I<|JM I I<|JM I I<|wB 3 I ?_
  exact Q4 ⟨rfl,rfl,(congrArg (λb=>some (ar b)) (by have h1:Gm s=false:=(by simp[Gm];simpa using d);simp[Pm,h1])),trivial⟩ QNG w6
 refine QP I (λhc=>?_) λhc=>?_
 ·have y:Pm s=true:=hc;refine wA 6 I ?_;exact QO2 I I (congrArg (af .i64) (by simp[HM,x,y])) wy
 have y:Pm s=false:=hc;refine QOn 3 I ?_;refine Xl [(3,_),(4,_)] [(72,.bool (RL s))] wT ?_ ?_
 ·refine wA 4 I ?_;refine QY (t:=65) rfl (λX=>?_) λX=>?_
  ·refine wB 8 I ?_;exact Q4 ⟨rfl,rfl,(congrArg (λb=>some (ar b)) (by have:=QOW X;simp[RL];left;omega)),trivial⟩ QNG w6
  refine wB 3 I<|QA (Je I J7)<|wB 3 I<|QA (Jv I I O)<|QJ I I<|QA (Jv I I O)<|wB 4 I ?_
  exact Q4 ⟨rfl,rfl,(congrArg (λb=>some (ar b)) (by rw[aS];have:=QOX X;simp[RL,GX];omega)),trivial⟩ QNG w6
 refine QP I (λhc=>?_) λhc=>?_
 ·have j:RL s=true:=hc;refine wA 6 I ?_;exact QO2 I I (congrArg (af .i64) (by simp[HM,x,y,j])) wy
 have j:RL s=false:=hc;have hk6:ahead Jl (aa s [45])<=600:=by simp[RL]at j;exact j.1
 refine QOn 7 I<|QA (Je I J7)<|QOm 3 I ?_
 refine QP I (λhc=>?_) λhc=>?_
 ·have hk:ahead Jl (aa s [45])<(aa s [45]).length:=wg<|QOW hc
  obtain⟨da,dd⟩:=ph x y hk;refine wR I<|QL I (λ_ _ f k=>O8 f (s:=(aa s [45])) (by have h6:(GX s).length<=600:=(by simp[RL]at j;exact j.2);have h7:(GX s).length=(aa s [45]).length-(ahead Jl (aa s [45])+1):=(by unfold GX;rw[aM]);omega) (by rw[YR da];exact da) λ_=>by rw[show(List.drop (ahead Jl (aa s [45])+1) (aa s [45]))=GX s from rfl,YR dd];exact dd) λc79=>QMu rfl<|QA (Qi rfl rfl)<|QA (Qi rfl rfl)<|Qe Z2 λb5=>Qe Z2 λb6=>QV (vs:=[_,_]) rfl rfl rfl JE rfl .u1 .h2 wT<|QV (vs:=[_,_]) rfl rfl rfl JE rfl .here .h2 wT<|QMt<|QG<|XD _ (λ_ _ f h=>aQ h.2.1.p (aQ (h.2.2 hk).p (aQ h.2.1.1.2.1 (h.2.2 hk).1.2.1))) λpp=>?_
  obtain⟨pa,pd,na,nd⟩:=pp;rw[X7 da]at pa;have pd2:=pd;rw[show YB ((aa s [45]).drop (ahead Jl (aa s [45])+1))=JA (GX s)from X7 dd]at pd2;have la:=pa.len;have ld:=pd2.len;have sa:=LX da;have sd:=LX dd;have h600:(GX s).length<=600:=by simp[RL]at j;exact j.2
  rw[aq]at sa;refine QB<|QA (QH I XN Qx)<|QA (Qa I Qx .u1 (.skip .h1))<|QA (QH I XN Qx)<|QA (Qa I Qx .here (.skip .h1)) ?_
  refine QL I (λ_ _ f k=>Rq f (a:=c79.1.l) (b:=c79.2.l) (ra:=c79.1.r) (rb:=c79.2.r) k.2.1.1 ((k.2.2 hk).1) (pa.dg) (pd.dg) (pa.nz) (pd.nz) O O) (λc86=>?_);rcases c86 with ⟨v86,l86⟩;dsimp only;refine J5 _ (λw F hF ⟨⟨⟨hT,_⟩,h79⟩,⟨h86,h86p⟩⟩=>aQ h86.2 h86p) (λp86=>QMv rfl<|QE<|QD ?_);refine Xl [] [(95,.bool (TV s))] trivial ?_ ?_
  ·have hgc:dv B9 l86=(bP (JA ((aa s [45]).take (ahead Jl (aa s [45])))) (JA (GX s)):Nat):=by
    rw[p86.2.2.2,Ag pa pd2];rfl
   have K:=PC p86.2.1 p86.2.2.1;have hsl:Gm s=true:=by simp[Gm];exact hk
   refine wA 2 I<|QA (Qb I Qd)<|wB 2 I ?_
   refine QY (t:=90) rfl (λU=>?_) λU=>?_
   ·refine wB 6 I ?_;exact Q4 ⟨(congrArg (λb=>some (ar b)) (by have h1:¬l86.length=1:=(by simp at U;omega);rw[aS];simp[TV,hsl];intro g;exact h1 (K.2 (by rw[hgc,g];rfl)).1)),trivial⟩ QNG w6
   have hn1:v86.n=1:=by simp at U;omega
   refine wB 3 I<|QA (Qs (n:=v86.n) (0) (λF h9=>(h9.2.1).1) rfl wM Qd Qo O)<|QJ I I<|QA (Qu (n:=v86.n) ((0)*1) (λF h9=>(h9.2.1).1) O rfl Qo (JN (o:=l86) O))<|wB 4 I ?_
   exact Q4 ⟨(congrArg (λb=>some (ar b)) (by have h1:l86.length=1:=O;rw[aS];simp[TV,hsl];exact not_congr ⟨λe=>by have h2:=K.1 ⟨h1,e⟩;rw[hgc]at h2;omega,λe=>(K.2 (by rw[hgc,e];rfl)).2⟩)),trivial⟩ QNG w6
  refine QP I (λhc=>?_) λhc=>?_
  ·have L:TV s=true:=hc;refine wA 6 I ?_;exact QO2 I I (congrArg (af .i64) (by simp[HM,x,y,j,L])) wy
  have L:TV s=false:=hc;refine QOn 8 I ?_;exact QO2 I I (congrArg (af .i64) (by simp[HM,x,y,j,L])) wy
 have L:TV s=false:=by have:=QOX hc;simp[TV,Gm];intro g;omega
 refine QOn 8 I ?_;exact QO2 I I (congrArg (af .i64) (by simp[HM,x,y,j,L])) wy
theorem Gu(b:Fits F w)(a:s.length<=1000000):QX prog 22 [tx s] w F (.int .i64 (JW s)) :=
 Rr b (bO a wj)
structure X3{α:Type}(l:List α)(f:α->Int) where
 i:Nat
 le:i<=l.length
 h:Qn (l.map f)=Qn ((l.map f).drop i)
section
variable{α:Type}[Inhabited α]{l:List α}{f:α->Int}
def TH(hi:i<l.length):(l.map f)[i]'(by simpa using hi)=f (el l i):=by rw[List.getElem_map,JB hi]
def X3.next(s:X3 l f)(hi:s.i<l.length)(h:f (el l s.i)=0):X3 l f:=⟨s.i+1,hi,by
 rw[s.h,WC (by simpa using hi) (by rw[TH hi];exact h)]⟩
def X3.hit(s:X3 l f)(hi:s.i<l.length)(h:f (el l s.i)≠0):Qn (l.map f)=f (el l s.i):=by
 rw[s.h,Bm (by simpa using hi) (by rw[TH hi];exact h),TH hi]
def X3.stop(s:X3 l f)(hi:l.length<=s.i):Qn (l.map f)=0:=by
 rw[s.h,az (by simpa using hi)];rfl
end
def X3.start{α:Type}(l:List α)(f:α->Int):X3 l f:=⟨0,aC _,rfl⟩
structure Wq{α:Type}(l:List α)(p:α->Bool) where
 i:Nat
 le:i<=l.length
 h:l.all p=(l.drop i).all p
section
variable{α:Type}[Inhabited α]{l:List α}{p:α->Bool}
def Wq.next(s:Wq l p)(hi:s.i<l.length)(h:p (el l s.i)=true):Wq l p:=⟨s.i+1,hi,by rw[s.h,Mz hi,ic,h,ir]⟩
def Wq.hit(s:Wq l p)(hi:s.i<l.length)(h:p (el l s.i)=false):l.all p=false:=by rw[s.h,Mz hi,ic,h,Bool.false_and]
def Wq.stop(s:Wq l p)(hi:l.length<=s.i):l.all p=true:=by rw[s.h,az hi];rfl
end
def Wq.start{α:Type}(l:List α)(p:α->Bool):Wq l p:=⟨0,aC _,rfl⟩
def D0(p:List UInt8×List UInt8):List Value:=[tx p.1,tx p.2]
def Yy(p:List UInt8×List UInt8):(D0 p).length=2:=rfl
theorem Lv{a b:List UInt8}(c:Fits F w)(ha:JW a=0)(hb:JW b=0):QX prog 52 [tx a,tx b] w F (.int .i64 (Ky (Jr a) (Jr b))):=by
 have h1:=Yx ha;have h2:=Yx hb;have:=IQ (x:=Jr a) (y:=Jr b) c O O;rw[<-(XW ha).1,<-(XW hb).1]at this;exact this
theorem qj{q:Option Addr}{l:List (List UInt8)}(g:Fits F w)(d:Qz F q n 1 (l.map tx))(a:l.length=n/\∀s∈l,s.length<=1000000)(h:n<=1000000):QX prog 15 [.slice q n c] w F (.int .i64 (Qn (l.map JW))):=by
 have b:=a.1;refine QU.go (G:=λF=>Qz F q n 1 (l.map tx)) func15 g d ?_;refine wA 12 I<|J2 (ι:=X3 l JW) [(0,_)] (λi=>[(3,.int .i64 ((i.i:Nat):Int))]) (λi=>l.length-i.i) (X3.start _ _) wS wS λi=>wA 5 I<|QA (Qb I D3)<|QOm 3 I ?_
 refine QP I (λhc=>?_) λhc=>?_
 ·have hi:i.i<l.length:=wg<|QOW hc
  refine QOn 8 I<|QA (Qs (n:=n) i.i w6 rfl rfl D3 JQ O)<|QA (Qu (n:=n) ((i.i)*1) w6 O rfl JQ (X0 (f:=tx) (l:=l) O))<|QL I (λ_ _ f k=>Gu f (a.2 _ (Qy hi))) λ_=>QOm 9 I ?_
  refine QP I (λhc=>?_) λhc=>?_
  ·refine wA 6 I<|X4 ?_
   exact QO2 I I (congrArg (af .i64) (i.hit hi (by simpa using hc))) wy
  refine QN<|Qf<|QOo 3 I<|QA (Qk I I O)<|wB 2 I ?_
  exact Qh (i.next hi (by simpa using hc)) (by show l.length-(i.i+1)<l.length-i.i;omega) wT QNG w7
 have hi:l.length<=i.i:=wg<|QOX hc
 refine Q7 ?_;refine wA 6 I ?_;exact QO2 I I (congrArg (af .i64) (i.stop hi)) wy
theorem S2{lo hi:List UInt8}(g:Fits F w)(b:lo.length<=1000000/\hi.length<=1000000):QX prog 51 [.agg #[tx lo,tx hi]] w F (.int .i64 (XF lo hi)):=by
 refine QU.go (G:=λF=>True) func51 g trivial ?_;refine QNz<|Qv I (vs:=[_,_]) I λb1=>QOm 5 I<|QA (QH I Vu JQ)<|QA (Qa I JQ .here .h1)<|QL I (λ_ _ f k=>Gu f (b.1)) λ_=>QOm 3 I ?_
 refine Xl [(1,_)] [(3,.int .i64 (Qn [JW lo,JW hi]))] wS ?_ ?_
 ·refine wA 6 I ?_;refine QP I (λhc=>?_) λhc=>?_
  ·refine QB<|QA (QH I WM JQ)<|QA (Qa I JQ .here (.skip .h1))<|QL I (λ_ _ f k=>Gu f (b.2)) λ_=>wB 2 I ?_
   exact Q4 ⟨rfl,(congrArg (λz:Int=>some (af .i64 z)) (by simp[Qn];simp at hc;simp[hc])),trivial⟩ QNG w7
  refine QN ?_;exact Q4 ⟨rfl,(congrArg (λz:Int=>some (af .i64 z)) (by simp[Qn];simp at hc;simp[hc])),trivial⟩ QNG w6
 refine wA 6 I ?_;refine QY (t:=14) rfl (λa=>?_) λa=>?_
 ·refine QJ I I ?_;obtain⟨d,c⟩:=Bl (by simpa using a);refine QA (QH I Vu JQ)<|QJ I I<|QA (Qa I JQ .here .h1)<|QJ I I<|QA (QH I WM JQ)<|QJ I I<|QA (Qa I JQ .here (.skip .h1))<|QJ I I<|QL I (λ_ _ f k=>Lv f (d) (c)) λ_=>QOm 5 I ?_
  refine QP I (λhc=>?_) λhc=>?_
  ·refine wA 6 I ?_;exact QO2 I I (congrArg (af .i64) (by unfold XF;rw[if_pos (by simpa using a),if_pos (QOW hc)])) wy
  refine QOn 9 I ?_;exact QO2 I I (congrArg (af .i64) (by unfold XF;rw[if_pos (by simpa using a),if_neg (QOX hc)];symm;simpa using a)) wy
 refine QOm 9 I<|Zq I<|QOn 9 I ?_
 exact QO2 I I (congrArg (af .i64) (by unfold XF;rw[if_neg (by simpa using a)])) wy
theorem Us{q:Option Addr}{l:List (List UInt8×List UInt8)}(g:Fits F w)(d:Qz F q n 2 (l.flatMap D0))(a:l.length=n/\∀s∈l,s.1.length<=1000000/\s.2.length<=1000000)(h:n<=1000000):QX prog 16 [.slice q n c] w F (.int .i64 (Qn (l.map λp=>XF p.1 p.2))):=by
 have b:=a.1;refine QU.go (G:=λF=>Qz F q n 2 (l.flatMap D0)) func16 g d ?_;refine wA 12 I<|J2 (ι:=X3 l λp=>XF p.1 p.2) [(0,_)] (λi=>[(3,.int .i64 ((i.i:Nat):Int))]) (λi=>l.length-i.i) (X3.start _ _) wS wS λi=>wA 5 I<|QA (Qb I ZG)<|QOm 3 I ?_
 refine QP I (λhc=>?_) λhc=>?_
 ·have hi:i.i<l.length:=wg<|QOW hc
  refine QOn 8 I<|QA (Qs (n:=n) i.i w6 rfl rfl ZG Xb O)<|QA (J0 (n:=n) (vs:=[tx (el l i.i).1,tx (el l i.i).2]) ((i.i)*2) w6 O rfl Xb I λj v hv=>JX (f:=D0) (l:=l) Yy O hv)<|QL I (λ_ _ f k=>S2 f (a.2 _ (Qy hi))) λ_=>QOm 9 I ?_
  refine QP I (λhc=>?_) λhc=>?_
  ·refine wA 6 I<|X4 ?_
   exact QO2 I I (congrArg (af .i64) (i.hit hi (by simpa using hc))) wy
  refine QN<|Qf<|QOo 3 I<|QA (Qk I I O)<|wB 2 I ?_
  exact Qh (i.next hi (by simpa using hc)) (by show l.length-(i.i+1)<l.length-i.i;omega) wT QNG w7
 have hi:l.length<=i.i:=wg<|QOX hc
 refine Q7 ?_;refine wA 6 I ?_;exact QO2 I I (congrArg (af .i64) (i.stop hi)) wy
def WL(a:List UInt8)(d:Int):Bool:=decide ((a.length:Int)<=2*d+2)&&(JW a==0&&(decide (((qO (numOf a)).length:Int)<=d)&&decide (((Fv a).length:Int)<=d)))
def R4(a:List UInt8):(numOf a).length<=a.length:=by unfold numOf;rw[aq];omega
def Mx(d:Int)(p:List UInt8×List UInt8):Bool:=WL p.1 d&&(WL p.2 d&&!decide (Ky (Jr p.1) (Jr p.2)>0))
def Ek{a:List UInt8}(h:WL a d=true):JW a=0:=by
 simp only[WL,aF,beq_iff_eq]at h;exact h.2.1
theorem QA6{a:List UInt8}(j:Fits F w)(i:a.length<=1000000)(hd:0<=d/\d<=1000000):QX prog 6 [tx a,.int .i64 d] w F (.bool (WL a d)):=by
 have m:=R4 a;refine QU.go (G:=λF=>True) func6 j trivial ?_;refine wA 8 I<|QA (Je I VI)<|QMu I<|QA (We I I O)<|QA (Qk I I O)<|wB 2 I ?_
 refine QY (t:=11) rfl (λc=>?_) λc=>?_
 ·refine wB 3 I<|QL I (λ_ _ f k=>Gu f (i)) λ_=>wB 4 I ?_
  refine QY (t:=16) rfl (λb=>?_) λb=>?_
  ·refine wB 3 I<|QL I (λ_ _ f k=>xN f O) λ_=>QJ I I<|QL I (λ_ _ f k=>xW f ) λ_=>QJ I I<|QA (Je I VI)<|wB 6 I ?_
   refine QY (t:=24) rfl (λh=>?_) λh=>?_
   ·refine wB 3 I<|QL I (λ_ _ f k=>xT f O) λ_=>QJ I I<|QA (Je I VI)<|QOm 9 I ?_
    exact QO2 I I ((congrArg ar (by have h1:=QOW c;simp[WL,h1];simp at b h;simp[b,h]))) wy
   refine QOm 10 I ?_;exact QO2 I I ((congrArg ar (by have h1:=QOW c;simp[WL,h1];simp at b h;simp[b];intro g;omega))) wy
  refine QOm 18 I ?_;exact QO2 I I ((congrArg ar (by have h1:=QOW c;simp at b;simp[WL,h1,b]))) wy
 refine QOm 23 I ?_;exact QO2 I I ((congrArg ar (by simp[WL,c]))) wy
@[reducible] def spT (a:Rat×Rat):Value:=.agg #[tx (Q5 a.1),tx (Q5 a.2)]
def LV(k:Nat)(a:Rat×Rat):Prop:=J6 a.1<=k/\J6 a.2<=k
theorem O7(a:Fits F w):QX prog 11 [tx s] w F (.agg #[tx s,tx s]):=by
 refine QU.go (G:=λF=>True) func11 a trivial ?_;refine QNz<|Qe Mh λb2=>QOm 6 I<|QA (XM I xz Mh (wP I I I))<|QV (vs:=[_,_]) I I I Xb I .here .h2 wT<|QMt<|QW ?_
 exact QO (()) I (.Jo (c:=[_,_]) I Xb .here .nil) (rfl) wy
theorem QJE{x:Rat}{b:Rat×Rat}(c:Fits F w)(hx:J6 x<=100000)(hb:LV 100000 b):QX prog 17 [tx (Q5 x),spT b] w F (.bool (decide (Ky b.1 x<=0)&&decide (Ky x b.2<=0))):=by
 refine QU.go (G:=λF=>True) func17 c trivial ?_;refine QNz<|Qv I (vs:=[_,_]) I λb3=>QOm 5 I<|QA (QH I Vu JQ)<|QA (Qa I JQ .here .h1)<|QMu I<|QL I (λ_ _ f k=>IQ f (hb.1) (hx)) λ_=>wB 2 I ?_
 refine QY (t:=10) rfl (λa=>?_) λa=>?_
 ·refine wB 3 I<|QA (QH I WM JQ)<|QJ I I<|QA (Qa I JQ .here (.skip .h1))<|QJ I I<|QL I (λ_ _ f k=>IQ f (hx) (hb.2)) λ_=>QOm 7 I ?_
  exact QO2 I I (congrArg ar (by rw[a];simp)) wy
 refine QOm 10 I ?_;exact QO2 I I (congrArg ar (by rw[a];simp)) wy
theorem QCv{x:Rat}(a:Fits F w)(hx:J6 x<=100000):QX prog 14 [tx (Q5 x)] w F (tx (Q5 (-x))):=by
 have:=xO (s:=Q5 x) a (wg<|WA x);rw[TD]at this;exact this
theorem uz{x:Rat}(a:Fits F w):QX prog 7 [tx (Q5 x)] w F (.int .i64 (Na x.num)):=by
 have:=DM (s:=Q5 x) a;rw[Nx]at this;exact this
def Ln(p:Rat×Rat):List Value:=[tx (Q5 p.1),tx (Q5 p.2)]
def xL(p:Rat×Rat):(Ln p).length=2:=rfl
section
open Go Go.RowKit
section
variable[Dr][df:Df]
def Y8(l:List Oper)(r:List Nat)(i:Nat):Bool:=match l[i]? with
 |some o=>o.after.all λe=>!(fk .any e)||!(r.contains e.on)
 |none=>false
def S5(l:List Oper)(i:Nat):Bool:=match l[i]? with
 |some o=>Jn o.op
 |none=>false
def BD(l:List Oper)(r:List Nat):Option Nat:=r.find? λi=>S5 l i&&Y8 l r i
def Bz(l:List Oper):Bool :=
 Region.noSelect l.toArray&&Va .any l.toArray l.length&&(fb l.length).all λj=>match l[j]? with
  |none=>false
  |some a=>(fb j).all λi=>match l[i]? with
   |none=>false
   |some oi=>if Jn oi.op||Jn a.op then(bB .any l.toArray j i||oi.apart l.toArray a)else true
theorem BU{l:List Oper}(h:Bz l=true){i j:Nat}(b:i<j){oi a:Oper}(hi:l[i]?=some oi)(d:l[j]?=some a)(c:(Jn oi.op||Jn a.op)=true):(bB .any l.toArray j i||oi.apart l.toArray a)=true:=by
 simp[Bz,aF]at h
 grind
section
variable{P:Program}{Q:Exit->Act->World->Prop}{S:World->Prop}
def Bi(P:Program)(l:List Oper)(Q:Exit->Act->World->Prop)(S:World->Prop):Nat->List Nat->Act->World->Prop
 |0,_,a,w=>Q .normal a w
 |n+1,r,a,w=>match BD l r with
  |some i=>∃o v,l[i]?=some o/\YieldsIf P l.toArray S o v a/\Bi P l Q S n (r.erase i) (a.put o.dst v) w
  |none=>∀i∈r,Y8 l r i=true->wpOp P l.toArray (λ_ _ _=>False) i (λb w'=>S w'/\Bi P l Q S n (r.erase i) b w') a w
theorem jo{l:List Oper}(hB:Bz l=true)(hQ:∀c a d v w,Q (.panic c) (Act.put a d v) w->Q (.panic c) a w):
  ∀(m:Nat) (r:List Nat) (listed:Array Bool) (a:Act) (w:World),r.length=m->r.Pairwise (·<·)->(∀i,i∈r↔i<l.length/\listed.getD i true=false)->listed.size=l.length ->
   (∀j oj,l.toArray[j]?=some oj->listed.getD j false=true->∀e∈oj.after,fk .any e=true->listed.getD e.on false=true)->S w->Bi P l Q S m r a w->wpAnyH P .any l.toArray Q S m listed a w:=by
 have hB':=hB;simp only[Bz,aF]at hB';obtain⟨⟨hns,F⟩,_⟩:=hB';have hsel:=Region.noSelect_spec hns;intro m
 induction m with
 |zero =>
  intro r listed a w hm X hr hsz hcl hS h;have:r=[]:=List.length_eq_zero_iff.1 hm;subst this;refine⟨?_,h⟩;rw[List.eq_nil_iff_forall_not_mem];intro i hi;obtain⟨h1,o,ho,_⟩:=mem_ready.1 hi
  grind
 |succ m ih =>
  intro r listed a w hm X hr hsz hcl hS h;have b:∀j,j∈eK .any l.toArray listed↔j∈r/\Y8 l r j=true:=by
   intro j;rw[mem_ready,hr j];constructor
   ·rintro⟨h1,o,ho,h2⟩;have y:j<l.length:=by grind
    refine⟨⟨y,h1⟩,?_⟩;unfold Y8
    grind
   rintro⟨⟨y,h1⟩,h2⟩;obtain⟨o,ho,hed⟩:=Xo F y;refine⟨h1,o,ho,λe he hb=>?_⟩;unfold Y8 at h2;have x:l[j]?=some o:=by simp_all
   rw[x,Array.all_eq_true_iff_forall_mem]at h2
   grind
  have next:∀j,j∈eK .any l.toArray listed->∀Y w',S w'->Bi P l Q S m (r.erase j) Y w'->wpAnyH P .any l.toArray Q S m (listed.setIfInBounds j true) Y w':=by
   intro j E Y w' hS' h';have hjr:=((b j).1 E).1;have hjsz:j<listed.size:=by simp_all
   refine ih (r.erase j) _ Y w' (by grind) (X.sublist List.erase_sublist) (λk=>?_) (by simpa using hsz) (λk ok hk hl e he hb=>?_) hS' h'
   ·rw[List.Nodup.mem_erase_iff (X.imp λh=>Nat.ne_of_lt h),hr k];by_cases f:j=k
    ·subst f;simp
    rw[getD_set_ne true f];simp[Ne.symm f]
   by_cases f:j=k
   ·subst f;obtain⟨_,oj,g,z⟩:=mem_ready.1 E;have:ok=oj:=eE (hk.symm.trans g);subst this;exact getD_set_true (z e he hb)
   rw[getD_set_ne false f]at hl;exact getD_set_true (hcl k ok hk hl e he hb)
  unfold Bi at h;cases hp:BD l r with
  |some j =>
   rw[hp]at h;obtain⟨oj,v,H,hy,h'⟩:=h;have g:l.toArray[j]?=some oj:=by simpa using H
   have hjr:j∈r:=List.mem_of_find?_eq_some hp;have K:=List.find?_some hp;simp only[aF]at K;have hq:Jn oj.op=true:=by have:=K.1;unfold S5 at this;rw[H]at this;exact this
   have E:j∈eK .any l.toArray listed:=(b j).2 ⟨hjr,K.2⟩;have hjs:=mem_ready.1 E;have happ:∀k ok,l.toArray[k]?=some ok->k≠j->listed.getD k true=false->(∀e∈ok.after,fk .any e=true->e.on≠j)->oj.apart l.toArray ok=true:=by
    intro k ok U hkj hun hno;have hnw:bB .any l.toArray k j=false:=by
     cases hv:bB .any l.toArray k j with
     |false=>rfl
     |true =>
      obtain⟨o',x,e,he,hb,L⟩:=fy hv;have:o'=ok:=eE (x.symm.trans U);subst this;exact absurd L (hno e he hb)
    have hnw2:bB .any l.toArray j k=false:=by
     cases hv:bB .any l.toArray j k with
     |false=>rfl
     |true =>
      obtain⟨o',x,e,he,hb,L⟩:=fy hv;obtain⟨_,o2,ho2,z⟩:=hjs;have:o'=o2:=eE (x.symm.trans ho2);subst this;have:=z e he hb;rw[L,getD_both hun]at this;cases this
    rcases Nat.lt_or_gt_of_ne hkj with y | hgt
    ·have:=BU hB y (by simpa using U) (by simpa using g) (by simp[hq]);rw[hnw2]at this;exact EY (by simpa using this)
    have:=BU hB hgt (by simpa using g) (by simpa using U) (by simp[hq]);rw[hnw]at this;simpa using this
   exact wpAnyH_first g hsel (λc a w h=>hQ c a _ v w h) m listed a w happ E hy hS (next j E _ w hS h')
  |none =>
   rw[hp]at h
   match r,hm,X,hr,h,b,next with
   |i::r,hm,X,hr,h,b,next =>
    have hil:=(hr i).1 wu;have hmin:∀j,j<i->listed.getD j false=true:=by
     intro j E;cases hv:listed.getD j false with
     |true=>rfl
     |false =>
      have hjl:j<l.length:=O;have:=(hr j).2 ⟨hjl,getD_in O hv⟩;rcases List.mem_cons.1 this with e | e
      ·omega
      have:=(List.pairwise_cons.1 X).1 j e;omega
    obtain⟨oi,hoi,hed⟩:=Xo F hil.1;have hri:i∈eK .any l.toArray listed:=mem_ready.2 ⟨hil.2,oi,hoi,λe he hb=>hmin _ (hed e he hb)⟩;refine⟨λh0=>(by rw[h0]at hri;cases hri),λj E=>?_⟩;have hj':=(b j).1 E;exact RW (wpOp_mono (λY w' h=>⟨h.1,next j E Y w' h.1 h.2⟩) (h j hj'.1 hj'.2))
theorem P8{l:List Oper}{Q':Exit->Act->World->Prop}(g:Bz l=true)(f:∀c a w,¬Q' (.panic c) a w){a:Act}{w:World}(b:S w)(h:Bi P l Q' S l.length (fA 0 l.length) a w):
  wpAny P .any l.toArray Q' l.length (Array.replicate l.length false) a w:=by
 refine wpAny_of_held _ _ _ _ (jo g (λc a d v w h=>absurd h (f c _ w)) _ _ _ a w wu List.pairwise_lt_range' (λi=>?_) wu (λj k _ m=>(by grind[getD_replicate_false])) b h);simp_all
theorem Nj{b:Nat}{a:Act}{l:List Oper}(hm:P.follows .mixedOrders=true)(f:Bz l=true)(d:S { w with drawn:=w.drawn+1 })
  (h:Bi P l (Xp (Q .normal)) S l.length (fA 0 l.length) a { w with drawn:=w.drawn+1 }):(Code.region b l.toArray true).wp P Q a w:=by
 refine wp_region_any hm ?_;have:=P8 f (λc a w h=>h) d h;simpa using VH (λe a w h=>by cases e<;>first | exact h | trivial) _ _ _ _ this
end
section
variable{P:Program}{Q:Exit->Act->World->Prop}{N:Nat}{m:Sl}{E E0:Env}{l:List Oper}{r r':List Nat}{w0:World}{F0:Gs}{bs:List (Nat×Obj)}{G:Gs->Prop}
def JT(P:Program)(l:List Oper)(Q:Exit->Act->World->Prop)(E0:Env)(r:List Nat)(N:Nat)(m:Sl)(E:Env):Prop:=(∀w,St E w->St E0 w)->∀a w,JH N m a->St E w->Bi P l Q (St E0) r.length r a w
def DO(P:Program)(l:List Oper)(Q:Exit->Act->World->Prop)(E0:Env)(r:List Nat):Act->World->Prop:=λa w=>Bi P l Q (St E0) r.length r a w
theorem ZT(h:JT P l Q E0 r N m E):JD P l.toArray (Xp (DO P l Q E0 r)) E0 [] N m E:=λc a w ha b=>h c a w ha b
theorem EP(h:i∈r):r.length=(r.erase i).length+1:=by
 grind
theorem KE(i:Nat){o:Oper}(hp:BD l r=some i)(c:l[i]?=some o)(he:r.erase i=r')(h:JD P l.toArray (Xp (DO P l Q E0 r')) E0 [o] N m E):JT P l Q E0 r N m E:=by
 intro d a w ha b;subst he;have hi:=List.mem_of_find?_eq_some hp;rw[EP hi];unfold Bi;rw[hp];have f:Jn o.op=true:=by
  have:=List.find?_some hp;simp_all[aF,S5]
 rcases h d a w ha b with ⟨_,v,h1,h2⟩ | ⟨h1,_⟩
 ·exact⟨o,v,c,h1,h2⟩
 simp_all
theorem Nk{o:Oper}(ho:l[i]?=some o)(hq:Jn o.op=false)(h:JD P l.toArray (Xp (DO P l Q E0 r')) E0 [o] N m E)(hE:∀w,St E w->St E0 w){a:Act}{w:World}(ha:JH N m a)(hw:St E w):
  wpOp P l.toArray (λ_ _ _=>False) i (λa' w'=>St E0 w'/\DO P l Q E0 r' a' w') a w:=by
 have ho':l.toArray[i]?=some o:=by simp_all
 unfold wpOp;simp[ho'];rcases h hE a w ha hw with ⟨h1,_⟩ | ⟨_,h2⟩
 ·simp_all
 split
 ·rename_i g;rw[if_pos g]at h2;exact .inl h2
 rename_i g;rw[if_neg g]at h2;exact h2
theorem QHI(hp:BD l r=none)(h:∀i∈r.filter (Y8 l r),∃o,l[i]?=some o/\Jn o.op=false/\JD P l.toArray (Xp (DO P l Q E0 (r.erase i))) E0 [o] N m E)(hr:r≠[]:=by decide):JT P l Q E0 r N m E:=by
 intro j a w ha c;obtain⟨x,s,rfl⟩:=List.exists_cons_of_ne_nil hr;show Bi P l Q _ (s.length+1) _ a w;unfold Bi;rw[hp];intro i hi b;obtain⟨o,f,d,g⟩:=h i (List.mem_filter.2 ⟨hi,b⟩)
 grind[Nk,wpOp_mono,DO,EP]
theorem BM(i:Nat){o:Oper}(hp:BD l r=none)(c:r.filter (Y8 l r)=[i])(b:l[i]?=some o)(a:Jn o.op=false)(he:r.erase i=r')(h:JD P l.toArray (Xp (DO P l Q E0 r')) E0 [o] N m E)(hr:r≠[]:=by decide):JT P l Q E0 r N m E :=
 QHI hp (λk hk=>by simp_all) hr
theorem QAc(i j:Nat){o u:Oper}{a:List Nat}(hp:BD l r=none)(f:r.filter (Y8 l r)=[i,j])(d:l[i]?=some o)(hu:l[j]?=some u)(c:Jn o.op=false)(b:Jn u.op=false)(he:r.erase i=r')(he2:r.erase j=a)
  (h:JD P l.toArray (Xp (DO P l Q E0 r')) E0 [o] N m E) (h2:JD P l.toArray (Xp (DO P l Q E0 a)) E0 [u] N m E) (hr:r≠[]:=by decide):JT P l Q E0 r N m E :=
 QHI hp (λk hk=>by
  grind) hr
theorem kU{f:Nat}{c:List _}(b:c.Sublist bs)(hm:P.follows .mixedOrders=true)(g:Bz l=true)(hr:fA 0 l.length=r)(h:JT P l (Xp (Q .normal)) ⟨w0,F0,c,G⟩ r N m ⟨w0,F0,bs,G⟩):J P (.region f l.toArray true) Q N m ⟨w0,F0,bs,G⟩:=λa w ha d=>by
 subst hr;refine Nj hm g ((d.imp b λ_ h=>h).drew) ?_;have:=h (λ_ h=>h.imp b λ_ h=>h) a _ ha d.drew;simp_all
theorem T9(h:Fin Q .normal N m E):JT P l (Xp (Q .normal)) E0 [] N m E:=λ_=>h
end
end
end
end Go.Proofs.YtogkbhegfnklhaaGreatDoor
namespace Ig
def Zj:List Int->List Int->Bool
 |x::a,y::b=>decide (y<x)||(decide (x=y)&&Zj a b)
 |_::_,[]=>true
 |[],_=>false
def before(a b:List Int):Bool:=decide (b.sum<a.sum)||(decide (a.sum=b.sum)&&Zj a b)
def DY:∀a:List Int,Zj a a=false
 |[]=>rfl
 |x::a=>by simp[Zj,DY a]
def Ez:∀ {a b c:List Int},Zj a b=true->Zj b c=true->Zj a c=true
 |[],_,_,h,_=>by simp[Zj]at h
 |_::_,[],_,_,h=>by simp[Zj]at h
 |_::_,_::_,[],_,_=>rfl
 |x::a,y::b,z::c,h,k=>by
  simp only[Zj,ek,aF,decide_eq_true_eq]at h k ⊢;rcases h with h | ⟨h,f⟩<;>rcases k with k | ⟨k,d⟩
  ·left;omega
  ·left;omega
  ·left;omega
  right;exact⟨O,Ez f d⟩
def SB:∀a b:List Int,a=b\/Zj a b=true\/Zj b a=true
 |[],[]=>.inl rfl
 |[],_::_=>.inr (.inr rfl)
 |_::_,[]=>.inr (.inl rfl)
 |x::a,y::b=>by
  simp only[Zj,ek,aF,decide_eq_true_eq,List.cons.injEq];rcases eP x y with h | h | h
  ·right;right;left;omega
  ·rcases SB a b with k | k | k
   ·left;exact⟨h,k⟩
   ·right;left;right;exact⟨h,k⟩
   right;right;right;exact⟨h.symm,k⟩
  right;left;left;omega
def before_irrefl(a:List Int):before a a=false:=by simp[before,DY]
def before_trans{a b c:List Int}(h:before a b=true)(k:before b c=true):before a c=true:=by
 simp only[before,ek,aF,decide_eq_true_eq]at h k ⊢;rcases h with h | ⟨h,f⟩<;>rcases k with k | ⟨k,d⟩
 ·left;omega
 ·left;omega
 ·left;omega
 right;exact⟨O,Ez f d⟩
def W9(a b:List Int):a=b\/before a b=true\/before b a=true:=by
 simp only[before,ek,aF,decide_eq_true_eq];rcases eP a.sum b.sum with h | h | h
 ·right;right;left;exact h
 ·rcases SB a b with k | k | k
  ·left;exact k
  ·right;left;right;exact⟨h,k⟩
  right;right;right;exact⟨h.symm,k⟩
 right;left;left;exact h
abbrev Tm:=Rat×List Int
def J8:List Tm->List Int->Rat
 |[],_=>0
 |t::p,k=>(if t.2=k then t.1 else 0)+J8 p k
def FC(p q:List Tm)(k:List Int):J8 (p++q) k=J8 p k+J8 q k:=by
 induction p with
 |nil=>simp[J8,bj]
 |cons t p ih=>simp only[eT,J8,ih,aW]
structure Canon(p:List Tm):Prop where
 srt:p.Pairwise λx y=>before x.2 y.2=true
 nz:∀t∈p,t.1≠0
def Canon.nil:Canon []:=⟨fe,λ_ h=>by cases h⟩
def Canon.tail{t:Tm}{p:List Tm}(h:Canon (t::p)):Canon p:=⟨(List.pairwise_cons.1 h.srt).2,λx hx=>h.nz x (bw _ hx)⟩
def Wn{p:List Tm}{k:List Int}(h:∀t∈p,t.2≠k):J8 p k=0:=by
 induction p with
 |nil=>rfl
 |cons t p ih=>rw[J8,if_neg (h t wu),ih (λx hx=>h x (by simp[hx])),bj]
def Canon.head{t:Tm}{p:List Tm}(h:Canon (t::p)):J8 (t::p) t.2=t.1:=by
 rw[J8,if_pos rfl,Wn,bm];intro x hx e;have:=(List.pairwise_cons.1 h.srt).1 x hx;rw[e,before_irrefl]at this;cases this
def Canon.early{t:Tm}{p:List Tm}(h:Canon (t::p)){k:List Int}(hk:before k t.2=true):J8 (t::p) k=0:=Wn λx hx e=>by
 rcases List.mem_cons.1 hx with rfl | hx
 ·rw[e,before_irrefl]at hk;cases hk
 have:=before_trans hk ((List.pairwise_cons.1 h.srt).1 x hx);rw[e,before_irrefl]at this;cases this
def SR:∀ {p q:List Tm},Canon p->Canon q->(∀k,J8 p k=J8 q k)->p=q
 |[],[],_,_,_=>rfl
 |[],y::q,_,c,h=>by
  have:=h y.2;rw[c.head]at this;exact absurd this.symm (c.nz y wu)
 |x::p,[],hp,_,h=>by
  have:=h x.2;rw[hp.head]at this;exact absurd this (hp.nz x wu)
 |x::p,y::q,hp,c,h=>by
  rcases W9 x.2 y.2 with e | e | e
  ·have h1:=h x.2;rw[hp.head]at h1;have h2:=c.head;rw[<-e]at h2;rw[h2]at h1;have d:x=y:=Prod.ext h1 e;subst d;congr 1;refine SR hp.tail c.tail (λk=>?_);have h3:=h k;simp only[J8]at h3;generalize J8 p k=a at *
   generalize J8 q k=b at *
   grind
  ·have h1:=h x.2;rw[hp.head,c.early e]at h1;exact absurd h1 (hp.nz x wu)
  have h1:=h y.2;rw[c.head,hp.early e]at h1;exact absurd h1.symm (c.nz y wu)
def VX:List Tm->Tm->List Tm
 |[],t=>if t.1=0 then[]else[t]
 |x::p,t=>if before x.2 t.2=true then x::VX p t else if x.2=t.2 then(if x.1+t.1=0 then p else(x.1+t.1,t.2)::p)else if t.1=0 then x::p else t::x::p
def I9(p:List Tm)(t:Tm)(k:List Int):J8 (VX p t) k=J8 p k+(if t.2=k then t.1 else 0):=by
 induction p with
 |nil =>
  unfold VX;split
  ·rename_i h;rw[h];simp[J8,bm]
  simp[J8,bj,bm]
 |cons x p ih =>
  unfold VX;split
  ·simp only[J8,ih,aW]
  split
  ·rename_i h;split
   ·rename_i h0;simp only[J8];rw[h];by_cases hk:t.2=k
    ·simp only[hk,if_true];rw[aW,eO (J8 p k),<-aW,h0,bj]
    simp only[hk,if_false,bj,bm]
   simp only[J8];rw[h];by_cases hk:t.2=k
   ·simp only[hk,if_true];rw[aW,aW,eO t.1]
   simp only[hk,if_false,bj,bm]
  split
  ·rename_i h0;rw[h0];simp[bm]
  simp only[J8];rw[eO]
def Cj{p:List Tm}{t x:Tm}(h:x∈VX p t):x∈p\/x.2=t.2:=by
 induction p with
 |nil =>
  unfold VX at h;split at h
  ·cases h
  simp at h;subst h;exact .inr rfl
 |cons y p ih =>
  unfold VX at h;split at h
  ·rcases List.mem_cons.1 h with rfl | h
   ·exact .inl wu
   rcases ih h with h | h
   ·exact .inl (by simp[h])
   exact .inr h
  split at h
  ·split at h
   ·exact .inl (by simp[h])
   rcases List.mem_cons.1 h with rfl | h
   ·exact .inr rfl
   exact .inl (by simp[h])
  split at h
  ·exact .inl h
  rcases List.mem_cons.1 h with rfl | h
  ·exact .inr rfl
  exact .inl h
def Canon.VX{p:List Tm}(h:Canon p)(t:Tm):Canon (Ig.VX p t):=by
 induction p with
 |nil =>
  unfold Ig.VX;split
  ·exact Canon.nil
  rename_i h0;exact⟨List.pairwise_singleton _ _,λx hx=>by simp at hx;subst hx;exact h0⟩
 |cons x p ih =>
  have hs:=List.pairwise_cons.1 h.srt;unfold Ig.VX;split
  ·rename_i hb;have hc:=ih h.tail;refine⟨List.pairwise_cons.2 ⟨λy hy=>?_,hc.srt⟩,λy hy=>?_⟩
   ·rcases Cj hy with hy | hy
    ·exact hs.1 y hy
    rw[hy];exact hb
   rcases List.mem_cons.1 hy with rfl | hy
   ·exact h.nz _ wu
   exact hc.nz y hy
  rename_i hb;split
  ·rename_i he;split
   ·exact h.tail
   rename_i h0;refine⟨List.pairwise_cons.2 ⟨λy hy=>?_,hs.2⟩,λy hy=>?_⟩
   ·have:=hs.1 y hy;rw[he]at this;exact this
   rcases List.mem_cons.1 hy with rfl | hy
   ·exact h0
   exact h.nz y (by simp[hy])
  rename_i he;split
  ·exact h
  rename_i h0;have hb':before t.2 x.2=true:=by
   rcases W9 x.2 t.2 with q | q | q
   ·exact absurd q he
   ·exact absurd q hb
   exact q
  refine⟨List.pairwise_cons.2 ⟨λy hy=>?_,h.srt⟩,λy hy=>?_⟩
  ·rcases List.mem_cons.1 hy with rfl | hy
   ·exact hb'
   exact before_trans hb' (hs.1 y hy)
  rcases List.mem_cons.1 hy with rfl | hy
  ·exact h0
  exact h.nz y hy
def DV(l:List Tm):List Tm:=l.foldl VX []
def PS(l:List Tm):∀ {p:List Tm},Canon p->Canon (l.foldl VX p)/\∀k,J8 (l.foldl VX p) k=J8 p k+J8 l k:=by
 induction l with
 |nil=>intro p h;exact⟨h,λk=>by simp[J8,bm]⟩
 |cons t l ih =>
  intro p h;obtain⟨h1,h2⟩:=ih (h.VX t);exact⟨h1,λk=>by rw[List.foldl_cons,h2,I9,J8,aW]⟩
def FF(l:List Tm):Canon (DV l):=(PS l Canon.nil).1
def LA(l:List Tm)(k:List Int):J8 (DV l) k=J8 l k:=by
 rw[DV,(PS l Canon.nil).2,J8,bj]
def UL(p q:List Tm):Prop:=∀k,J8 p k=J8 q k
def UL.refl(p:List Tm):UL p p:=λ_=>rfl
def UL.trans{p q r:List Tm}(h:UL p q)(a:UL q r):UL p r:=λk=>(h k).trans (a k)
def U8{p l:List Tm}(hp:Canon p)(h:UL p l):p=DV l:=SR hp (FF l) λk=>by rw[LA,h]
def PE{p:List Tm}(hp:Canon p):DV p=p:=(U8 hp (UL.refl p)).symm
def UL.perm{l m:List Tm}(h:l.Perm m):UL l m:=by
 intro k
 induction h with
 |nil=>rfl
 |cons x _ ih=>rw[J8,J8,ih]
 |swap x y l=>simp only[J8];rw[<-aW,<-aW];congr 1;exact eO _ _
 |trans _ _ h1 h2=>exact h1.trans h2
def UL.cons{p q:List Tm}(t:Tm)(h:UL p q):UL (t::p) (t::q):=λk=>by rw[J8,J8,h]
def eqv_filter(p:List Tm):UL (p.filter λt=>decide (t.1≠0)) p:=by
 induction p with
 |nil=>exact UL.refl _
 |cons t p ih =>
  rw[List.filter_cons];split
  ·exact ih.cons t
  rename_i h;have h0:t.1=0:=by simpa using h
  intro k;rw[J8,h0,ih k];simp[bj]
def vA(n:Nat)(p:List Tm):Prop:=∀t∈p,t.2.length=n
def vA.tail{n:Nat}{t:Tm}{p:List Tm}(h:vA n (t::p)):vA n p:=λx hx=>h x (by simp[hx])
end Ig
namespace Go.Proofs.YtogkbhegfnklhaaGreatDoor
variable{a b l o u:List Int}{c i j k m n:Nat}{w:World}{F F':Gs}{ra rb:Sr}{d f z zx:Int}{x y:Operand}{s:List UInt8}{cs rest:List Value}{α ι:Type}{et kt yT:TypeId}{P:Program}{seen:List Nat}
open Go.RowKit Ig
section
variable[Dr]
def PW(l:List Int):Prop:=(∀x∈l,0<=x/\x<=1000000)/\l.length<=1000
theorem PW.el(h:PW l){i:Nat}(hi:i<l.length):0<=Qg l i/\Qg l i<=1000000:=by rw[K7 hi];exact h.1 _ (Qy hi)
theorem Nu(hi:i<l.length):(l.take (i+1)).sum=(l.take i).sum+Qg l i:=by
 rw[Zb hi,eU,K7 hi];simp
theorem PW.sum(h:PW l):∀i,i<=l.length->0<=(l.take i).sum/\(l.take i).sum<=i*1000000:=by
 intro i
 induction i with
 |zero=>intro _;simp
 |succ i ih =>
  intro hi;have h1:=ih O;have h2:=h.el (i:=i) O;rw[Nu O];omega
theorem Lm(l:List Int):Qn l=Qn (l.map λx=>x):=by rw[List.map_id']
def Fk:List Int->List Int->Int
 |[],[]=>0
 |[],_::_=>-1
 |_::_,[]=>1
 |x::a,y::b=>if ZS x y≠0 then ZS x y else Fk a b
theorem Lf:∀a b:List Int,(Fk b a<0↔Zj a b=true)/\(Fk b a=0↔a=b)
 |[],[]=>by simp[Fk,Zj]
 |[],_::_=>by simp[Fk,Zj]
 |_::_,[]=>by simp[Fk,Zj]
 |x::a,y::b=>by
  have ih:=Lf a b;unfold Fk Zj ZS;by_cases h1:y<x
  ·simp[h1];omega
  by_cases h2:y=x
  ·subst h2;simp[ih.1,ih.2]
  have h3:¬x=y:=λe=>h2 e.symm;simp[h1,h2,h3]
theorem M0(x y:Int):im x y=ZS x y:=by
 unfold im ZS;by_cases h1:x<y
 ·simp[h1]
 by_cases h2:x=y
 ·subst h2;simp
 have h3:y<x:=O;simp[h1,h2,h3]
def Wo(a b:List Int):Int:=Qn [ZS b.sum a.sum,Fk b a]
theorem W8(a b:List Int):before a b=decide (Wo a b<0):=by
 obtain⟨h1,h2⟩:=Lf a b;unfold before Wo;rw[aS,decide_eq_true_iff];simp only[Qn];by_cases h:b.sum<a.sum
 ·have e:ZS b.sum a.sum = -1:=by unfold ZS;rw[if_pos h]
  rw[e];simp[h]
 by_cases g:b.sum=a.sum
 ·have e:ZS b.sum a.sum=0:=by unfold ZS;rw[if_neg h,if_pos g]
  rw[e];by_cases k:Fk b a=0
  ·have d:Zj a b=false:=by cases c:Zj a b with
    |false=>rfl
    |true=>have:=h1.2 c;omega
   simp[k,g,d]
  simp[k,g,h1]
 have e:ZS b.sum a.sum=1:=by unfold ZS;rw[if_neg h,if_neg g]
 have f:¬a.sum=b.sum:=λe=>g e.symm;rw[e];simp[h,f]
def Yf(l:List Int):List UInt8:=l.flatMap λx=>il x++[32]
theorem Wk(x:Int)(l:List Int):Yf (x::l)=XR x++32::Yf l:=by unfold Yf;rw[eN];simp[XR]
theorem DZ:∀ {a b:List Int},Yf a=Yf b->a=b
 |[],[],_=>rfl
 |[],y::b,h=>by rw[Wk]at h;simp[Yf]at h
 |x::a,[],h=>by rw[Wk]at h;simp[Yf]at h
 |x::a,y::b,h=>by
  rw[Wk,Wk]at h;have h1:=G8 (c:=32) (a:=XR x) (b:=Yf a) (DU x wj wj);have h2:=G8 (c:=32) (a:=XR y) (b:=Yf b) (DU y wj wj);rw[h,h2]at h1;simp only[Prod.mk.injEq,and_true]at h1;have e:x=y:=by rw[<-ZN x,<-ZN y,h1.1]
  rw[e,DZ h1.2.symm]
theorem Rz{r:Sr}(h:Fits F w)(b:JG F r l)(hp:PW l):QX prog 179 [r.v] w F (.int .i64 l.sum):=by
 obtain⟨q,n,c⟩:=r;have d:=b.2.1;dsimp only[Sr.v]at d ⊢;have f:=hp.2;refine QU.go (G:=λF=>JG F ⟨q,n,c⟩ l) func179 h b ?_;refine wA 14 I<|QA (Qb I Qd)<|QOm 4 I<|J2 (ι:={i:Nat // i<=l.length}) [(6,_),(7,_)] (λi=>[(3,.int .i64 ((l.take i.1).sum)),(8,.int .i64 ((i.1:Nat):Int))]) (λi=>l.length-i.1) (⟨0,aC _⟩) wT wT λi=>?_
 have hi:=i.2;have j:=hp.sum i.1 hi;refine wA 6 I ?_;refine QP I (λhc=>?_) λhc=>?_
 ·have a:i.1<l.length:=wg<|QOW hc
  have he:=hp.el a;refine QOn 6 I<|QA (Qs (n:=n) (i.1) (λF b=>(b).1) rfl rfl Qd Qo O)<|QA (Qu (n:=n) ((i.1)*1) (λF b=>(b).1) O rfl Qo (JN (o:=l) O))<|QOm 6 I<|QA (Qk I I O)<|wB 2 I<|Qf<|QD<|QB<|QA (Qk I I O)<|wB 2 I ?_
  exact Qh (⟨i.1+1,a⟩) (by show l.length-(i.1+1)<l.length-i.1;omega) ⟨rfl,rfl,(congrArg (λz:Int=>some (af .i64 z)) (Nu a).symm),rfl,trivial⟩ QNG w6
 have g:i.1=l.length:=wg<|QOX hc
 refine Q7 ?_;refine wA 7 I ?_;exact QO2 I I (congrArg (af .i64) (by rw[aZ O])) wy
theorem gX{q:Option Addr}(g:Fits F w)(d:Qz F q n 1 (l.map JJ))(h:n<=1000000000):QX prog 177 [.slice q n c] w F (.int .i64 (Qn l)):=by
 have f:l.length=n:=by have:=d.1;simpa using this
 have j:l=l.map (λx=>x):=wu;refine QU.go (G:=λF=>Qz F q n 1 (l.map JJ)) func177 g d ?_;refine wA 14 I<|QA (Qb I Qd)<|QOm 4 I<|J2 (ι:=X3 l λx=>x) [(3,_),(6,_),(7,_)] (λi=>[(8,.int .i64 ((i.i:Nat):Int))]) (λi=>l.length-i.i) (X3.start _ _) wU wS λi=>?_
 have hi:=i.le;refine wA 6 I ?_;refine QP I (λhc=>?_) λhc=>?_
 ·have a:i.i<l.length:=wg<|QOW hc
  refine QOn 6 I<|QA (Qs (n:=n) i.i w6 rfl rfl Qd Qo O)<|QA (Qu (n:=n) ((i.i)*1) w6 O rfl Qo (JN (o:=l) O))<|QOm 10 I ?_
  refine QP I (λhc=>?_) λhc=>?_
  ·refine wA 6 I<|X4 ?_
   exact QO2 I I (congrArg (af .i64) (by rw[K7 a,Lm l];exact i.hit a (by rw[<-K7 a];simpa using hc))) wy
  refine QN<|Qf<|QD<|QB<|QA (Qk I I O)<|wB 2 I ?_
  exact Qh (i.next a (by rw[<-K7 a];simpa using hc)) (by show l.length-(i.i+1)<l.length-i.i;omega) wV QNG w6
 have b:l.length<=i.i:=wg<|QOX hc
 refine Q7 ?_;refine wA 7 I ?_;exact QO2 I I (congrArg (af .i64) (by rw[Lm l];exact i.stop b)) wy
structure QCQ(a b:List Int) where
 i:Nat
 la:i<=a.length
 lb:i<=b.length
 h:Fk a b=Fk (a.drop i) (b.drop i)
theorem QCQ.cons(s:QCQ a b)(ha:s.i<a.length)(hb:s.i<b.length):Fk a b=if ZS (Qg a s.i) (Qg b s.i)≠0 then ZS (Qg a s.i) (Qg b s.i)else Fk (a.drop (s.i+1)) (b.drop (s.i+1)):=by
 rw[s.h,XC ha,XC hb,Fk]
theorem Uf(X:Fits F w)(E:JG F ra a)(z:JG F rb b)(la:a.length<=1000000)(lb:b.length<=1000000):QX prog 180 [ra.v,rb.v] w F (.int .i64 (Fk a b)):=by
 obtain⟨q,n,c⟩:=ra;obtain⟨H,y,Y⟩:=rb;have K:=E.2.1;have nb:=z.2.1;dsimp only[Sr.v]at K nb ⊢;refine QU.go (G:=λF=>JG F ⟨q,n,c⟩ a/\JG F ⟨H,y,Y⟩ b) func180 X ⟨E,z⟩ ?_;refine wA 9 I<|QA (Qb I Qd)<|QOm 4 I<|J2 (ι:=QCQ a b) [(0,_),(1,_),(9,_),(10,_)] (λi=>[(11,.int .i64 ((i.i:Nat):Int))]) (λi=>a.length-i.i) (⟨0,aC _,aC _,rfl⟩) wV wS λi=>?_
 have U:=i.la;have L:=i.lb;refine wA 6 I ?_;refine QP I (λhc=>?_) λhc=>?_
 ·have g:i.i<a.length:=wg<|QOW hc
  refine QOn 7 I<|QA (Qs (n:=n) i.i (λF h9=>(h9.1).1) rfl rfl Qd Qo O)<|QA (Qu (n:=n) ((i.i)*1) (λF h9=>(h9.1).1) O rfl Qo (JN (o:=a) O))<|QOm 9 I<|QA (Qb I Qd)<|QOm 3 I ?_
  refine QP I (λhc=>?_) λhc=>?_
  ·have m:b.length<=i.i:=wg<|QOW hc
   refine wA 5 I<|X4 ?_
   exact QO2 I I (congrArg (af .i64) (by rw[i.h,XC g,az m];rfl)) wy
  have d:i.i<b.length:=wg<|QOX hc
  refine QOn 6 I<|QA (Qs (n:=y) i.i (λF h9=>(h9.2).1) rfl rfl Qd Qo O)<|QA (Qu (n:=y) ((i.i)*1) (λF h9=>(h9.2).1) O rfl Qo (JN (o:=b) O))<|QOm 7 I<|QL I (λ_ _ f k=>Dj f ) λ_=>QOm 9 I ?_
  refine QP I (λhc=>?_) λhc=>?_
  ·refine wA 6 I<|X4 ?_
   exact QO2 I I (congrArg (af .i64) (by rw[i.cons g d,if_pos (by rw[<-M0];simpa using hc),M0])) wy
  refine QN<|Qf<|QD<|QB<|QA (Qk I I O)<|wB 2 I ?_
  exact Qh (⟨i.i+1,g,d,by rw[i.cons g d,if_neg (by rw[<-M0];simpa using hc)]⟩) (by show a.length-(i.i+1)<a.length-i.i;omega) wW QNG w7
 have x:a.length<=i.i:=wg<|QOX hc
 refine Q7 ?_;refine wA 4 I<|QA (Qb I Qd)<|QMu I<|QA (Qb I Qd)<|QOm 3 I ?_
 refine QP I (λhc=>?_) λhc=>?_
 ·have j:=QOW hc;refine wA 6 I ?_;exact QO2 I I (congrArg (af .i64) (by rw[i.h,az x,XC (l:=b) (k:=i.i) O];rfl)) wy
 have j:=QOX hc;refine QOn 8 I ?_;exact QO2 I I (congrArg (af .i64) (by rw[i.h,az x,az O];rfl)) wy
theorem PB(g:Fits F w)(i:JG F ra a)(h:JG F rb b)(d:PW a)(c:PW b):QX prog 125 [ra.v,rb.v] w F (.int .i64 (Wo a b)):=by
 have la:=d.2;have lb:=c.2;dsimp only[Sr.v];refine QU.go (G:=λF=>JG F ra a/\JG F rb b) func125 g ⟨i,h⟩ ?_;refine wA 8 I<|QL I (λ_ _ f k=>Rz f (r:=rb) k.2 (c)) λ_=>QMu I<|QL I (λ_ _ f k=>Rz f (r:=ra) k.1.1 (d)) λ_=>QL I (λ_ _ f k=>Dj f ) λ_=>?_
 rw[M0];refine wB 2 I<|QL I (λ_ _ f k=>Uf f (ra:=rb) (rb:=ra) k.1.1.1.2 (k.1.1.1.1) O O) λ_=>JC I (Jc Qd) Qo MK I I λj=>QL I (λ_ _ f k=>gX f (Qz.of (cs:=List.map JJ [ZS b.sum a.sum,Fk b a]) k.2 I) wj) λ_=>wQ I<|QW ?_
 exact QO2 I I (rfl) wy
end
def Xu{κ:Type}(K:κ->Value):List (κ×Value)->Nat->List MapEntry
 |[],_=>[]
 |x::l,i=>⟨K x.1,x.2,i⟩::Xu K l (i+1)
def YE{κ:Type}(K:κ->Value)(l:List (κ×Value)):Obj:=.map (Xu K l 0).toArray l.length
def KW{κ:Type}[DecidableEq κ]:List (κ×Value)->κ->Nat->Option (Nat×Value)
 |[],_,_=>none
 |x::l,k,i=>if k=x.1 then some (i,x.2)else KW l k (i+1)
def MR{κ:Type}[DecidableEq κ]:List (κ×Value)->κ->Value->List (κ×Value)
 |[],k,v=>[(k,v)]
 |x::l,k,v=>if k=x.1 then(k,v)::l else x::MR l k v
structure qT(P:Program)(kt:TypeId){κ:Type}[DecidableEq κ](K:κ->Value):Prop where
 chk:∀e w k,(Instr.checkKey e 10000 kt (K k)).run P w = .ok () w
 find:∀w k (l:List (κ×Value)),(Instr.findKey kt (K k) (Xu K l 0)).run P w = .ok (KW l k 0) w
 same:∀k,Instr.sameBits 10000 (K k) (K k)=true
section
variable{κ:Type}{K:κ->Value}
def ER:∀(l:List (κ×Value)) i,(Xu K l i).length=l.length
 |[],_=>rfl
 |_::l,i=>by simp[Xu,ER l]
theorem PY:∀(l:List (κ×Value)) i k v,Xu K (l++[(k,v)]) i=Xu K l i++[⟨K k,v,i+l.length⟩]
 |[],i,k,v=>by simp[Xu]
 |x::l,i,k,v=>by
  simp only[eT,Xu,PY l,aB];rw[show i+1+l.length=i+(l.length+1)from by omega]
def Wm:∀(l:List (κ×Value)) (i j:Nat),(Xu K l i)[j]?=l[j]?.map λx=>(⟨K x.1,x.2,i+j⟩:MapEntry)
 |[],_,_=>by simp[Xu]
 |x::l,i,0=>by simp[Xu]
 |x::l,i,j+1=>by
  simp only[Xu,List.getElem?_cons_succ,Wm l];rw[show i+1+j=i+(j+1)from by omega]
theorem SI:∀(l:List (κ×Value)) i j k v,Xu K (l.set j (k,v)) i=(Xu K l i).modify j λe=>{ e with key:=K k,val:=v }
 |[],_,_,_,_=>by simp[Xu]
 |x::l,i,0,k,v=>by simp[Xu]
 |x::l,i,j+1,k,v=>by simp[Xu,SI l]
theorem Bp:∀(l:List (κ×Value)) i,∀e∈Xu K l i,i<=e.born/\e.born<i+l.length
 |[],_,e,h=>by cases h
 |x::l,i,e,h=>by
  simp only[Xu,bY]at h;rcases h with rfl | h
  ·simp
  have:=Bp l (i+1) e h;simp only[aB];omega
theorem E5:∀(l:List (κ×Value)) i,((Xu K l i).map (·.born)).Nodup
 |[],_=>fc
 |x::l,i=>by
  simp only[Xu,aD];refine List.nodup_cons.2 ⟨λh=>?_,E5 l (i+1)⟩;obtain⟨e,he,h⟩:=List.mem_map.1 h;have:=(Bp l (i+1) e he).1;omega
variable[DecidableEq κ]
theorem Bn:∀ {l:List (κ×Value)} {k i j v},KW l k i=some (j,v)->i<=j/\j-i<l.length/\l[j-i]?=some (k,v)
 |[],_,_,_,_,h=>by cases h
 |x::l,k,i,j,v,h=>by
  simp only[KW]at h;split at h
  ·rename_i e;cases h;subst e;simp
  obtain⟨h1,h2,h3⟩:=Bn h;refine⟨O,by simp only[aB];omega,?_⟩;rw[show j-i=(j-(i+1))+1 from by omega,List.getElem?_cons_succ];exact h3
theorem Rx:∀ {l:List (κ×Value)} {k v i},KW l k i=none->MR l k v=l++[(k,v)]
 |[],_,_,_,_=>rfl
 |x::l,k,v,i,h=>by
  simp only[KW]at h;split at h
  ·cases h
  rename_i e;simp only[MR,if_neg e,eT,Rx h]
theorem Rv:∀ {l:List (κ×Value)} {k v i j u},KW l k i=some (j,u)->MR l k v=l.set (j-i) (k,v)
 |[],_,_,_,_,_,h=>by cases h
 |x::l,k,v,i,j,u,h=>by
  simp only[KW]at h;split at h
  ·rename_i e;cases h;simp[MR,e]
  rename_i e;have:=(Bn h).1;simp only[MR,if_neg e,Rv h];rw[show j-i=(j-(i+1))+1 from by omega];rfl
end
def IJ(a b:List UInt8):Instr.sameNow .string (tx a) (tx b)=some (decide (a=b)):=by
 show some ((⟨a.toArray⟩:ByteArray)==⟨b.toArray⟩)=_;congr 1;rw[aS,decide_eq_true_iff,fC];constructor
 ·intro h;cases h;rfl
 intro h;rw[h]
theorem PU(k:List UInt8):∀(l:List (List UInt8×Value)) (i n:Nat),ib .string (tx k) (Xu tx l n) i=some (KW l k i)
 |[],_,_=>rfl
 |x::l,i,n=>by
  simp only[Xu,ib,IJ,KW];by_cases h:k=x.1
  ·simp[h]
  simp[h,PU k l]
theorem qT.str(h:P.underlying kt=some .string):qT P kt tx where
 chk:=λe w k=>MapKept.run_checkKey (k:=tx k) h (by simp[MapKept.IsKey,tx]) e 9999
 find:=λw k l=>MapKept.run_findKey h (PU k l 0 0)
 same:=λk=>by
  show(fS k.toArray==fS k.toArray)=true;rw[fC]
def zvB(P:Program)(T:TypeId):Option Value:=match P.info? T with
 |some i=>i.zero
 |none=>none
theorem vY{T:TypeId}{z:Value}(h:zvB P T=some z)(w:World):(zeroValue T).run P w = .ok z w:=by
 unfold zvB at h;split at h
 ·rename_i i hi;simp[zeroValue,typeInfo,hi,h]
 cases h
def Im(P:Program)(T kt a:TypeId):Bool:=match P.underlying T with | some (.map k e)=>Nat.beq k kt&&Nat.beq e a | _=>false
def TJ{T:TypeId}(h:Im P T kt et=true):P.underlying T=some (.map kt et):=by
 unfold Im at h;split at h
 ·rename_i e;simp only[aF]at h;have h1:=fz h.1;have h2:=fz h.2;rw[e,h1,h2]
 cases h
section
variable[Dr][df:Df]{P:Program}{Q:Exit->Act->World->Prop}{N:Nat}{m:Sl}{E E0:Env}{ops:Array Oper}{l:List Oper}{w0:World}{F0:Gs}{bs:List (Nat×Obj)}{G:Gs->Prop}{d:Nat}{ty:TypeId}{pos:String}{aft:Array Edge}
theorem LN{κ:Type}(K:κ->Value){T:TypeId}(k:∀b,JS P ops Q l N ((d,.map (some b))::m) ⟨w0,F0,(b,YE K [])::bs,G⟩)(hd:Jx N (some d)=true:=by rfl):
  JS P ops Q (⟨some d,.makeMap T none,ty,pos,aft,none⟩::l) N m ⟨w0,F0,bs,G⟩:=λa w ha g=>by
 have f:(execOp a.eval ⟨some d,.makeMap T none,ty,pos,aft,none⟩).run P w = .ok (.value (.map (some w.heap.size))) (w.alloc (.map #[] 0)):=by
  simp[execOp,Instr.makeMap]
 exact wpList_plain rfl λKk h=>upon_value f (h _ _ (k _ _ _ (ha.put hd _) (g.alloc _ λc fr e=>by cases e)))
variable{κ:Type}[DecidableEq κ]{K:κ->Value}{kv:List (κ×Value)}{b:Nat}{f:Obj->List (Nat×Obj)}
theorem xj{T:TypeId}{k:κ}{v:Value}(c:qT P kt K)(hx:ev m x=some (.map (some b)))(hy:ev m y=some (K k))(ht:Im P T kt et=true)(g:Own bs b (YE K kv) f)(h:KW kv k 0=some (i,v)):
  Qt P N m (St ⟨w0,F0,bs,G⟩) (.lookup T x y true) ty (.tuple #[v,.bool true]):=λa w _ _ _ _ ha d=>by
 have hb:=d.own g;unfold YE at hb;have hu:=TJ ht;simp[execOp,ha.ev hx,ha.ev hy,iq,run_underlying hu,bD hb,c.chk,c.find,h]
theorem CE{T:TypeId}{k:κ}{z:Value}(c:qT P kt K)(hx:ev m x=some (.map (some b)))(hy:ev m y=some (K k))(ht:Im P T kt et=true)(hz:zvB P et=some z)(g:Own bs b (YE K kv) f)(h:KW kv k 0=none):
  Qt P N m (St ⟨w0,F0,bs,G⟩) (.lookup T x y true) ty (.tuple #[z,.bool false]):=λa w _ _ _ _ ha d=>by
 have hb:=d.own g;unfold YE at hb;have hu:=TJ ht;simp[execOp,ha.ev hx,ha.ev hy,iq,run_underlying hu,bD hb,c.chk,c.find,h,vY hz]
theorem Sb{T:TypeId}{z:Operand}{k:κ}{v:Value}(h:qT P kt K)(hx:ev m x=some (.map (some b)))(hy:ev m y=some (K k))(hz:ev m z=some v)(ht:Im P T kt et=true)(F:Own bs b (YE K kv) f)
  (o:JS P ops Q l N m ⟨w0,F0,f (YE K (MR kv k v)),G⟩):JS P ops Q (⟨none,.mapUpdate T x y z,ty,pos,aft,none⟩::l) N m ⟨w0,F0,bs,G⟩:=λa w ha E=>by
 have hb:=E.own F;obtain⟨pre,post,U,L⟩:=F.split;subst U;rw[L]at o;have hu:=TJ ht;have d:=hb;unfold YE at d;have g:(execOp a.eval ⟨none,.mapUpdate T x y z,ty,pos,aft,none⟩).run P w = .ok .skip { w with heap:=w.heap.setIfInBounds b (YE K (MR kv k v)) }:=by
  cases j:KW kv k 0 with
  |none =>
   have e:YE K (MR kv k v) = .map ((Xu K kv 0).toArray.push ⟨K k,v,kv.length⟩) (kv.length+1):=by
    rw[Rx j];simp[YE,PY]
   rw[e];simp[execOp,ha.ev hx,ha.ev hy,ha.ev hz,fW,run_underlying hu,bD d,h.chk,h.find,j,fg _ d]
  |some r =>
   obtain⟨i,u⟩:=r;obtain⟨_,h2,h3⟩:=Bn j;rw[iy]at h2 h3;have e:YE K (MR kv k v) = .map ((Xu K kv 0).toArray.modify i λe=>{ e with key:=K k,val:=v }) kv.length:=by
    rw[Rv j];unfold YE;rw[iy,SI,ao];congr 1;apply Array.ext';simp
   have hk:((((Xu K kv 0).toArray[i]?).map (·.key)).getD (K k))=K k:=by
    simp[Wm,h3]
   rw[e];simp only[execOp,ha.ev hx,ha.ev hy,ha.ev hz,fW,eR,run_underlying hu,bD d,h.chk,h.find,j,bV,hk,Instr.keyThatStays,h.same,if_true,eQ,fg _ d]
 exact wpList_plain rfl λKk H=>upon_skip g (H _ _ (o _ _ ha (E.write pre ⟨rfl,rfl,rfl,rfl,rfl⟩ λc fr e=>by cases e)))
def nxA(kv:List (κ×Value))(K:κ->Value):Option Nat->Array Value
 |some j=>match kv[j]? with
  |some p=>#[.bool true,K p.1,p.2]
  |none=>#[.bool true]
 |none=>#[.bool false]
def nxS(a:List Nat):Option Nat->List Nat
 |some j=>a++[j]
 |none=>a
def nxP(n:Nat)(a:List Nat):Option Nat->Prop
 |some j=>j<n/\j∉a
 |none=>∀j,j<n->j∈a
omit [DecidableEq κ] in
theorem QF2(x:Option Nat):(nxA kv K x)[0]?=some (.bool x.isSome):=by
 cases x with
 |none=>rfl
 |some j =>
  simp only[nxA]
  cases kv[j]?<;>rfl
def qw(b n:Nat)(a:List Nat):Obj:=.mapIter (some b) n a.toArray n
omit [DecidableEq κ] in
theorem FQ{T:TypeId}(hx:ev m x=some (.map (some b)))(ht:Im P T kt et=true)(i:Own bs b (YE K kv) f)(k:∀r,JS P ops Q l N ((d,.pointer (some ⟨r,0,none⟩))::m) ⟨w0,F0,(r,qw b kv.length [])::bs,G⟩)(hd:Jx N (some d)=true:=by rfl):
  JS P ops Q (⟨some d,.range T x,ty,pos,aft,none⟩::l) N m ⟨w0,F0,bs,G⟩:=λa w ha h=>by
 have hb:=h.own i
 unfold YE at hb
 have g:(execOp a.eval ⟨some d,.range T x,ty,pos,aft,none⟩).run P w = .ok (.value (.pointer (some ⟨w.heap.size,0,none⟩))) (w.alloc (qw b kv.length [])):=by
  simp[execOp,ha.ev hx,run_range_map w T kt et b _ _ (TJ ht) hb,qw]
 exact wpList_plain rfl λKk j=>upon_value g (j _ _ (k _ _ _ (ha.put hd _) (h.alloc _ λc fr e=>by cases e)))
omit [DecidableEq κ] in
theorem LL{r:Nat}{g:Obj->List (Nat×Obj)}(hx:ev m x=some (.pointer (some ⟨r,0,none⟩)))(hr:Own bs r (qw b kv.length seen) g)(U:Own bs b (YE K kv) f)
  (k:∀x,nxP kv.length seen x->JS P ops Q l N ((d,.tuple (nxA kv K x))::m) ⟨w0,F0,g (qw b kv.length (nxS seen x)),G⟩) (hd:Jx N (some d)=true:=by rfl) :
  JS P ops Q (⟨some d,.next x false,ty,pos,aft,none⟩::l) N m ⟨w0,F0,bs,G⟩:=λa w ha o=>by
 have hb:=o.own U
 have hi:=o.own hr
 unfold YE at hb
 obtain⟨pre,post,Y,X⟩:=hr.split
 subst Y
 simp only[X]at k
 have y:∀e∈(Xu K kv 0).toArray.toList,e.born<kv.length:=λe he=>by have:=(Bp kv 0 e (by simpa using he)).2;omega
 rcases run_next_at (P:=P) w ty r b kv.length kv.length seen.toArray (Xu K kv 0).toArray kv.length hi hb y (ak _)with ⟨h0,hn⟩ | ⟨e,he,w1,hw1,hn⟩
 ·have h:(execOp a.eval ⟨some d,.next x false,ty,pos,aft,none⟩).run P w = .ok (.value (.tuple (nxA kv K none))) w:=by
   simp[execOp,ha.ev hx,hn,nxA]
  refine wpList_plain rfl λKk H=>upon_value h (H _ _ (k none (λj i=>?_) _ _ (ha.put hd _) o))
  have hm:(⟨K kv[j].1,kv[j].2,j⟩:MapEntry)∈Xu K kv 0:=by
   have:=Wm (K:=K) kv 0 j
   rw[List.getElem?_eq_getElem i,aG]at this
   exact List.mem_of_getElem? this
  have hz:leftOf (Xu K kv 0).toArray seen.toArray=#[]:=Array.eq_empty_of_size_eq_zero h0
  unfold leftOf at hz
  rw[Array.filter_eq_empty_iff]at hz
  have:=hz _ (by simpa using hm)
  simpa using this
 unfold leftOf at he
 simp only[List.mem_toArray,Array.mem_toList_iff,Array.mem_filter]at he
 obtain⟨hm,L⟩:=he
 obtain⟨j,i,E⟩:=List.getElem_of_mem hm
 rw[ER]at i
 have hg:=Wm (K:=K) kv 0 j
 rw[List.getElem?_eq_getElem i,List.getElem?_eq_getElem (by rw[ER];exact i),E,aG]at hg
 have F:e=⟨K kv[j].1,kv[j].2,j⟩:=by simpa using hg
 subst F
 have h:(execOp a.eval ⟨some d,.next x false,ty,pos,aft,none⟩).run P w = .ok (.value (.tuple (nxA kv K (some j)))) (ChangeMaps.setBlock w1 r (qw b kv.length (nxS seen (some j)))):=by
  simp[execOp,ha.ev hx,hn,nxA,i,qw,nxS]
 have z:St ⟨w0,F0,pre++(r,qw b kv.length seen)::post,G⟩ w1:=by
  rcases hw1 with rfl | rfl
  ·exact o
  exact o.drew
 exact wpList_plain rfl λKk H=>upon_value h (H _ _ (k (some j) ⟨i,by simpa using L⟩ _ _ (ha.put hd _) (z.write pre ⟨rfl,rfl,rfl,rfl,rfl⟩ λc fr e=>by cases e)))
omit [DecidableEq κ] in
theorem gK{r:Nat}{p:κ×Value}{g:Obj->List (Nat×Obj)}(hx:ev m x=some (.pointer (some ⟨r,0,none⟩)))(hr:Own bs r (qw b kv.length (seen++[j])) g)(h:Own bs b (YE K kv) f)(i:kv[j]?=some p):
  Qt P N m (St ⟨w0,F0,bs,G⟩) (.entry x) ty (.tuple #[K p.1,p.2]):=λa w _ _ _ _ ha d=>by
 have hb:=d.own h
 have hi:=d.own hr
 unfold YE at hb
 have hg:=Wm (K:=K) kv 0 j
 rw[i,aG]at hg
 have c:=List.mem_of_getElem? hg
 have:=run_entry_at (P:=P) w r b kv.length seen.toArray (Xu K kv 0).toArray kv.length ⟨K p.1,p.2,j⟩ (by rw[hi];simp[qw]) hb (by simpa using c) (by simpa using E5 kv 0)
 simp[execOp,ha.ev hx,this]
end
def Cr(l:List Int)(x:Int):Yf (l++[x])=(Yf l++il x)++[32]:=by unfold Yf;rw[fG];simp
def SE{x:Int}(h:0<=x/\x<=1000000):(il x).length<=21:=Lib.itoa_length_le x O O
theorem AV:∀ {l:List Int},(∀x∈l,0<=x/\x<=1000000)->(Yf l).length<=22*l.length
 |[],_=>by simp[Yf]
 |x::l,h=>by
  have h1:=SE (h x wu);have h2:=AV (l:=l) (λy hy=>h y (by simp[hy]));rw[Wk];simp only[ah,aB];change (XR x).length<=21 at h1;omega
structure QLL(b:Nat)(l:List Int) where
 i:Nat
 ob:List (Nat×Obj)
 le:i<=l.length
 bl:Fm b (Yf (l.take i)) ob
theorem zC{r:Sr}(K:Fits F w)(E:JU F)(H:JG F r l)(hp:PW l):QX prog 187 [r.v] w F (tx (Yf l)):=by
 obtain⟨q,n,c⟩:=r;have m:=H.2.1;dsimp only[Sr.v]at m ⊢;have L:=hp.2;refine QU.go (G:=λF=>JU F/\JG F ⟨q,n,c⟩ l) func187 K ⟨E,H⟩ ?_;refine wA 7 I<|Qe uU λb3=>QOm 6 I<|QA (Qb I Qd)<|QOm 4 I<|Jf (ι:=QLL b3 l) [(3,_),(6,_),(7,_)] (λi=>[(8,.int .i64 ((i.i:Nat):Int))]) (λi=>i.ob++[]) (λi F=>True) (λi=>l.length-i.i) (⟨0,_,aC _,by rw[ia];exact .fresh⟩) wU wS QNG wy λi=>?_
 have hi:=i.le;have y:=AV (l:=l.take i.i) (λx hx=>hp.1 x (List.mem_of_mem_take hx));rw[aq]at y;refine wA 6 I ?_;refine QP I (λhc=>?_) λhc=>?_
 ·have a:i.i<l.length:=wg<|QOW hc
  have he:=hp.el a;have U:=SE he;refine QOn 6 I<|QA (Qs (n:=n) i.i (λF h9=>(h9.1.2).1) rfl rfl Qd Qo O)<|QA (Qu (n:=n) ((i.i)*1) (λF h9=>(h9.1.2).1) O rfl Qo (JN (o:=l) O))<|QOm 6 I<|QL I (λ_ _ f k=>yC f k.1.1 (O) (O)) λ_=>Xv I (aK _) (WI i.bl O) λY=>J5 _ (λ_ _ f h=>h.2) λb=>QMt<|QB<|Xv I (aK _) (UN (c:=32) b (by rw[ah];omega)) λg=>J5 _ (λ_ _ f h=>h.2) λd=>?_
  rw[<-Cr,K7 a,<-Zb a]at d;refine QE<|Qf<|QD<|QB<|QA (Qk I I O)<|wB 2 I ?_
  exact Qh (⟨i.i+1,g,a,d⟩) (by show l.length-(i.i+1)<l.length-i.i;omega) wV QNG λF h=>⟨h.1.1.1.1,trivial⟩
 have z:i.i=l.length:=wg<|QOX hc
 refine Q7 ?_;refine QG<|QB ?_
 have b:=i.bl;rw[z,aV]at b;refine MI (v:=tx (Yf l)) K rfl (enters_of func244 wm rfl) (λw' j=>Builder_String_any w.heap.size b3 (Yf l) w' (b.is j) (by obtain⟨F',X⟩:=j;exact X.ext.size))<|wQ I<|QW ?_
 exact QO2 I I (rfl) wy
end Go.Proofs.YtogkbhegfnklhaaGreatDoor
namespace Ig
def Eb:List Tm->Tm->List Tm
 |[],n=>[n]
 |t::l,n=>if n.2=t.2 then n::l else t::Eb l n
theorem Sa:∀(l:List Tm) (n:Tm),∀k,k∈(Eb l n).map (·.2)->k=n.2\/k∈l.map (·.2)
 |[],n,k,h=>by grind[Eb]
 |t::l,n,k,h=>by
  simp only[Eb]at h;split at h
  ·simp_all
  simp only[aD,bY]at h ⊢;rcases h with h | h
  ·simp_all
  rcases Sa l n k h with h | h
  all_goals simp_all
def Pp:∀ {l:List Tm} (n:Tm),(l.map (·.2)).Nodup->((Eb l n).map (·.2)).Nodup
 |[],n,_=>by simp[Eb]
 |t::l,n,h=>by
  obtain⟨h1,h2⟩:=List.nodup_cons.1 h;simp[Eb];split
  ·simp_all
  refine List.nodup_cons.2 ⟨λhm=>?_,Pp n h2⟩
  grind[Sa]
def SP:∀ {l:List Tm} (n:Tm),(l.map (·.2)).Nodup->∀k,J8 (Eb l n) k=if n.2=k then n.1 else J8 l k
 |[],n,_,k=>by simp[Eb,J8,bm]
 |t::l,n,h,k=>by
  simp only[aD]at h;obtain⟨h1,h2⟩:=List.nodup_cons.1 h;have hz:J8 l t.2=0:=Wn λx hx e=>h1 (e ▸ aT hx);simp[Eb];split
  ·simp[J8]
   grind
  simp[J8];rw[SP n h2 k]
  grind
structure kO(T l:List Tm):Prop where
 nd:(T.map (·.2)).Nodup
 eq:UL T l
def kO.nil:kO [] []:=⟨fc,UL.refl _⟩
def kO.add{T l:List Tm}(h:kO T l)(f:Rat)(p:List Int):kO (Eb T (f+J8 T p,p)) (l++[(f,p)]) :=
 ⟨Pp _ h.nd,λk=>by
  rw[SP _ h.nd,FC,<-h.eq k];simp[J8]
  grind⟩
def kO.FB{T l:List Tm}(h:kO T l){t:Tm}(ht:t∈T):J8 T t.2=t.1:=by
 have key:∀ {T:List Tm},(T.map (·.2)).Nodup->t∈T->J8 T t.2=t.1:=by
  intro T
  induction T with
  |nil=>simp
  |cons x T ih =>
   intro a hm;simp only[aD]at a;obtain⟨h1,h2⟩:=List.nodup_cons.1 a;rcases List.mem_cons.1 hm with rfl | hm
   ·simp[J8];have hz:J8 T t.2=0:=Wn λx hx e=>h1 (e ▸ aT hx)
    grind
   simp[J8]
   grind
 exact key h.nd ht
def qB{T:List Tm}{p:List Int}(h:p∉T.map (·.2)):J8 T p=0:=Wn λx hx e=>h (e ▸ aT hx)
def kO.norm{T l s:List Tm}(h:kO T l)(hp:s.Perm (T.filter λt=>decide (t.1≠0)))(a:s.Pairwise λx y=>before x.2 y.2=true):s=DV l:=by
 refine U8 ⟨a,λt ht=>?_⟩ ((UL.perm hp).trans ((eqv_filter T).trans h.eq))
 grind
end Ig
namespace Go.Proofs.YtogkbhegfnklhaaGreatDoor
variable{a b l o u:List Int}{c i j k m n:Nat}{w:World}{F F':Gs}{ra rb:Sr}{d f z zx:Int}{x y:Operand}{s:List UInt8}{cs rest:List Value}{α ι:Type}{et kt yT:TypeId}{P:Program}{seen:List Nat}
open Go.RowKit Ig
structure Zl where
 x:Fr
 r:Sr
 t:Tm
instance :Inhabited Zl:=⟨⟨⟨⟨0,none,0,0⟩,⟨0,none,0,0⟩⟩,⟨none,0,0⟩,(0,[])⟩⟩
def GU(t:Zl):List Value:=[.int .i64 t.x.n.s,.slice t.x.n.q t.x.n.n t.x.n.cap,.int .i64 t.x.d.s,.slice t.x.d.q t.x.d.n t.x.d.cap,.slice t.r.q t.r.n t.r.cap]
@[reducible] def qp (t:Zl):Value:=.agg #[.int .i64 t.x.n.s,.slice t.x.n.q t.x.n.n t.x.n.cap,.int .i64 t.x.d.s,.slice t.x.d.q t.x.d.n t.x.d.cap,.slice t.r.q t.r.n t.r.cap]
theorem jL(t:Zl):(GU t).length=5:=rfl
def Ol(F:Gs)(t:Zl):Prop:=Ja F t.x t.t.1/\JG F t.r t.t.2
def Ol.le{t:Zl}(h:Ol F t)(k:Gs.le F F'):Ol F' t:=⟨h.1.le k,h.2.le k⟩
instance{t:Zl}: Up (λF=>Ol F t):=⟨λk h=>Ol.le h k⟩
def Bw(F:Gs)(ts:List Zl):Prop:=∀t∈ts,Ol F t
def Bw.le{ts:List Zl}(h:Bw F ts)(k:Gs.le F F'):Bw F' ts:=λt ht=>(h t ht).le k
def B4(ts:List Zl):List (List UInt8×Value):=ts.map λt=>(Yf t.t.2,qp t)
def KP(ts:List Zl):List Tm:=ts.map (·.t)
def addN:List Zl->Zl->List Zl
 |[],n=>[n]
 |t::l,n=>if n.t.2=t.t.2 then n::l else t::addN l n
theorem UT:∀(ts:List Zl) (n:Zl),KP (addN ts n)=Eb (KP ts) n.t
 |[],n=>rfl
 |t::l,n=>by
  have ih:=UT l n;unfold KP at ih ⊢;simp only[addN,aD,Eb];split
  ·simp
  simp[ih]
theorem PI:∀(ts:List Zl) (n:Zl),B4 (addN ts n)=MR (B4 ts) (Yf n.t.2) (qp n)
 |[],n=>rfl
 |t::l,n=>by
  have ih:=PI l n;unfold B4 at ih ⊢;simp only[addN,aD,MR];by_cases h:n.t.2=t.t.2
  ·rw[if_pos h,if_pos (congrArg Yf h)];simp
  rw[if_neg h,if_neg λe=>h (DZ e)];simp[ih]
theorem PH{ts:List Zl}{n x:Zl}(h:x∈addN ts n):x=n\/x∈ts:=by
 induction ts with
 |nil=>simp[addN]at h;exact .inl h
 |cons t l ih =>
  simp only[addN]at h;split at h
  ·rcases List.mem_cons.1 h with h | h
   ·exact .inl h
   exact .inr (bw _ h)
  rcases List.mem_cons.1 h with h | h
  ·exact .inr (h ▸ bT)
  rcases ih h with h | h
  ·exact .inl h
  exact .inr (bw _ h)
theorem QAA:∀(ts:List Zl) (p:List Int) (i:Nat),(KW (B4 ts) (Yf p) i=none/\p∉(KP ts).map (·.2))\/∃j,∃t∈ts,t.t.2=p/\KW (B4 ts) (Yf p) i=some (j,qp t)
 |[],_,_=>.inl ⟨rfl,by simp[KP]⟩
 |t::l,p,i=>by
  by_cases h:p=t.t.2
  ·exact .inr ⟨i,t,bT,h.symm,by show(if _ then _ else _)=_;rw[if_pos (congrArg Yf h)]⟩
  rcases QAA l p (i+1)with ⟨h1,h2⟩ | ⟨j,u,hu,h1,h2⟩
  ·refine .inl ⟨?_,?_⟩
   ·show(if _ then _ else _)=_;rw[if_neg λe=>h (DZ e)];exact h1
   simp only[KP,aD,bY,not_or];exact⟨h,h2⟩
  refine .inr ⟨j,u,bw _ hu,h1,?_⟩;show(if _ then _ else _)=_;rw[if_neg λe=>h (DZ e)];exact h2
def B8(l:List Tm):Nat:=(l.map λt=>J6 t.1+1).sum
def F9(l m:List Tm):B8 (l++m)=B8 l+B8 m:=by unfold B8;rw[bN,eU]
def UW:∀(l:List Tm) (k:List Int),J6 (J8 l k)<=B8 l+1
 |[],k=>by show J6 (0:Rat)<=_;decide
 |t::l,k=>by
  have h1:=UW l k;simp only[J8];have h2:=FZ (if t.2=k then t.1 else 0) (J8 l k);have h3:J6 (if t.2=k then t.1 else 0)<=J6 t.1+1:=by
   split
   ·omega
   have:J6 (0:Rat)<=1:=wj;omega
  have e:B8 (t::l)=J6 t.1+1+B8 l:=by unfold B8;rw[aD,fh]
  have h4:J6 (J8 (t::l) k)<=B8 l+1+(J6 t.1+1):=by
   simp only[J8];by_cases g:t.2=k
   ·rw[if_pos g]at h2 ⊢;omega
   rw[if_neg g,bj];omega
  rw[e];simp only[J8]at h4;omega
structure Hx(ts:List Zl)(l:List Tm):Prop where
 vj:kO (KP ts) l
 pw:∀t∈ts,PW t.t.2
 ln:ts.length<=l.length
def Hx.nil:Hx [] []:=⟨kO.nil,(λ_ h=>by cases h),ak _⟩
theorem kK(ts:List Zl)(n:Zl):(addN ts n).length<=ts.length+1:=by
 induction ts with
 |nil=>exact ak _
 |cons t l ih =>
  simp only[addN];split<;>simp only[aB]<;>omega
def Hx.add{ts:List Zl}{l:List Tm}(h:Hx ts l){f:Rat}{p:List Int}(hp:PW p){n:Zl}(a:n.t=(f+J8 (KP ts) p,p)):Hx (addN ts n) (l++[(f,p)]) :=
 ⟨by rw[UT,a];exact h.vj.add f p,λt ht=>by
  rcases PH ht with rfl | ht
  ·rw[a];exact hp
  exact h.pw t ht,by have:=kK ts n;have:=h.ln;rw[ah];simp only[ay];omega⟩
theorem Hx.sz{ts:List Zl}{l:List Tm}(h:Hx ts l){t:Zl}(ht:t∈ts):J6 t.t.1<=B8 l+1:=by
 rw[<-h.vj.FB (aT (f:=Zl.t) ht),h.vj.eq];exact UW _ _
theorem PG:Im prog 197 9 186=true:=wi
theorem TR:qT prog 9 tx:=.str wi
theorem vX:zvB prog 186=some (.agg #[.int .i64 0,.slice none 0 0,.int .i64 0,.slice none 0 0,.slice none 0 0]):=wi
section
theorem RT{Q:Exit->Act->World->Prop}{N:Nat}{m:Sl}{w0:World}{F0:Gs}{bs:List (Nat×Obj)}{G H:Gs->Prop}{c:Code}(h:∀F,G F->H F)(k:J P c Q N m ⟨w0,F0,bs,λF=>G F/\H F⟩):J P c Q N m ⟨w0,F0,bs,G⟩ :=
 λa w ha d=>k a w ha (d.GW λF b=>⟨b,h F b⟩)
variable{w0:World}{F0:Gs}{bs:List (Nat×Obj)}{G:Gs->Prop}
theorem IC{ts:List Zl}{l:List Tm}{x:Fr}{f:Rat}{r:Sr}{p:List Int}(z:Hx ts l)(hp:PW p)(hz:J6 f<=40000000)(X:B8 l<=40000000)(hG:∀F,G F->JU F/\Bw F ts/\Ja F x f/\JG F r p){t0:Zl}{j:Nat}(ht:t0∈ts)(h0:t0.t.2=p)(K:KW (B4 ts) (Yf p) 0=some (j,qp t0)):
  Jy prog 134 [.map (some m),x.v,r.v] ⟨w0,F0,(m,YE tx (B4 ts))::bs,G⟩ (λ(_:Zl)=>.tuple #[]) (λn=>⟨w0,F0,(m,YE tx (B4 (addN ts n)))::bs,λF=>G F/\Bw F (addN ts n)/\n.t=(f+J8 (KP ts) p,p)⟩):=by
 have g:J8 (KP ts) p=t0.t.1:=by rw[<-h0];exact z.vj.FB (aT (f:=Zl.t) ht)
 have H:=z.sz ht;dsimp only[Sr.v,Fr.v];refine Jy.intro func134 rfl wm rfl rfl<|RT hG<|QNz<|Qv rfl (vs:=[_,_,_,_]) rfl λb4=>QMt<|wR rfl<|QL rfl (λ_ _ f k=>zC f k.2.1 (r:=r) k.2.2.2.2 (hp)) λ_=>wQ rfl<|QG<|wR rfl<|QMu rfl<|QA (xj TR rfl rfl PG .u1 K)<|QMu rfl<|QA (Qi rfl rfl)<|QA (Qi rfl rfl)<|Qe D2 λY=>QV (vs:=[_,_,_,_,_]) rfl rfl rfl KN rfl .here .h5 wW<|wQ rfl<|wR rfl<|QE<|QD ?_
 refine QP I (λhc=>?_) λhc=>?_
 ·refine QB<|QA (wJ I Qm .u1)<|QA (QH I P1 Qm)<|QA (wJ I Qm .here)<|QL I (λw F L ⟨⟨b,o,i,⟨c,d⟩,y⟩,_⟩=>RJ L ⟨by assumption,by assumption⟩ ((i t0 ht).1) O O) λa=>QV (vs:=[_,_,_,_]) I I I Qm I .u1 .h4 wV<|QOm 5 I<|QA (wJ I Qm .u1)<|QMu I<|QA (XM I zA D2 (.cons (vs:=[_,_,_,_]) I I I .h4 (.cons (vs:=[_]) I I I (.skip (.skip (.skip (.skip .h1)))) .nil)))<|Sb (k:=Yf p) (v:=qp ⟨a,r,(f+t0.t.1,p)⟩) TR I I I PG .u2<|QE<|Ef ?_
  exact Zr (⟨a,r,(f+t0.t.1,p)⟩) I .nil (rfl) (λw h=>by
   show St ⟨w0,F0,(m,YE tx (B4 (addN ts ⟨a,r,(f+t0.t.1,p)⟩)))::bs,_⟩ w;rw[PI];exact St.imp h (.cons _ (.cons _ QNG)) (λF ⟨⟨⟨b,o,i,⟨c,d⟩,y⟩,_⟩,⟨U,E⟩⟩=>⟨b,λt ht=>by
    rcases PH ht with rfl | ht
    ·exact⟨⟨by assumption,by assumption⟩,y⟩
    exact i t ht,by rw[g]⟩))
 exact absurd hc (by cases hc)
theorem UZ{ts:List Zl}{l:List Tm}{x:Fr}{f:Rat}{r:Sr}{p:List Int}(z:Hx ts l)(hp:PW p)(hz:J6 f<=40000000)(y:B8 l<=40000000)(hG:∀F,G F->JU F/\Bw F ts/\Ja F x f/\JG F r p)(g:KW (B4 ts) (Yf p) 0=none)(hm:p∉(KP ts).map (·.2)):
  Jy prog 134 [.map (some m),x.v,r.v] ⟨w0,F0,(m,YE tx (B4 ts))::bs,G⟩ (λ(_:Zl)=>.tuple #[]) (λn=>⟨w0,F0,(m,YE tx (B4 (addN ts n)))::bs,λF=>G F/\Bw F (addN ts n)/\n.t=(f+J8 (KP ts) p,p)⟩):=by
 have a:J8 (KP ts) p=0:=qB hm;dsimp only[Sr.v,Fr.v];refine Jy.intro func134 rfl wm rfl rfl<|RT hG<|QNz<|Qv rfl (vs:=[_,_,_,_]) rfl λb4=>QMt<|wR rfl<|QL rfl (λ_ _ f k=>zC f k.2.1 (r:=r) k.2.2.2.2 (hp)) λ_=>wQ rfl<|QG<|wR rfl<|QMu rfl<|QA (CE TR rfl rfl PG vX .u1 g)<|QMu rfl<|QA (Qi rfl rfl)<|QA (Qi rfl rfl)<|Qe D2 λE=>QV (vs:=[_,_,_,_,_]) rfl rfl rfl KN rfl .here .h5 wW<|wQ rfl<|wR rfl<|QE<|QD ?_
 refine QP I (λhc=>?_) λhc=>?_
 ·exact absurd hc (by cases hc)
 refine QOn 5 I<|QA (wJ I Qm .u1)<|QMu I<|QA (XM I zA D2 (.cons (vs:=[_,_,_,_]) I I I .h4 (.cons (vs:=[_]) I I I (.skip (.skip (.skip (.skip .h1)))) .nil)))<|Sb (k:=Yf p) (v:=qp ⟨x,r,(f,p)⟩) TR I I I PG .u2<|QE<|Ef ?_
 exact Zr (⟨x,r,(f,p)⟩) I .nil (rfl) (λw h=>by
  show St ⟨w0,F0,(m,YE tx (B4 (addN ts ⟨x,r,(f,p)⟩)))::bs,_⟩ w;rw[PI];exact St.imp h (.cons _ (.cons _ QNG)) (λF ⟨⟨b,o,i,⟨c,d⟩,j⟩,_⟩=>⟨b,λt ht=>by
   rcases PH ht with rfl | ht
   ·exact⟨⟨by assumption,by assumption⟩,j⟩
   exact i t ht,by rw[a,bm]⟩))
theorem j5{ts:List Zl}{l:List Tm}{x:Fr}{f:Rat}{r:Sr}{p:List Int}(b:Hx ts l)(hp:PW p)(hz:J6 f<=40000000)(a:B8 l<=40000000)(hG:∀F,G F->JU F/\Bw F ts/\Ja F x f/\JG F r p):
  Jy prog 134 [.map (some m),x.v,r.v] ⟨w0,F0,(m,YE tx (B4 ts))::bs,G⟩ (λ(_:Zl)=>.tuple #[]) (λn=>⟨w0,F0,(m,YE tx (B4 (addN ts n)))::bs,λF=>G F/\Bw F (addN ts n)/\n.t=(f+J8 (KP ts) p,p)⟩):=by
 rcases QAA ts p 0 with ⟨h1,h2⟩ | ⟨j,t,ht,h1,h2⟩
 ·exact UZ b hp hz a hG h1 h2
 exact IC b hp hz a hG ht h1 h2
end
section
variable[Dr]
theorem gT{w:World}{F:Gs}{a b:Zl}(g:Fits F w)(i:Ol F a)(h:Ol F b)(d:PW a.t.2)(c:PW b.t.2):QX prog 189 [qp a,qp b] w F (.int .i64 (Wo a.t.2 b.t.2)):=by
 refine QU.go (G:=λF=>Ol F a/\Ol F b) func189 g ⟨i,h⟩ ?_;refine QNz<|Qv I (vs:=[_,_,_,_,_]) I λb2=>Qv I (vs:=[_,_,_,_,_]) I λb3=>QOm 5 I<|QA (QH I P0 Qx)<|QA (Qa I Qx .u1 (.skip (.skip (.skip (.skip .h1)))))<|QA (QH I P0 Qx)<|QA (Qa I Qx .here (.skip (.skip (.skip (.skip .h1)))))<|QL I (λ_ _ f k=>PB f (ra:=a.r) (rb:=b.r) k.1.2 (k.2.2) (d) (c)) λ_=>wQ I<|QW ?_
 exact QO2 I I (rfl) wy
end
end Go.Proofs.YtogkbhegfnklhaaGreatDoor
namespace Go.Proofs
open Go.Shelf
def CL:Go.Shelf.Ren:=⟨λ| 14=>245 | 20=>276 | 21=>277 | 22=>278 | 23=>279 | 24=>280 | 25=>281 | 26=>282 | 27=>283 | 46=>306 | 47=>270 | 48=>271 | 49=>307 | 50=>308 | 15=>176 | 57=>320 | 28=>238 | 29=>239 | n=>n,λ| 24=>186 | 22=>119 | 3=>3 | 25=>248 | 4=>4 | 0=>0 | 46=>281 | 45=>280 | 50=>276 | 66=>311 | 39=>239 | 55=>264 | 70=>315 | 76=>337 | 77=>338 | 53=>287 | 5=>5 | 9=>9 | n=>n,λ| n=>n⟩
theorem cG:fV prog CL:={
 mixed:=wi
 f14:=⟨f245.name,wj,func245.trans tE⟩
 f15:=func176.trans tE
 f20:=⟨f276.name,wj,func276.trans tE⟩
 f21:=⟨f277.name,wj,func277.trans tE⟩
 f22:=⟨f278.name,wj,func278.trans tE⟩
 f23:=⟨f279.name,wj,func279.trans tE⟩
 f24:=⟨f280.name,wj,func280.trans tE⟩
 f25:=⟨f281.name,wj,func281.trans tE⟩
 f26:=⟨f282.name,wj,func282.trans tE⟩
 f27:=⟨f283.name,wj,func283.trans tE⟩
 f28:=func238.trans tE
 f29:=func239.trans tE
 f46:=⟨f306.name,wj,func306.trans tE⟩
 f47:=func270.trans tE
 f48:=func271.trans tE
 f49:=⟨f307.name,wj,func307.trans tE⟩
 f50:=⟨f308.name,wj,func308.trans tE⟩
 f57:=⟨f320.name,wj,func320.trans tE⟩
 t0:=underlying0
 a0:=isAgg0
 z0:=sizeOf0
 v0:=zeroValue0
 t3:=underlying3
 a3:=isAgg3
 z3:=sizeOf3
 v3:=zeroValue3
 t4:=underlying4
 a4:=isAgg4
 z4:=sizeOf4
 v4:=zeroValue4
 t5:=underlying5
 a5:=isAgg5
 z5:=sizeOf5
 v5:=zeroValue5
 t9:=underlying9
 a9:=isAgg9
 z9:=sizeOf9
 v9:=zeroValue9
 t22:=underlying119
 a22:=isAgg119
 z22:=sizeOf119
 v22:=zeroValue119
 t25:=underlying248
 a25:=isAgg248
 z25:=sizeOf248
 v25:=zeroValue248
 t39:=underlying239
 a39:=isAgg239
 z39:=sizeOf239
 v39:=zeroValue239
 t45:=underlying280
 a45:=isAgg280
 z45:=sizeOf280
 v45:=zeroValue280
 t46:=underlying281
 a46:=isAgg281
 z46:=sizeOf281
 v46:=zeroValue281
 t50:=underlying276
 a50:=isAgg276
 z50:=sizeOf276
 v50:=zeroValue276
 t53:=underlying287
 a53:=isAgg287
 z53:=sizeOf287
 v53:=zeroValue287
 t55:=underlying264
 a55:=isAgg264
 z55:=sizeOf264
 v55:=zeroValue264
 t66:=underlying311
 a66:=isAgg311
 z66:=sizeOf311
 v66:=zeroValue311
 t70:=underlying315
 a70:=isAgg315
 z70:=sizeOf315
 v70:=zeroValue315
 t76:=underlying337
 a76:=isAgg337
 z76:=sizeOf337
 v76:=zeroValue337
 t77:=underlying338
 a77:=isAgg338
 z77:=sizeOf338
 v77:=zeroValue338 }
end Go.Proofs
namespace Go.Proofs.YtogkbhegfnklhaaGreatDoor
variable{a b l o u:List Int}{c i j k m n:Nat}{w:World}{F F':Gs}{ra rb:Sr}{d f z zx:Int}{x y:Operand}{s:List UInt8}{cs rest:List Value}{α ι:Type}{et kt yT:TypeId}{P:Program}{seen:List Nat}
section
open Go.RowKit Ig Go.Sort
def ntd:Zl:=⟨⟨⟨0,none,0,0⟩,⟨1,none,0,0⟩⟩,⟨none,0,0⟩,(0,[])⟩
def QF3(F:Gs):Ol F ntd:=⟨⟨Jt.small F wj wj,Jt.small F wj wj⟩,⟨by simp[Qz,ntd],rfl,ak _⟩⟩
def PW.nil:PW []:=⟨λ_ h=>(by cases h),wu⟩
abbrev uG(F:Gs):={t:Zl // Ol F t/\PW t.t.2}
instance(F:Gs):Inhabited (uG F):=⟨⟨ntd,QF3 F,PW.nil⟩⟩
def Hw(F:Gs):uG F->List Value:=λt=>GU t.1
def cfT(F:Gs):uG F->uG F->Int:=λx y=>Wo x.1.t.2 y.1.t.2
def ltT(x y:uG F):ltOf (cfT F) x y=before x.1.t.2 y.1.t.2:=(W8 _ _).symm
def RN{c:List Int}(h:before a b=false)(k:before b c=false):before a c=false:=by
 cases hb:before a c with
 |false=>rfl
 |true =>
  rcases W9 b c with e | e | e
  ·subst e;rw[h]at hb;cases hb
  ·rw[k]at e;cases e
  rw[before_trans hb e]at h;cases h
theorem QEy(F:Gs):SWO (ltOf (cfT F)) where
 irrefl:=λx=>by rw[ltT];exact before_irrefl _
 trans:=λx y z h k=>by rw[ltT]at h k ⊢;exact before_trans h k
 ntrans:=λx y z h k=>by rw[ltT]at h k ⊢;exact RN h k
def CR(w:World)(F:Gs)(W:World):Gs:=λb=>if b<w.heap.size then F b else match W.heap[b]? with | some (.cells c T _)=>if T=264 then some (c,264)else none | _=>none
def Wh{W:World}{b:Nat}(h:b<w.heap.size):CR w F W b=F b:=if_pos h
theorem OB{W:World}(a:Fits F w):Gs.le F (CR w F W):=λb x hb=>by rw[Wh (a.lt hb)];exact hb
theorem R5{W:World}{ZH:Nat}{c':Array Value}{T:TypeId}{fr':Nat×Nat}(hF:Fits F w)(hn:F ZH=none)(hT:T≠264)(h1:∀b,b<w.heap.size->b≠ZH->W.heap[b]?=w.heap[b]?)(h2:W.heap[ZH]?=some (.cells c' T fr')):Fits (CR w F W) W:=by
 refine⟨λb c T hb=>?_,λb c fr hb=>?_⟩
 ·by_cases hlt:b<w.heap.size
  ·rw[Wh hlt]at hb;obtain⟨fr,e⟩:=hF.row b c T hb;have hne:b≠ZH:=by rintro rfl;rw[hn]at hb;cases hb
   exact⟨fr,by rw[h1 b hlt hne];exact e⟩
  unfold CR at hb;rw[if_neg hlt]at hb;split at hb
  ·rename_i c' T' fr heq;split at hb
   ·rename_i hT;cases hb;exact⟨fr,by rw[heq,hT]⟩
   cases hb
  cases hb
 by_cases hlt:b<w.heap.size
 ·rw[Wh hlt];by_cases hne:b=ZH
  ·subst hne;rw[h2]at hb;cases hb;exact absurd rfl hT
  rw[h1 b hlt hne]at hb;exact hF.all b c fr hb
 unfold CR;rw[if_neg hlt,hb];simp
theorem pD{w':World}(h1:Below w.heap.size w w')(h2:w.drawn<=w'.drawn):w'=grow (w.drewN (w'.drawn-w.drawn)) (w'.heap.extract w.heap.size w'.heap.size):=by
 have hh:w'.heap=w.heap++w'.heap.extract w.heap.size w'.heap.size:=by
  apply Array.ext_getElem?;intro i;rw[Array.getElem?_append];split
  ·rename_i h;exact h1.block i h
  rename_i h;rw[Array.getElem?_extract];have:=h1.size;by_cases g:i<w'.heap.size
  ·rw[if_pos O];congr 1;omega
  rw[if_neg O,Array.getElem?_eq_none O]
 obtain⟨e1,e2,e3,_,_⟩:=h1;cases w' with
 |mk heap tape drawn os output =>
  simp only at hh e1 e2 e3 h2;unfold grow World.drewN;simp only[World.mk.injEq];exact⟨hh,e2,O,e1,e3⟩
section
variable{α:Type}[Inhabited α]{enc:α->List Value}{k:Nat}{w:World}{ZH m:Nat}{dk:Array α}{os:Array Obj}{c:Array Value}{T:TypeId}{fr:Nat×Nat}
def DC(b:Nat)(hb:b<w.heap.size)(a:b≠ZH):(sortWorldK enc k w ZH 0 m dk os).heap[b]?=w.heap[b]?:=by
 show((w.heap.modify ZH _)++os)[b]?=_;rw[Array.getElem?_append,if_pos (by simpa using hb),Array.getElem?_modify,if_neg (Ne.symm a)]
def j0(h:w.heap[ZH]?=some (.cells c T fr)):(sortWorldK enc k w ZH 0 m dk os).heap[ZH]?=some (.cells (putCells id 0 (flatK enc k dk) c) T fr):=by
 have hb:ZH<w.heap.size:=by
  rcases bI ZH w.heap.size with g | g
  ·exact g
  rw[Array.getElem?_eq_none g]at h;cases h
 show((w.heap.modify ZH _)++os)[ZH]?=_;rw[Array.getElem?_append,if_pos (by simpa using hb),Array.getElem?_modify,if_pos rfl,h];rfl
theorem Iy(hk:∀x,(enc x).length=k)(d:Array α):flatK enc k d=(d.toList.flatMap enc).toArray:=by
 have c:(d.toList.flatMap enc).length=d.size*k:=by
  generalize hd:d.toList=l;have:d.size=l.length:=by rw[<-hd];simp
  rw[this];clear this hd
  induction l with
  |nil=>simp
  |cons x l ih=>rw[eN,ah,ih,hk,aB,Nat.add_mul];omega
 apply Array.ext_getElem?;intro t;by_cases ht:t<d.size*k
 ·have a:0<k:=Nat.pos_of_ne_zero λe=>by rw[e]at ht;simp at ht
  have h1:t/k<d.size:=(Nat.div_lt_iff_lt_mul a).2 ht;have h2:t%k<k:=Nat.mod_lt _ a;have h3:t%k<(enc d[t/k]!).length:=by rw[hk];exact h2
  have b:(flatK enc k d)[t]?=some ((enc d[t/k]!)[t%k]!):=by
   rw[Array.getElem?_eq_getElem (by rw[size_flatK];exact ht)];have:=get_flatK enc k d t ht;rw[getElem!_pos _ t (by rw[size_flatK];exact ht)]at this;rw[this]
  rw[b,List.getElem?_toArray];have h4:el d.toList (t/k)=d[t/k]!:=by simp[el,h1]
  have:=JX (f:=enc) hk (l:=d.toList) (i:=t/k) (j:=t%k) (u:=(enc d[t/k]!)[t%k]!) (by simpa using h1) (by rw[h4,List.getElem?_eq_getElem h3,getElem!_pos (enc d[t/k]!) (t%k) h3]);rw[Nat.mul_comm,Nat.div_add_mod]at this;exact this.symm
 rw[Array.getElem?_eq_none (by rw[size_flatK];omega),List.getElem?_toArray,List.getElem?_eq_none O]
theorem S8{a b:List Value}(h:b.length=a.length):putCells id 0 b.toArray (a++rest).toArray=(b++rest).toArray:=by
 apply Array.ext_getElem?;intro i;unfold putCells;rw[Array.getElem?_mapIdx,List.getElem?_toArray,List.getElem?_toArray,List.getElem?_append,List.getElem?_append];by_cases hi:i<a.length
 ·have c:i<b.length:=O;rw[if_pos hi,if_pos c,List.getElem?_eq_getElem hi,List.getElem?_eq_getElem c];simp[c]
 have c:¬i<b.length:=O;rw[if_neg hi,if_neg c,h];have e:¬(0<=i/\i<0+b.toArray.size):=wv;cases rest[i-a.length]? with
 |none=>rfl
 |some x=>simp only[Option.map_some];rw[if_neg e]
end
def qc(g:FuncId):Prop:=Enters prog g/\∀(w:World) (F:Gs) (a b:Zl),Fits F w->Ol F a->Ol F b->PW a.t.2->PW b.t.2->@QU ⟨True⟩ prog g [qp a,qp b] w F Unit (λ_=>.int .i64 (Wo a.t.2 b.t.2)) λ_ _=>True
theorem qc.lays{g:FuncId}(hg:qc g){w:World}{F:Gs}{ZH size:Nat}{c:Array Value}{T:TypeId}{fr:Nat×Nat}(d:Fits F w)(f:F ZH=none)(i:T≠264)(hb:w.heap[ZH]?=some (.cells c T fr)):CmpLays prog g #[] (Hw F) 5 (cfT F) ZH 0 size w:=λm os dk _ x y=>by
 have h:=R5 (W:=sortWorldK (Hw F) 5 w ZH 0 m dk os) d f i (λb h1 h2=>DC b h1 h2) (j0 hb);have a:=OB (W:=sortWorldK (Hw F) 5 w ZH 0 m dk os) d;have:=(hg.2 _ _ x.1 y.1 h (x.2.1.le a) (y.2.1.le a) x.2.2 y.2.2).2;refine this.mono ?_;rintro e w' ⟨_,F',rfl,hx,_⟩;exact⟨rfl,_,_,pD (@RU.toBelow ⟨True⟩ _ _ hx) (@RU.dr ⟨True⟩ _ _ hx trivial)⟩
def QKA(x:uG F):∀v∈Hw F x,v.oneCell'=true:=by
 intro v hv;unfold Hw GU at hv;simp only[bY,fT,or_false]at hv;rcases hv with rfl | rfl | rfl | rfl | rfl<;>rfl
variable[Dr]{w0:World}{F0:Gs}{bs:List (Nat×Obj)}{G:Gs->Prop}
theorem QFV{g:FuncId}(hg:qc g){b n cap lim:Nat}{ts:List Zl}{rest:List Value}(hG:∀F,G F->Bw F ts)(hp:∀t∈ts,PW t.t.2)(hl:ts.length=n)(hn:n<4611686018427387904)(X:lim<4611686018427387904):
  Jy prog 245 [.slice (some ⟨b,0,none⟩) n cap,.int .i64 0,.int .i64 (n:Nat),.int .i64 (lim:Nat),.func (.func g) #[] #[]] ⟨w0,F0,(b,.cells (ts.flatMap GU++rest).toArray 186 (0,0))::bs,G⟩ (λ(_:List Zl)=>.tuple #[])
   (λts'=>⟨w0,F0,(b,.cells (ts'.flatMap GU++rest).toArray 186 (0,0))::bs,λF=>G F/\ts'.Perm ts/\ts'.Pairwise λx y=>before y.t.2 x.t.2=false⟩):=by
 refine⟨enters_of func245 wm rfl,λw hw=>?_⟩;obtain⟨F,h⟩:=hw;obtain⟨o,hb2,K⟩:=h.bx (b,_) bT;have hts:=hG F h.hG;have E:b<w.heap.size:=(Array.getElem?_eq_some_iff.1 o).1;have hT:(186:TypeId)≠264:=wj;obtain⟨d,hd⟩:∃d:Array (uG F),d.toList.map (·.1)=ts:=by
  refine⟨(ts.attach.map λt=>(⟨t.1,hts t.1 t.2,hp t.1 t.2⟩:uG F)).toArray,?_⟩;simp[iw,Function.comp_def]
 have hds:d.size=n:=by rw[<-hl,<-hd];simp
 have hfl:∀d:Array (uG F),flatK (Hw F) 5 d=((d.toList.map (·.1)).flatMap GU).toArray:=λd=>by
  rw[Iy (enc:=Hw F) (k:=5) (λ_=>rfl),List.flatMap_map];rfl
 have hH:HoldsK (Hw F) 5 w b 0 d:=by
  intro j hj;rw[hfl,hd]at hj ⊢;have c:j<(ts.flatMap GU).length:=by simpa using hj
  rw[aG];refine⟨?_,by simp[World.frozen?,o]⟩;simp only[World.cell?,o,Option.isSome_none,fM,if_false,List.getElem?_toArray];rw[List.getElem?_append_left c,List.getElem?_eq_getElem c];show some _=some ((ts.flatMap GU).toArray[j]!);rw[getElem!_pos (ts.flatMap GU).toArray j (by simpa using c)];simp
 have hR:RowK (Hw F) 5 w b 0 d:=⟨λ_=>rfl,λx=>QKA x,hH,E⟩;have eg:=hg.1;have hcmp:=hg.lays (size:=d.size) h.fits K hT o;have hs:=AnyQ.pdqsortCmpFunc_all cG 5 (Sj KN) (Y0 KN) (Hw F) (cfT F) g #[] (QEy F) b 0 cap d w eg hcmp hR (d.size+1) 0 d.size lim d w O rfl (SWK.start hH) (aC _) (ak _) O X (Or.inl I);have L:=pdq_sorts (ltOf (cfT F)) (QEy F) d 0 d.size lim true true (aC _) (ak _) (Or.inl I);generalize pdq (ltOf (cfT F)) d 0 d.size lim true true=d' at hs L;obtain⟨⟨hp1,_,U⟩,hso⟩:=L;rw[hds]at hs;refine hs.mono ?_;rintro e w' ⟨rfl,m,os,rfl⟩;have H:=j0 (enc:=Hw F) (k:=5) (m:=m) (dk:=d') (os:=os) o;have hfit:=R5 (W:=sortWorldK (Hw F) 5 w b 0 m d' os) h.fits K hT (λb h1 h2=>DC b h1 h2) H;have Y:=OB (W:=sortWorldK (Hw F) 5 w b 0 m d' os) h.fits;have a:(d'.toList.map (·.1)).Perm ts:=by
  rw[<-hd];refine List.Perm.map _ ?_;have e1:(d'.extract 0 d.size).toList=d'.toList:=by rw[<-hp1];simp
  have e2:(d.extract 0 d.size).toList=d.toList:=wu;rw[e1,e2]at U;exact U
 have z:putCells id 0 (flatK (Hw F) 5 d') (ts.flatMap GU++rest).toArray=((d'.toList.map (·.1)).flatMap GU++rest).toArray:=by
  rw[hfl];refine S8 ?_;have:=(eV GU a).length_eq;exact this
 rw[z]at H;have hsz:w.heap.size<=(sortWorldK (Hw F) 5 w b 0 m d' os).heap.size:=by
  show _<=((w.heap.modify b _)++os).size;simp
 refine⟨d'.toList.map (·.1),rfl,CR w F (sortWorldK (Hw F) 5 w b 0 m d' os),?_⟩;refine⟨Gs.le_trans h.le Y,λk hk=>?_,hfit,⟨⟨?_,?_,?_,?_,?_⟩,?_⟩,λk hk=>?_,h.nd,λF' hF'=>⟨h.g F' (Gs.le_trans Y hF'),a,?_⟩⟩
 ·have:k<w.heap.size:=fO hk h.ext.size;rw[Wh this];exact h.old k hk
 ·exact h.ext.os
 ·exact h.ext.tape
 ·exact h.ext.output
 ·exact bO h.ext.size hsz
 ·intro k hk;have h1:k<w.heap.size:=fO hk h.ext.size;have h2:k≠b:=by rintro rfl;exact absurd hk (Nat.not_lt.2 hb2)
  rw[DC k h1 h2];exact h.ext.block k hk
 ·intro hd;exact bO (h.ext.dr hd) (Nat.le_add_right _ _)
 ·rcases List.mem_cons.1 hk with rfl | hk
  ·exact⟨H,hb2,by rw[Wh E];exact K⟩
  obtain⟨g1,g2,g3⟩:=h.bx k (bw _ hk);have h1:k.1<w.heap.size:=(Array.getElem?_eq_some_iff.1 g1).1;have h2:k.1≠b:=by
   have:=h.nd;simp only[aD]at this;have:=(List.nodup_cons.1 this).1;rintro e;exact this (e ▸ aT (f:=(·.1)) hk)
  exact⟨by rw[DC k.1 h1 h2];exact g1,g2,by rw[Wh h1];exact g3⟩
 rw[fP,List.pairwise_iff_getElem];intro i j hi hj hij;have hi':i<d'.size:=by simpa using hi
 have c:j<d'.size:=by simpa using hj
 have:=hso i j (aC _) hij O;rw[ltT,getElem!_pos _ i hi',getElem!_pos _ j c]at this;simpa using this
end
open Go.RowKit Ig
section
variable[Dr]{w0:World}{F0:Gs}{bs:List (Nat×Obj)}{G:Gs->Prop}
theorem qH(a:Fits F w){n:Nat}(h:n<4611686018427387904):QX prog 176 [.int .u64 (n:Nat)] w F (.int .i64 (Lib.bitLen n:Nat)) :=
 QU.same (enters_of func176 wm rfl) a (by
  have:=bits_Len (n:Nat) w O O
  rwa [bZ]at this)
theorem yP:∀ {ts:List Zl},ts.flatMap GU=[]->ts=[]
 |[],_=>rfl
 |t::l,h=>by rw[eN]at h;simp[GU]at h
theorem QBN{g:FuncId}(hg:qc g){n lim:Nat}{v:Value}{ts:List Zl}{ob:List (Nat×Obj)}(hr:Q2 186 5 v n (ts.flatMap GU) ob)(hG:∀F,G F->Bw F ts)(hp:∀t∈ts,PW t.t.2)(hl:ts.length=n)(hn:n<4611686018427387904)(hlim:lim<4611686018427387904):
  Jy prog 245 [v,.int .i64 0,.int .i64 (n:Nat),.int .i64 (lim:Nat),.func (.func g) #[] #[]] ⟨w0,F0,ob++bs,G⟩ (λ(_:List Zl×List (Nat×Obj))=>.tuple #[])
   (λc=>⟨w0,F0,c.2++bs,λF=>G F/\Q2 186 5 v n (c.1.flatMap GU) c.2/\c.1.Perm ts/\c.1.Pairwise λx y=>before y.t.2 x.t.2=false⟩):=by
 generalize hcs:ts.flatMap GU=cs at hr;cases hr with
 |nil =>
  have:=yP hcs;subst this;refine⟨enters_of func245 wm rfl,λw hw=>?_⟩;refine(AnyF.pdqsortCmpFunc_none cG none 0 (lim:Nat) (.func (.func g) #[] #[]) w).mono ?_;rintro e w' ⟨rfl,rfl⟩;exact⟨([],[]),rfl,hw.GW λF h=>⟨h,.nil,aK _,fe⟩⟩
 |some h1 h2 h3 h4 =>
  rename_i b cap rest;subst hcs;have h:=QFV (w0:=w0) (F0:=F0) (bs:=bs) (G:=G) hg (b:=b) (n:=n) (cap:=cap) (lim:=lim) (ts:=ts) (rest:=rest) hG hp hl hn hlim;refine⟨h.1,λw hw=>(h.2 w hw).mono ?_⟩;rintro e w' ⟨ts',rfl,hw'⟩;refine⟨(ts',[(b,.cells (ts'.flatMap GU++rest).toArray 186 (0,0))]),rfl,hw'.GW λF ⟨hG',hpm,hpw⟩=>⟨hG',?_,hpm,hpw⟩⟩;have hlen:(ts'.flatMap GU).length=(ts.flatMap GU).length:=(eV GU hpm).length_eq;exact .some (by rw[hlen];exact h1) (by rw[hlen];exact h2) h3 h4
theorem QAz{g:FuncId}(hg:qc g){n:Nat}{v:Value}{ts:List Zl}{ob:List (Nat×Obj)}(hr:Q2 186 5 v n (ts.flatMap GU) ob)(hG:∀F,G F->Bw F ts)(hp:∀t∈ts,PW t.t.2)(b:ts.length=n)(a:n<4611686018427387904):
  Jy prog 188 [v,.func (.func g) #[] #[]] ⟨w0,F0,ob++bs,G⟩ (λ(_:List Zl×List (Nat×Obj))=>.tuple #[])
   (λc=>⟨w0,F0,c.2++bs,λF=>G F/\Q2 186 5 v n (c.1.flatMap GU) c.2/\c.1.Perm ts/\c.1.Pairwise λx y=>before y.t.2 x.t.2=false⟩):=by
 refine Jy.intro func188 rfl wm rfl rfl<|wR rfl<|QA (Uu rfl hr D9)<|wQ rfl<|QB<|QMu rfl<|QMu rfl<|QMu rfl<|QA (L3 rfl QEr cU O)<|QL rfl (λ_ _ f _=>qH f a) λ_=>QMu rfl<|Xv rfl (aK _) (QBN hg hr (λF h=>hG F h.1) hp b a (Nat.lt_of_le_of_lt (Lib.bitLen_le n 62 O O) O)) λc=>QE<|Ef ?_
 exact Zr (c) rfl .nil (rfl) λw h=>h.GW λF h=>⟨h.1.1,h.2⟩
end
theorem EF:∀(n:Nat) (l:List Nat),l.Nodup->(∀j∈l,j<n)->l.length<=n
 |0,l,_,h=>by
  cases l with
  |nil=>exact ak _
  |cons x l=>exact absurd (h x bT) (Nat.not_lt_zero _)
 |n+1,l,a,h=>by
  have h1:=EF n (l.erase n) (a.erase n) λj b=>by
   have h2:=(a.mem_erase_iff).1 b;have h3:=h j h2.2;have h4:=h2.1;omega
  rw[List.length_erase]at h1;split at h1<;>omega
theorem O3{l:List Nat}(d:l.Nodup)(h:∀j∈l,j<n)(f:j<n)(c:j∉l):(l++[j]).Nodup/\(∀i∈l++[j],i<n)/\l.length<n:=by
 have h1:(l++[j]).Nodup:=by
  rw[List.nodup_append];exact⟨d,wu,λa ha b hb=>by rw[List.mem_singleton.1 hb];rintro rfl;exact c ha⟩
 have h2:∀i∈l++[j],i<n:=λi hi=>by
  rcases List.mem_append.1 hi with hi | hi
  ·exact h i hi
  rw[List.mem_singleton.1 hi];exact f
 have h3:=EF n _ h1 h2;rw[ah]at h3;exact⟨h1,h2,by simp at h3;omega⟩
theorem xH{l:List Nat}(b:l.Nodup)(h:∀j∈l,j<n)(ha:∀j,j<n->j∈l):l.Perm (fb n) :=
 (List.perm_ext_iff_of_nodup b List.nodup_range).2 λa=>by rw[List.mem_range];exact⟨h a,ha a⟩
theorem TI[Inhabited α](l:List α):(fb l.length).map (el l)=l:=by
 apply List.ext_getElem?;intro i;by_cases h:i<l.length
 ·rw[List.getElem?_map,List.getElem?_range h,List.getElem?_eq_getElem h];simp[JB h]
 rw[List.getElem?_eq_none wv,List.getElem?_eq_none O]
def Ws(F:Gs)(s:Sr)(ts:List Zl)(p:List Tm):Prop:=Qz F s.q s.n 5 (ts.flatMap GU)/\Bw F ts/\KP ts=p/\s.n<=s.cap/\ts.length=s.n
def Ws.le{s:Sr}{ts:List Zl}{p:List Tm}(h:Ws F s ts p)(k:Gs.le F F'):Ws F' s ts p:=⟨h.1.le k,h.2.1.le k,h.2.2⟩
def L9(ts:List Zl):List Zl:=ts.filter λt=>decide (t.t.1≠0)
def U2(ts:List Zl)(t:Zl):L9 (ts++[t])=L9 ts++(if t.t.1≠0 then[t]else[]):=by
 unfold L9;rw[List.filter_append];congr 1;by_cases h:t.t.1=0
 ·simp[h]
 simp[h]
structure QHC(ts:List Zl) where
 seen:List Nat
 v:Value
 n:Nat
 ob:List (Nat×Obj)
 hr:Q2 186 5 v n ((L9 (seen.map (el ts))).flatMap GU) ob
 nd:seen.Nodup
 lt:∀j∈seen,j<ts.length
 hn:(L9 (seen.map (el ts))).length=n
def OI(ts:List Zl):(B4 ts).length=ts.length:=by simp[B4]
theorem y6:qc 189:=⟨enters_of func189 wm rfl,λw F a b f h g d c=>@gT ⟨True⟩ w F a b f h g d c⟩
def Li{r:Rat}:Na r.num=0↔r=0:=by
 unfold Na;constructor
 ·intro h;apply Rat.num_eq_zero.1;split at h
  ·omega
  split at h<;>omega
 rintro rfl;rfl
def j4{ts os:List Zl}{l:List Tm}(f:Hx ts l)(h:seen.Nodup)(d:∀j∈seen,j<ts.length)(c:∀j,j<ts.length->j∈seen)(hp:os.Perm (L9 (seen.map (el ts))))(g:os.Pairwise λx y=>before y.t.2 x.t.2=false):KP os=DV l:=by
 have h1:os.Perm (L9 ts):=by
  refine hp.trans ?_;unfold L9;refine List.Perm.filter _ ?_;have:=(xH h d c).map (el ts)
  rwa [TI]at this
 have h2:(KP os).Perm ((KP ts).filter λt=>decide (t.1≠0)):=by
  have:=h1.map Zl.t;unfold L9 at this;have e:(ts.filter λt=>decide (t.t.1≠0)).map Zl.t=(ts.map Zl.t).filter λt=>decide (t.1≠0):=by
   rw[List.filter_map];rfl
  rw[e]at this;exact this
 refine f.vj.norm h2 ?_;have a:((KP os).map (·.2)).Nodup:=by
  have h3:((KP os).map (·.2)).Perm (((KP ts).filter λt=>decide (t.1≠0)).map (·.2)):=h2.map _;rw[h3.nodup_iff];exact(List.filter_sublist.map _).nodup f.vj.nd
 unfold KP at a ⊢;rw[fP];rw[iw]at a;have b:=List.pairwise_map.1 a;refine(g.and b).imp ?_;rintro x y ⟨h1,h2⟩;rcases W9 x.t.2 y.t.2 with e | e | e
 ·exact absurd e h2
 ·exact e
 rw[h1]at e;cases e
def Ik{ts:List Zl}(a:∀j∈seen,j<ts.length){t:Zl}(h:t∈L9 (seen.map (el ts))):t∈ts:=by
 have:=(List.mem_filter.1 h).1;obtain⟨j,b,e⟩:=List.mem_map.1 this;rw[<-e];exact Qy (a j b)
def zP{ts:List Zl}{t:Zl}(e:el ts j=t)(h:t.t.1≠0):L9 ((seen++[j]).map (el ts))=L9 (seen.map (el ts))++[t]:=by
 rw[bN,aD,iv,e,U2,if_pos h]
def cP{ts:List Zl}{t:Zl}(e:el ts j=t)(h:t.t.1=0):L9 ((seen++[j]).map (el ts))=L9 (seen.map (el ts)):=by
 rw[bN,aD,iv,e,U2,if_neg (not_not_intro h),fZ]
def gi(t:Zl):∀v∈GU t,v.oneCell'=true:=by
 intro v hv;unfold GU at hv;simp only[bY,fT,or_false]at hv;rcases hv with rfl | rfl | rfl | rfl | rfl<;>rfl
section
variable{w0:World}{F0:Gs}{bs:List (Nat×Obj)}{G:Gs->Prop}
theorem Oz{ts:List Zl}{l:List Tm}(hI:Hx ts l)(hlen:ts.length<=1000000000)(hG:∀F,G F->Bw F ts):
  Jy prog 135 [.map (some m)] ⟨w0,F0,(m,YE tx (B4 ts))::bs,G⟩ (λ(c:Sr×List Zl)=>c.1.v) (λc=>⟨w0,F0,(m,YE tx (B4 ts))::bs,λF=>G F/\Ws F c.1 c.2 (DV l)⟩):=by
 refine Jy.intro func135 rfl wm rfl rfl<|RT hG<|QNz<|wQ rfl<|QNz<|wQ rfl<|QG<|wR rfl<|FQ rfl PG .here λb7=>QMt<|QQ<|Jf (ι:=QHC ts) [(7,_)] (λi=>[(3,i.v)]) (λi=>(b7,qw m (B4 ts).length i.seen)::(m,YE tx (B4 ts))::(i.ob++bs)) (λi F=>True) (λi=>ts.length-i.seen.length) (⟨[],_,0,[],.nil,fc,(λ_ h=>by cases h),rfl⟩) wS wS QNG wy λi=>?_
 have hn0:i.n<=i.seen.length:=by rw[<-i.hn];exact bO (List.length_filter_le _ _) wu
 refine QNz<|LL (kv:=B4 ts) (K:=tx) (b:=m) rfl .here .u1 λx hx=>QA (Qi I (QF2 x))<|QMt<|QG ?_
 refine QP I (λhc=>?_) λhc=>?_
 ·obtain⟨j,rfl⟩:∃j,x=some j:=by
   cases x with
   |none=>cases hc
   |some j=>exact⟨j,rfl⟩
  obtain⟨X,hjn⟩:=hx;rw[OI]at X;obtain⟨E,z,hs3⟩:=O3 i.nd i.lt X hjn;have y:=Qy X;have U:(B4 ts)[j]?=some (Yf (el ts j).t.2,qp (el ts j)):=by rw[B4,List.getElem?_map,List.getElem?_eq_getElem X,JB X];rfl
  generalize d:el ts j=t at y U;refine QOn 5 I<|QA (gK (kv:=B4 ts) (K:=tx) (p:=(Yf t.t.2,qp t)) I .here .u1 U)<|wB 1 I<|Qe D2 λb5=>QV (vs:=[_,_,_,_,_]) I I I KN I .here .h5 wW<|QMt<|QNz<|QA (QH I P1 Qm)<|QA (wJ I Qm .here)<|QL I (λ_ _ f k=>jO f ((k.1.2 t y).1)) λ_=>QOm 3 I ?_
  refine QP I (λhc=>?_) λhc=>?_
  ·have L:t.t.1≠0:=λe=>by rw[e]at hc;cases hc
   refine wA 2 I<|QA (QR (vs:=[_,_,_,_,_]) I KN .here .h5 rfl)<|JC I (Jc D9) KN D2 I I λb18=>X5 (bs':=(_::_::_::bs)++i.ob) (.cons _ (.cons _ (.cons _ bJ))) ?_
   refine Z1 (ob:=i.ob) (k:=1) (sz:=5) (news:=GU t) rfl rfl D9 KN D2 I QCF i.hr (Src.row (off:=0) w8 (λj v hv=>by rw[aG];show((GU t).toArray)[j]?=some v;rw[List.getElem?_toArray];exact hv) rfl) O O (gi t) (λv19 g H=>?_);refine X5 (bs':=_::_::_::(g++bs)) (.cons _ (.cons _ (.cons _ bJ)))<|wB 2 I<|Qf ?_
   exact Qh (⟨i.seen++[j],v19,i.n+1,g,by rw[zP d L,fG];simpa using H,E,z,by rw[zP d L,ah,i.hn];rfl⟩) (by show _-(i.seen++[j]).length<_;rw[ah];simp only[ay];omega) wT (.cons _ QNG) λF h=>⟨h.1.1.1,trivial⟩
  have hz:t.t.1=0:=Li.1 (by simpa using hc);refine QN<|Qf ?_
  exact Qh (⟨i.seen++[j],i.v,i.n,i.ob,by rw[cP d hz];exact i.hr,E,z,by rw[cP d hz];exact i.hn⟩) (by show _-(i.seen++[j]).length<_;rw[ah];simp only[ay];omega) wT (.cons _ QNG) λF h=>⟨h.1.1,trivial⟩
 obtain rfl:x=none:=by
  cases x with
  |none=>rfl
  |some j=>cases hc
 rw[show nxP (B4 ts).length i.seen none=∀j,j<(B4 ts).length->j∈i.seen from rfl,OI]at hx;refine Q7 ?_;refine wR I<|Xv I (List.perm_middle.trans (.cons _ List.perm_middle)).symm (QAz y6 i.hr (λF ⟨⟨hG0,hT⟩,_⟩ t ht=>hT t (Ik i.lt ht)) (λt ht=>hI.pw t (Ik i.lt ht)) i.hn (wg<|EF _ _ i.nd i.lt)) λc=>J5 _ (λ_ _ f h=>h.2) λa=>?_
 obtain⟨r,hv,o,hrc,Y⟩:=Q2.fix (w0:=w0) (F0:=F0) (bs1:=(b7,qw m (B4 ts).length (nxS i.seen none))::(m,YE tx (B4 ts))::bs) (G:=_) a.1;refine X5 bJ<|Vz Y ?_
 rw[hv];refine QOm 9 I ?_;exact Zr (⟨r,c.1⟩) I (wN I) (rfl) λw h=>St.imp h (.cons _ QNG) λF h9=>⟨h9.1.1.1.1,by rw[o];exact h9.2,λt ht=>h9.1.1.1.2 t (Ik i.lt (a.2.1.mem_iff.1 ht)),j4 hI i.nd i.lt hx a.2.1 a.2.2,by rw[o];exact hrc,a.2.1.length_eq.trans (i.hn.trans o.symm)⟩
end
section
variable[Dr][df:Df]{P:Program}{N:Nat}{m:Sl}{w0:World}{F0:Gs}{bs:List (Nat×Obj)}{G:Gs->Prop}
theorem gJ{T ty e:TypeId}{q:Option Addr}{Y:World->Prop}(hx:ev m x=some (.slice q n c))(hy:ev m y=some (.slice none 0 0))(b:GZ P T=some e):Qt P N m Y (.binOp .eql T x y yT) ty (.bool q.isNone):=λa w _ _ _ _ ha _=>by
 have:=Lib.run_eql_slice_nil (P:=P) w T e q n c 0 0 (Jc b);simp[execOp,ha.ev hx,ha.ev hy,eqGuard,this]
theorem Src.QJz{sz:Nat}{a:Addr}{news:List Value}(hr:∀F,G F->Qz F (some a) k sz news)(d:news.length=k*sz):Src ⟨w0,F0,bs,G⟩ sz (.slice (some a) k c) k news:=by
 refine⟨d,.inr ⟨a,c,rfl,λw f j v hv=>?_⟩⟩;have hk:0<k:=by
  rcases aA k with h | h
  ·rw[h,ix]at d;rw[List.length_eq_zero_iff.1 d]at hv;simp at hv
  exact h
 obtain⟨F,h⟩:=id f;obtain⟨b,off,_,_,e,_,_⟩:=(hr F h.hG).2 hk;cases e;rw[Kl];exact K8 f hr hk hv
theorem zJ(h:JG F ⟨none,n,c⟩ l):Q2 3 1 (.slice none 0 0) n (l.map JJ) []:=by
 obtain⟨⟨_,h1⟩,h2,_⟩:=h;have h0:n=0:=by
  rcases aA n with h | h
  ·exact h
  obtain⟨_,_,_,_,e,_⟩:=h1 h;cases e
 subst h0;rw[List.length_eq_zero_iff.1 h2];exact .nil
theorem dx(l:List Int):∀v∈l.map JJ,v.oneCell'=true:=by
 intro v hv;obtain⟨x,_,rfl⟩:=List.mem_map.1 hv;rfl
end
section
variable{w0:World}{F0:Gs}{bs:List (Nat×Obj)}{G:Gs->Prop}
theorem pf{r:Sr}(hG:∀F,G F->JG F r l)(f:l.length=r.n)(j:l.length<=1000000000):
  Jy prog 122 [r.v] ⟨w0,F0,bs,G⟩ (λ(c:Value×List (Nat×Obj))=>c.1) (λc=>⟨w0,F0,bs++c.2,λF=>G F/\Q2 3 1 c.1 r.n (l.map JJ) c.2⟩):=by
 obtain⟨q,n,c⟩:=r;dsimp only[Sr.v]at f ⊢;refine Jy.intro func122 rfl wm rfl rfl<|RT hG<|QNz<|wQ rfl<|QG<|wR rfl<|QA (gJ rfl rfl Qd)<|QE<|QD ?_
 refine QP I (λhc=>?_) λhc=>?_
 ·obtain rfl:q=none:=by
   cases q with
   |none=>rfl
   |some a=>cases hc
  refine wA 6 I ?_;exact Zr (⟨.slice none 0 0,[]⟩) I (wN I) (rfl) λw h=>St.imp h wu λF h9=>⟨h9.1,zJ h9.2⟩
 obtain⟨a,rfl⟩:∃a,q=some a:=by
  cases q with
  |none=>cases hc
  |some a=>exact⟨a,rfl⟩
 refine QOn 4 I<|Hb (Jc Qd) Qo λg=>QMu I<|X5 (bs':=bs++[(g,.cells ([]++[]:List Value).toArray 3 (0,0))]) (bJ (l₁:=[_]))<|Z1 (ob:=[(g,.cells ([]++[]:List Value).toArray 3 (0,0))]) (n:=0) (k:=n) (sz:=1) (news:=l.map JJ) rfl rfl Qd Qo MK I EV (.some rfl rfl (ak _) wj) (Src.QJz (λF hG=>hG.2.1) (by simp[f])) O O (dx l) λi d b=>?_
 rw[aG,List.nil_append]at b;refine wQ I<|QW ?_
 exact Zr (⟨i,d⟩) I (wN I) (rfl) λw h=>St.imp h QNG λF h9=>⟨h9.1,b⟩
end
structure Ng where
 f:List UInt8
 r:Sr
 k:List Int
instance :Inhabited Ng:=⟨⟨[],⟨none,0,0⟩,[]⟩⟩
def EX(t:Ng):List Value:=[tx t.f,.slice t.r.q t.r.n t.r.cap]
def KJ(t:Ng):(EX t).length=2:=rfl
def Wp(F:Gs)(ts:List Ng):Prop:=∀t∈ts,JG F t.r t.k
def Wp.le{ts:List Ng}(h:Wp F ts)(k:Gs.le F F'):Wp F' ts:=λt ht=>(h t ht).le k
instance{ts:List Ng}: Up (λF=>Wp F ts):=⟨λk h=>Wp.le h k⟩
def k8(t:Ng):Tm:=(Jr t.f,t.k)
structure QG9(ps:List Ng) where
 i:Nat
 ts:List Zl
 le:i<=ps.length
 hI:Hx ts ((ps.take i).map k8)
def jx(l:List Tm)(i:Nat):B8 (l.take i)<=B8 l:=by
 have:=F9 (l.take i) (l.drop i);rw[ep]at this;omega
theorem vm{l:List Tm}{t:Tm}(h:t∈l):J6 t.1<=B8 l:=by
 induction l with
 |nil=>cases h
 |cons x l ih =>
  have e:B8 (x::l)=J6 x.1+1+B8 l:=by unfold B8;rw[aD,fh]
  rcases List.mem_cons.1 h with rfl | h
  ·omega
  have:=ih h;omega
section
variable{P:Program}{w:World}{F:Gs}{f:FuncId}{args:List Value}{γ:Type}{val:γ->Value}{fact:γ->Gs->Prop}
theorem pe{r:Sr}(x:Fits F w)(k:JG F r l)(o:l.length<=1000000000):QU prog 122 [r.v] w F (λ(c:Sr)=>c.v) (λc F=>JG F c l):=by
 have h:=pf (w0:=w) (F0:=F) (bs:=[]) (G:=λF'=>Gs.le F F') (r:=r) (l:=l) (λF' h=>k.le h) k.2.1 o;refine⟨h.1,(h.2 w (St.start x λ_ h=>h)).mono ?_⟩;rintro e w' ⟨⟨v,ob⟩,rfl,f⟩;obtain⟨F1,h1⟩:=id f;have m:=(h1.hG).2;dsimp only at m f;obtain⟨s,hv,a,i,b⟩:=Q2.fix (w0:=w) (F0:=F) (bs1:=[]) m;obtain⟨F',d⟩:=b w' f;exact⟨s,F',by rw[hv],d.ext,d.le,d.old,d.fits,λF'' j=>⟨by rw[a];exact(d.g F'' j).2,by rw[a];exact k.2.1,by rw[a];exact i⟩⟩
end
section
theorem gO{r:Sr}{ps:List Ng}(hF:Fits F w)(K:JU F)(Y:Qz F r.q r.n 2 (ps.flatMap EX))(hP:Wp F ps)(hn:ps.length=r.n)(hl:ps.length<=100000)(hv:∀t∈ps,JW t.f=0/\t.f.length<=1000000/\PW t.k)(hz:B8 (ps.map k8)<=40000000):
  QU prog 76 [r.v] w F (λ(c:Sr×List Zl)=>c.1.v) (λc F=>Ws F c.1 c.2 (DV (ps.map k8))):=by
 obtain⟨q,n,cap⟩:=r;dsimp only[Sr.v]at hn Y ⊢;refine QU.go (G:=λF=>JU F/\Qz F q n 2 (ps.flatMap EX)/\Wp F ps) func76 hF ⟨K,Y,hP⟩ ?_;refine QNz<|wQ rfl<|QNz<|LN tx λm=>wQ rfl<|QG<|wR rfl<|QA (Qb rfl Y1)<|QMu rfl<|QMt<|QQ<|Jf (ι:=QG9 ps) [(3,_),(7,_),(8,_)] (λi=>[(9,.int .i64 ((i.i:Nat):Int))]) (λi=>[(m,YE tx (B4 i.ts))]) (λi F=>Bw F i.ts) (λi=>ps.length-i.i) (⟨0,[],aC _,Hx.nil⟩) wU wS QNG (λ_ _ _ h=>by cases h) λi=>?_
 have hi:=i.le;refine wA 6 I ?_;refine QP I (λhc=>?_) λhc=>?_
 ·have a:i.i<ps.length:=wg<|QOW hc
  have b:=hv _ (Qy a);have y:=jx (ps.map k8) i.i;rw[<-List.map_take]at y;have o:J6 (k8 (el ps i.i)).1<=B8 (ps.map k8):=vm (aT (Qy a));dsimp only[k8]at o;have hl1:=b.2.2.2;refine QOn 6 I<|QA (Qs (n:=n) i.i (λF h9=>h9.1.2.1) rfl rfl Y1 Z3 O)<|QA (J0 (n:=n) (vs:=[tx (el ps i.i).f,.slice (el ps i.i).r.q (el ps i.i).r.n (el ps i.i).r.cap]) ((i.i)*2) (λF h9=>h9.1.2.1) O rfl Z3 I λj v hv=>JX (f:=EX) (l:=ps) KJ O hv)<|Qe uV λb5=>QV (vs:=[_,_]) I I I Z3 I .here .h2 wT<|QMt<|JO (.cons_cons _ (.cons _ .slnil)) mixed wi<|QK (QC I)<|QK (QH I Ga JQ)<|QK (Qa I JQ .here .h1)<|QZ I (λ_ _ f k=>MS f k.1.1 ((XW (hv _ (Qy a)).1).1) (wg<|(hv _ (Qy a)).2.1)) λg=>QK (QH I Z7 Qx)<|QK (Qa I Qx .here (.skip .h1))<|QZ I (λ_ _ f k=>pe f (r:=(el ps i.i).r) (k.1.1.2.2 _ (Qy a)) O) λX=>Oq I (fH _ _ _) (j5 (r:=X) (x:=g) i.hI b.2.2 O O λF h9=>⟨h9.1.1.1.1,h9.1.1.2,h9.1.2,h9.2⟩) (λn w h=>St.imp h (.cons _ QNG) λF h=>h.1.1.1) λd=>KL _ (λ_ _ f h=>h.2.2) λL=>?_
  have E:Hx (addN i.ts d) ((ps.take (i.i+1)).map k8):=by
   have:=i.hI.add b.2.2 L;rw[Zb a,bN];exact this
  refine Qw<|Qf<|QD<|QB<|QA (Qk I I O)<|wB 2 I ?_
  exact Qh (⟨i.i+1,addN i.ts d,a,E⟩) (by show ps.length-(i.i+1)<ps.length-i.i;omega) wV (.cons_cons _ (.cons _ .slnil)) λF h=>⟨h.1.1.1.1,h.2.1⟩
 have z:i.i=ps.length:=wg<|QOX hc
 refine Q7 ?_;refine wA 3 I ?_;have H:=i.hI;rw[z,aV]at H;refine Xv I (aK _) (Oz H (by have:=H.ln;rw[List.length_map]at this;omega) w8) (λU=>wQ I<|QW ?_);exact QO (U) rfl (wN I) (rfl) w8
end
abbrev Px:=Sr×List Zl
instance :Inhabited Px:=⟨(⟨none,0,0⟩,[])⟩
def LG(F:Gs)(ls:List Px):Prop:=∀e∈ls,Ws F e.1 e.2 (KP e.2)
structure Eg(l0:List Tm)(te:List Zl) where
 j:Nat
 ts:List Zl
 le:j<=te.length
 hI:Hx ts (l0++KP (te.take j))
section
variable{P:Program}{Q:Exit->Act->World->Prop}{N:Nat}{m:Sl}{E0:Env}{ops:Array Oper}{l:List Oper}{w0:World}{F0:Gs}{bs:List (Nat×Obj)}{G:Gs->Prop}
theorem VG[Dr]{bs':List (Nat×Obj)}(hp:bs.Perm bs')(k:JD P ops Q E0 l N m ⟨w0,F0,bs',G⟩):JD P ops Q E0 l N m ⟨w0,F0,bs,G⟩:=λc a w ha b=>k (λw h=>c w (h.perm hp.symm)) a w ha (b.perm hp)
end
abbrev Pt:=List (List UInt8×List Int)
def VJ(ts:List Ng):Pt:=ts.map λt=>(t.f,t.k)
abbrev UM:=Sr×List Ng
def GY(ts:List Zl):(KP ts).length=ts.length:=by simp[KP]
def G9(v:Int):Int:=if decide (v<0)=true\/decide (v>24)=true then 3 else 0
def SN(v:Int):G9 v=0↔0<=v/\v<=24:=by unfold G9;simp only[decide_eq_true_eq];split<;>omega
def qA{v:Int}(h:¬v<0):G9 v=if decide (v>24)=true then 3 else 0:=by unfold G9;simp[h]
def Vx(l:List Int):Int:=(l.map λk=>if 13<k then 13 else k).sum
def ZL(f:List UInt8)(l:List Int)(v:Int):Int :=
 if(l.length:Int)≠v+1 then 2 else if l.any (λk=>decide (k<0))=true then 3 else Qn [if decide (Vx l>12)=true then 4 else 0,JW f]
def SQ(h:i<l.length):Vx (l.take (i+1))=Vx (l.take i)+(if 13<Qg l i then 13 else Qg l i):=by
 unfold Vx;rw[Zb h,bN,eU,K7 h];simp
theorem Bt(l:List Int)(h:∀k∈l,0<=k):0<=Vx l/\Vx l<=13*l.length:=by
 induction l with
 |nil=>simp[Vx]
 |cons x l ih =>
  have h1:=ih λk hk=>h k (by simp[hk]);have h2:=h x wu;have e:Vx (x::l)=(if 13<x then 13 else x)+Vx l:=by unfold Vx;rw[aD,fh]
  rw[e,aB];split<;>omega
structure QG5(l:List Int) where
 i:Nat
 le:i<=l.length
 nn:∀k∈l.take i,0<=k
def Oe(h:i<l.length)(a:Qg l i<0):l.any (λk=>decide (k<0))=true:=by
 rw[fU];exact⟨el l i,Qy h,by rw[<-K7 h];exact decide_eq_true a⟩
def kH(h:∀k∈l,0<=k):¬l.any (λk=>decide (k<0))=true:=by
 rw[fU];rintro⟨k,hk,e⟩;have:=QOW e;have:=h k hk;omega
theorem C9{v:Int}(b:Fits F w):QX prog 149 [.int .i64 v] w F (.int .i64 (G9 v)):=by
 refine QU.go (G:=λF=>True) func149 b trivial ?_;refine wA 10 I ?_;refine QY (t:=5) rfl (λa=>?_) λa=>?_
 ·refine wB 3 I<|QL I (λ_ _ f _=>Np f ) λ_=>wQ I<|QW ?_
  exact QO2 I I (congrArg (af .i64) (by unfold G9;simp_all)) wy
 refine wB 5 I<|QL I (λ_ _ f _=>Np f ) λ_=>wQ I<|QW ?_
 exact QO2 I I (congrArg (af .i64) (qA (QOX a))) wy
theorem pP{f:List UInt8}{q:Option Addr}{cap:Nat}{v:Int}(K:Fits F w)(y:JU F)(E:JG F ⟨q,n,cap⟩ l)(H:f.length<=1000000)(U:l.length<=1000000)(hv : -1000000<=v/\v<=1000000):QX prog 211 [.agg #[tx f,.slice q n cap],.int .i64 v] w F (.int .i64 (ZL f l v)):=by
 have b:l.length=n:=E.2.1;refine QU.go (G:=λF=>JU F/\JG F ⟨q,n,cap⟩ l) func211 K ⟨y,E⟩ ?_;refine QNz<|Qv I (vs:=[_,_]) I λb2=>QOm 6 I<|QA (QH I Z7 Qx)<|QA (Qa I Qx .here (.skip .h1))<|QA (Qb I Qd)<|QMu I<|QA (Qk I I O)<|QOm 3 I ?_
 refine QP I (λhc=>?_) λhc=>?_
 ·have x:=bne_iff_ne.1 hc;refine wA 6 I ?_;exact QO2 I I (congrArg (af .i64) (by unfold ZL;rw[if_pos (by rw[b];exact x)])) wy
 have m:=bne_eq_false_iff_eq.1 hc;refine QOn 10 I<|QA (QH I Z7 Qx)<|QA (Qa I Qx .here (.skip .h1))<|QA (Qb I Qd)<|QOm 4 I<|J2 (ι:=QG5 l) [(2,_),(15,_),(16,_)] (λi=>[(5,.int .i64 (Vx (l.take i.i))),(17,.int .i64 ((i.i:Nat):Int))]) (λi=>l.length-i.i) (⟨0,aC _,wu⟩) wU wT λi=>?_
 have hi:=i.le;have hb:=Bt _ i.nn;rw[aq]at hb;refine wA 6 I ?_;refine QP I (λhc=>?_) λhc=>?_
 ·have a:i.i<l.length:=wg<|QOW hc
  refine QOn 6 I<|QA (Qs (n:=n) i.i (λF h9=>(h9.2).1) rfl rfl Qd Qo O)<|QA (Qu (n:=n) ((i.i)*1) (λF h9=>(h9.2).1) O rfl Qo (JN (o:=l) O))<|QOm 10 I ?_
  refine QP I (λhc=>?_) λhc=>?_
  ·have d:=QOW hc;refine wA 5 I<|X4 ?_
   exact QO2 I I (congrArg (af .i64) (by unfold ZL;rw[if_neg (by rw[b];exact λh=>h m),if_pos (Oe a d)])) wy
  have d:=QOX hc;refine QOn 5 I<|QA (xh I I)<|QA (Qk I I O)<|wB 2 I<|Qf<|QD<|QB<|QA (Qk I I O)<|wB 2 I ?_
  exact Qh (⟨i.i+1,a,by intro k hk;rw[Zb a]at hk;rcases List.mem_append.1 hk with hk | hk;exact i.nn k hk;rw[List.mem_singleton.1 hk,<-K7 a];omega⟩) (by show l.length-(i.i+1)<l.length-i.i;omega) ⟨rfl,rfl,rfl,(congrArg (λz:Int=>some (af .i64 z)) (SQ a).symm),rfl,trivial⟩ QNG w6
 have j:i.i=l.length:=wg<|QOX hc
 refine Q7 ?_;refine QG<|JO QNG mixed wi ?_
 rw[j,aV];have c:=i.nn;rw[j,aV]at c;refine QK (QC I)<|QK (QM I I I)<|QZ I (λ_ _ f k=>Np f ) λ_=>QK (QH I Ga JQ)<|QK (Qa I JQ .here .h1)<|QZ I (λ_ _ f k=>OY f k.1.1 (H)) λ_=>?_
 refine JK I (Jc Yv) WR Fj I I (λL=>?_) (λw h=>h.imp w9 λF h=>h.1.1);refine QZ I (λ_ _ g k=>OR g (Qz.of (cs:=List.map JJ [if decide (Vx l>12)=true then 4 else 0,JW f]) k.2 I) wj) (λ_=>QK (QF I)<|Qw<|QD<|QW ?_);exact QO2 I I (congrArg (af .i64) (by unfold ZL;rw[if_neg (by rw[b];exact λh=>h m),if_neg (kH c)])) wy
end Go.Proofs.YtogkbhegfnklhaaGreatDoor
