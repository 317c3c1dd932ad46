/- Steps of the proof of the theorem in the last file. -/
import Derived.Test.YtpmehagnedbkhaaGreatDoorP3
set_option linter.all false
set_option maxHeartbeats 4000000
open Go.Proofs.Tryz
open Nat renaming le_refl → aa,mul_le_mul_right → af,le_trans → ag,mul_le_mul_left → ah,zero_add → au,add_mul → aB,mul_zero → aG,zero_le → aJ,min_le_right → aR,mul_succ → aT,dvd_of_mod_eq_zero → aU,add_zero → aZ,le_add_right → bh,pow_pos → bm,pow_one → bw,not_lt_zero → bA,le_max_left → bB,le_add_left → bC,zero_mul → bH,mul_comm → bI,le_mul_of_pos_left → bJ,add_le_add_right → bO,pos_of_ne_zero → bV,mul_le_mul → bZ,lt_or_ge → ef,one_mul → ek,mul_add → ep
open List renaming length_map → ae,cons_append → ak,all_eq_true → ao,nil_append → aq,getElem_of_mem → ar,take_length → av,not_mem_nil → ax,mem_cons → aE,length_cons → aF,length_range → aH,mem_map_of_mem → aL,length_append → aP,getElem?_toArray → aV,length → aW,getElem_map → bc,drop_zero → bD,take_eq_take_min → bK,map → bL,take_succ_cons → bP,flatMap_append → bQ,drop_succ_cons → bR,range → bT,map_append → bX,take_zero → bY
open Rat renaming mul_le_mul_of_nonneg_right → ai,le_trans → aA,divInt → aD,intCast_mul → aK,le_of_lt → aO,floor_intCast → aQ,intCast_lt_intCast → aS,floor_monotone → aX,div_def → bj,intCast_neg → bz,le_refl → bM,divInt_mul_right → bN,sub_eq_add_neg → bU,divInt_eq_div → bW,mul_assoc → ee,mul_one → ei
open Bool renaming and_eq_true → aj
open And renaming intro → ay
open Int renaming toNat_natCast → aC,natCast_pow → aM,natCast_mul → aN,natAbs_natCast → aY,toNat → bG,pow_pos → bS,neg_mul → er
open Go.Value renaming bool → aI,int → bF
namespace Go.Proofs.YtpmehagnedbkhaaGreatDoor
variable{xs:List (Fr×Rat)}{l:List (List UInt8×List UInt8)}{F:Gs}{bs on x:List (Rat×Rat)}{B D L Q S T Z i k m n:Nat}{w:World}{y:ZR}{b:Int}{fr t2:Rat}{α:Type}{vb:List Jr}{ra rb:Sr}{rl:List Pt}
open Go.RowKit Ig
def Gm(rs:List (List Tm))(bs:List (Rat×Rat)):List Rat:=rs.map λp=>q9 (J5 bs p)
def cN(e:Int)(xs:List Rat):Int×List Rat:=if e≠0 then(e,[])else(if xs.any Jo=true then 4 else 0,if xs.any Jo=true then[]else xs)
def CV{e:Int}{xs:List Rat}(h:e≠0):cN e xs=(e,[]):=by unfold cN;rw[if_pos h]
def TQ(xs:List Rat):cN 0 xs=(if xs.any Jo=true then 4 else 0,if xs.any Jo=true then[]else xs):=rfl
def dH(F:Gs)(c:Sr)(xs:List Rat):Prop:=Qw F c.q c.n 1 ((xs.map Jh).map tx)/\c.n=xs.length/\c.n<=c.cap
def dH.nil(F:Gs):dH F ⟨none,0,0⟩ []:=⟨Qw.nil F none 1,rfl,aa _⟩
def dj{l:List Rat}(h:xs.map (·.2)=l):zo xs=l.map Jh:=by rw[<-h];simp[zo]
def xT{l:List Rat}(h:xs.map (·.2)=l):(xs.any λp=>Jo p.2)=l.any Jo:=by rw[<-h,List.any_map,Function.comp_def]
structure SdJ(vs:List Rat) where
 i:Nat
 v:Value
 ob:List (Nat×Obj)
 xs:List (Fr×Rat)
 le:i<=vs.length
 hr:Q7 95 4 v i (IJ xs) ob
 hx:xs.map (·.2)=vs.take i
def SdJ.len{vs:List Rat}(s:SdJ vs):s.xs.length=s.i:=by
 have h:=congrArg aW s.hx;have h2:=s.le;rw[ae,List.length_take]at h;omega
def jH(xs:List (Fr×Rat))(c:Fr)(x:Rat):IJ (xs++[(c,x)])=IJ xs++KV c:=by unfold IJ;rw[bQ];simp
def Ny.snoc{c:Fr}{x:Rat}(h:Ny F xs)(k:JP F c x):Ny F (xs++[(c,x)]):=λp hp=>by
 rcases List.mem_append.1 hp with hp | hp
 ·exact h p hp
 rw[List.mem_singleton.1 hp];exact k
def SdJ.next{vs:List Rat}(s:SdJ vs)(h:s.i<vs.length){v:Value}{ob:List (Nat×Obj)}(c:Fr)(x:Rat)(hr:Q7 95 4 v (s.i+1) (IJ s.xs++KV c) ob)(hx:x=el vs s.i):SdJ vs:=⟨s.i+1,v,ob,s.xs++[(c,x)],h,by rw[jH];exact hr,by rw[bX,s.hx,XV h,hx];rfl⟩
def xM(c:Fr):∀v∈KV c,v.oneCell'=true:=λv hv=>by
 simp only[KV,aE,ax,or_false]at hv;rcases hv with rfl | rfl | rfl | rfl<;>rfl
def dc{rs:List (List Tm)}(h:i<rs.length):el (Gm rs bs) i=q9 (J5 bs (el rs i)):=by rw[Ja (by simp[Gm];exact h),Ja h];simp[Gm]
def zT(rs:List (List Tm))(bs:List (Rat×Rat)):(Gm rs bs).length=rs.length:=by simp[Gm]
structure QIF(rs:List (List Tm))(bs:List (Rat×Rat)):Prop where
 ev:∀i,i<rs.length->Ov bs (el rs i)
 sz:∀i,i<rs.length->Xb (J5 bs (el rs i)) 100000000
 mg:∀x∈Gm rs bs,JQ x<=100000000
theorem zS{t:List UInt8×List UInt8}{r:Sr}(hF:Fits F w)(hGl:JC F)(hy:ZZ F y)(ht:HM y)(htl:t.1.length<=1000000/\t.2.length<=1000000)(hx:KM F r l)(hc:H8 r l)(hok:BN y t l=0->QIF y.rs (JG t::lV l)):
  QT prog 82 [y.v,.agg #[tx t.1,tx t.2],r.v] w F (λ(c:Sr)=>.tuple #[c.v,.int .i64 (cN (BN y t l) (Gm y.rs (JG t::lV l))).1]) (λc F=>dH F c (cN (BN y t l) (Gm y.rs (JG t::lV l))).2):=by
 refine QT.intro (G:=λF=>JC F/\ZZ F y/\KM F r l) func82 rfl wy rfl rfl hF (λF' hF'=>⟨hGl.le hF',hy.le hF',hx.le hF'⟩)<|QKO<|Qu rfl (vs:=[_,_,_]) rfl λb3=>Qu rfl (vs:=[_,_]) rfl λb4=>QJE rfl<|wQ rfl<|QG<|QKO<|QA (wI I XA .u1)<|QA (wH I J1 .here)<|QJD rfl<|QI rfl (λ_ _ f k=>Ex (y:=y) f k.1 k.2.1 ht htl k.2.2 hc) λ_=>wQ rfl<|wR rfl<|QA (QU rfl rfl rfl)<|QE<|QC ?_
 refine QO I (λhc2=>?_) λhc2=>?_
 ·have h17:BN y t l≠0:=bne_iff_ne.1 hc2;refine wA 8 I ?_;exact JY ((⟨none,0,0⟩:Sr)) I (wO I I) (by rw[CV h17]) λF h9=>by rw[CV h17];exact dH.nil F
 have h17:BN y t l=0:=bne_eq_false_iff_eq.1 hc2;have hok:=hok h17;have hye:y.e=0:=Q8 h17 _ (.head _);have hts:=Q8 h17 (Xc t.1 t.2) (.tail _ (.head _));have hbx:Ym y.nm.n l=0:=Q8 h17 _ (.tail _ (.tail _ (.head _)));have ho:=hy.ok hye;have hn1:=ho.n1;have hn0:=ho.n0;have hrn:=ho.rn;have hxl:=(Xt hbx).1;have hrs:y.rs.length=y.nm.n:=by unfold ZR.rs;rw[ae,hy.VI,hrn]
 have hsl:(Gm y.rs (JG t::lV l)).length=y.nm.n:=by rw[zT,hrs]
 refine QKr 4 I<|wQ rfl<|QG<|QKO<|QA (wI I XA .u1)<|QI rfl (λ_ _ f k=>Zd (y:=y) f k.1.1 k.1.2.1 ht ho) λc20=>JN _ (λw F hF ⟨⟨⟨hGl,hy,hx⟩,_⟩,h20⟩=>ay h20.VI (h20.pn ho.short)) λhnn=>?_
 obtain⟨hn20,hp20⟩:=hnn;refine QA (Ze rfl)<|QA (QH rfl B0 YJ)<|QA (Zq (c:=#[c20.rt.v,c20.st.v]) (T':=171) rfl YJ (λF h9=>h9.2.H7) rfl)<|QA (Qg rfl YW)<|QJD rfl<|QJC<|QV<|JW (ι:=SdJ (Gm y.rs (JG t::lV l))) [(2,_),(4,_),(23,_),(24,_)] (λi=>[(9,i.v),(25,.int .i64 ((i.i:Nat):Int))]) (λi=>(b4,.cells #[tx t.1,tx t.2] 56 (0,0))::i.ob) (λi F=>Ny F i.xs) (λi=>c20.rt.n-i.i) (⟨0,.slice none 0 0,[],[],aJ _,.nil,rfl⟩) wV wT (tE) (λ_ _ p h=>by cases h) λi=>?_
 simp only[ak,aq];have hi:=i.le;refine wA 6 I ?_;refine QO I (λhc2=>?_) λhc2=>?_
 ·have hlt:i.i<c20.rt.n:=wk<|QKc hc2
  have hlr:i.i<y.rs.length:=O;refine XQ _ (λw F hF ⟨⟨⟨⟨hGl,hy,hx⟩,_⟩,h20⟩,hS⟩=>ay (h20.at (show i.i<c20.rt.n by omega)).2 h20.len) (λhpp=>?_);obtain⟨heq,hpl⟩:=hpp;refine QKr 6 I<|QA (Q6 (n:=c20.rt.n) i.i (λF h9=>h9.1.2.row) rfl rfl YW K4 O)<|QA (JA (n:=c20.rt.n) ((i.i)*1) (λF h9=>h9.1.2.row) O rfl K4 (Xa (f:=λe:WR=>e.1.v) (l:=c20.ps) O))<|QKq 6 I<|QA (wH I J1 .here)<|QI I (λ_ _ f k=>Rv f k.1.1.1.1 hts htl) λc32=>QJD I<|QI I (λ_ _ f k=>BH f k.1.1.1.1.1 k.1.1.1.1.2.2 hc (Xt hbx).2) λc34=>JN _ (λ_ _ f k=>k.2.nl) λhn34=>?_
  rw[Y9]at hn34;refine QI I (λ_ _ f k=>EC (pa:=el c20.ps i.i) (x:=c32) (t:=JG t) f (k.1.1.1.2.at O).1 k.1.2 k.2 O (by have:=hp20 _ (Q3 (show i.i<c20.ps.length by omega));omega) (by rw[heq];exact hok.ev _ hlr)) (λc35=>?_);rw[heq];refine QI I (λ_ _ f k=>ke f k.2 (hok.sz _ hlr)) (λc36=>Qb I (Qz XT) Qa XZ I I λb37=>?_);refine Ys (bs1:=[_]) (ob:=i.ob) (n:=i.i) (k:=1) (sz:=4) (news:=(KV c36)) I I XT Qa XZ I QDJ i.hr (Src.row (off:=0) tB (λj q hq=>by rw[au];rw[aV];exact hq) rfl) O O (xM _) (λv38 ob38 hr38=>?_);refine wB 2 I<|Qk<|QC<|QB<|QA (Qv I I O)<|wB 2 I ?_
  exact Ql (i.next O c36 _ hr38 (dc hlr).symm) (by show c20.rt.n-(i.i+1)<c20.rt.n-i.i;omega) wX QJZ λF ⟨⟨⟨⟨⟨⟨⟨⟨⟨hGl,hy,hx⟩,_⟩,h20⟩,hS⟩,h32⟩,h34⟩,h35⟩,h36⟩,hs37⟩=>⟨⟨⟨⟨hGl,hy,hx⟩,trivial⟩,h20⟩,hS.snoc h36⟩
 have hge:i.i=(Gm y.rs (JG t::lV l)).length:=by have:=QKd hc2;have:=i.le;omega
 have hzx:∀p∈i.xs,JQ p.2<=100000000:=λp hp=>hok.mg _ (by have e:=i.hx;rw[hge,av]at e;rw[<-e];exact aL hp);have hxe:i.xs.map (·.2)=(Gm y.rs (JG t::lV l)):=by have e:=i.hx;rw[hge,av]at e;exact e
 have hxl2:=i.len;have hany:=xT hxe;refine Q2 ?_
 repeat first|refine QY ?_|refine QP wy ?_
 refine QZ<|QKs 4 I ?_
 have hxl:=i.len;obtain⟨⟨rq,rn,rc⟩,hv2,hrn,hrc,hfix⟩:=Q7.fix (w0:=w) (F0:=F) (bs1:=[_]) (G:=_) i.hr;dsimp only at hrn hrc hfix;subst hrn;refine YB hfix ?_;rw[hv2];dsimp only[Sr.v];refine QJD I<|QI I (λw F g k=>Cy (f:=96) (c1:=[]) (c2:=[]) (p:=λe:Fr×Rat=>Jo e.2) (G0:=λF=>JC F/\Ny F i.xs) g (λF F' hle h=>⟨h.1.le hle,h.2.le hle⟩) ⟨k.1.1.1.1.1,k.1.2⟩ k.2 hxl2 O λe he w F g hG=>Db g hG.1 (hG.2 e he) (hzx e he)) λ_=>QE<|QC ?_
 refine QO I (λhc2=>?_) λhc2=>?_
 ·have hL:(Gm y.rs (JG t::lV l)).any Jo=true:=by rw[<-hany];exact hc2
  refine wA 7 I ?_;exact JY ((⟨none,0,0⟩:Sr)) I (wO I I) (by rw[h17,TQ,if_pos hL]) λF h9=>by rw[h17,TQ,if_pos hL,if_pos hL];exact dH.nil F
 have hL:(Gm y.rs (JG t::lV l)).any Jo=false:=by rw[<-hany];exact hc2
 refine QKr 5 I<|QI I (λ_ _ f k=>Ub f k.1.1.1.1.1.1 k.1.2 k.1.1.2 hxl2 O hzx) λc43=>QKq 5 I ?_
 exact JY (c43) rfl (wO I I) (by rw[h17,TQ,hL]<;>rfl) λF h9=>by rw[h17,TQ,hL];show dH F c43 (Gm y.rs (JG t::lV l));exact⟨by rw[<-dj hxe];exact h9.2.1,by rw[h9.2.2.1];exact hge,h9.2.2.2⟩
def OH(rs:List (List Tm))(bs:List (Rat×Rat))(i:Nat):Nat->Rat
 |0=>((0:Int):Rat)
 |v+1=>OH rs bs i v+q9 (J5 bs (Xw (Yz (v+1) (el rs i))))
def Hj(rs:List (List Tm))(bs:List (Rat×Rat))(n:Nat):Nat->Rat
 |0=>((0:Int):Rat)
 |i+1=>PD (Hj rs bs n i) (OH rs bs i n)
structure QFk(rs:List (List Tm))(bs:List (Rat×Rat))(n:Nat):Prop where
 pw:∀p∈rs,∀t∈p,PW t.2/\n<t.2.length
 lp:∀p∈rs,p.length<=100000
 sp:∀p∈rs,∀t∈p,JQ t.1<=20000000
 der:∀p∈rs,∀v,v<n->KC (Yz (v+1) p)<=40000000
 ln:∀p∈rs,∀v,v<n->(Xw (Yz (v+1) p)).length<=100000
 ev:∀p∈rs,∀v,v<n->Ov bs (Xw (Yz (v+1) p))
 sz:∀p∈rs,∀v,v<n->Xb (J5 bs (Xw (Yz (v+1) p))) 100000000
 mg:∀p∈rs,∀v,v<n->JQ (q9 (J5 bs (Xw (Yz (v+1) p))))<=100000000
 sm:∀i,i<rs.length->∀k,k<=n->JQ (OH rs bs i k)<=100000000
 mo:∀i,i<=rs.length->JQ (Hj rs bs n i)<=100000000
structure FrJ(n:Nat) where
 i:Nat
 c:Fr
 le:i<=n
def lpR(e:Int)(x:Rat):Int×List UInt8:=if e≠0 then(e,[])else(if Jo x=true then 4 else 0,if Jo x=true then[]else Jh x)
def QEv{e:Int}{x:Rat}(h:e≠0):lpR e x=(e,[]):=by unfold lpR;rw[if_pos h]
def QAR(x:Rat):lpR 0 x=(if Jo x=true then 4 else 0,if Jo x=true then[]else Jh x):=rfl
theorem Fm{t:List UInt8×List UInt8}{r:Sr}(hF:Fits F w)(hGl:JC F)(hy:ZZ F y)(ht:HM y)(htl:t.1.length<=1000000/\t.2.length<=1000000)(hx:KM F r l)(hc:H8 r l)(hok:BN y t l=0->QFk y.rs (JG t::lV l) l.length):
  Qe prog 83 [y.v,.agg #[tx t.1,tx t.2],r.v] w F (.tuple #[tx (lpR (BN y t l) (Hj y.rs (JG t::lV l) l.length y.rs.length)).2,.int .i64 (lpR (BN y t l) (Hj y.rs (JG t::lV l) l.length y.rs.length)).1]):=by
 have hxr:=hx.len;refine QT.intro (G:=λF=>JC F/\ZZ F y/\KM F r l) func83 rfl wy rfl rfl hF (λF' hF'=>⟨hGl.le hF',hy.le hF',hx.le hF'⟩)<|QKO<|Qu rfl (vs:=[_,_,_]) rfl λb3=>Qu rfl (vs:=[_,_]) rfl λb4=>QJE rfl<|wQ rfl<|QG<|QKO<|QA (wI I XA .u1)<|QA (wH I J1 .here)<|QJD rfl<|QI rfl (λ_ _ f k=>Ex (y:=y) f k.1 k.2.1 ht htl k.2.2 hc) λ_=>wQ rfl<|wR rfl<|QA (QU rfl rfl rfl)<|QE<|QC ?_
 refine QO I (λhc2=>?_) λhc2=>?_
 ·have Td:BN y t l≠0:=bne_iff_ne.1 hc2;refine wA 8 I ?_;exact JY (()) I (wO I I) (by rw[QEv Td]) w8
 have Td:BN y t l=0:=bne_eq_false_iff_eq.1 hc2;have hok:=hok Td;have hye:y.e=0:=Q8 Td _ (.head _);have hts:=Q8 Td (Xc t.1 t.2) (.tail _ (.head _));have hbx:Ym y.nm.n l=0:=Q8 Td _ (.tail _ (.tail _ (.head _)));have ho:=hy.ok hye;have hn1:=ho.n1;have hn0:=ho.n0;have hrn:=ho.rn;have hxl:=(Xt hbx).1;have hrs:y.rs.length=y.nm.n:=by unfold ZR.rs;rw[ae,hy.VI,hrn]
 refine QKr 4 I<|QI rfl (λ_ _ f k=>Sk (n:=0) f wu wu) λc21=>Qc XZ λb9=>QR (vs:=[_,_,_,_]) rfl rfl rfl Qa rfl .here .h4 wV<|QKq 5 I<|QA (wI I XA .u2)<|QI rfl (λ_ _ f k=>Zd (y:=y) f k.1.1.1 k.1.1.2.1 ht ho) λc23=>JN _ (λw F hF ⟨⟨⟨⟨hGl,hy,hx⟩,_⟩,h21⟩,h23⟩=>ay h23.VI (h23.pn ho.short)) λhnn=>?_
 obtain⟨hn23,hp23⟩:=hnn;refine QA (Ze I)<|QA (QH I B0 YJ)<|QA (Zq (c:=#[c23.rt.v,c23.st.v]) (T':=171) rfl YJ (λF h9=>h9.2.H7) rfl)<|QA (Qg I YW)<|QKq 4 I<|JW (ι:=FrJ y.rs.length) [(2,_),(4,_),(9,_),(26,_),(27,_)] (λi=>[(28,.int .i64 ((i.i:Nat):Int))]) (λi=>[(b9,.cells (KV i.c).toArray 95 (0,0)),(b4,.cells #[tx t.1,tx t.2] 56 (0,0))]) (λi F=>JP F i.c (Hj y.rs (JG t::lV l) l.length i.i)) (λi=>y.rs.length-i.i) (⟨0,c21,aJ _⟩) wW wS (tF) (λ_ h=>h.1.2) λi=>?_
 simp only[ak,aq];have hi:=i.le;refine wA 6 I ?_;refine QO I (λhc2=>?_) λhc2=>?_
 ·have hlt:i.i<c23.rt.n:=wk<|QKc hc2
  have hlr:i.i<y.rs.length:=O;have hem:=Q3 hlr;refine XQ _ (λw F hF ⟨⟨⟨⟨⟨hGl,hy,hx⟩,_⟩,h21⟩,h23⟩,hS⟩=>ay (h23.at (show i.i<c23.rt.n by omega)).2 h23.len) (λhpp=>?_);obtain⟨heq,hpl⟩:=hpp;refine QKr 6 I<|QA (Q6 (n:=c23.rt.n) i.i (λF h9=>h9.1.2.row) rfl rfl YW K4 O)<|QA (JA (n:=c23.rt.n) ((i.i)*1) (λF h9=>h9.1.2.row) O rfl K4 (Xa (f:=λe:WR=>e.1.v) (l:=c23.ps) O))<|QKq 5 I<|QI I (λ_ _ f k=>Sk (n:=0) f wu wu) λc32=>Qc XZ λb12=>QR (vs:=[_,_,_,_]) I I I Qa I .here .h4 wV<|QKq 6 I<|QA (Qg I XW)<|wB 2 I ?_
  refine QC<|QV<|JW (ι:=FrJ l.length) [(2,_),(4,_),(9,_),(11,_),(12,_),(26,_),(27,_),(28,_),(34,_)] (λi2=>[(35,.int .i64 ((i2.i:Nat):Int))]) (λi2=>[(b12,.cells (KV i2.c).toArray 95 (0,0)),(b9,.cells (KV i.c).toArray 95 (0,0)),(b4,.cells #[tx t.1,tx t.2] 56 (0,0))]) (λi2 F=>JP F i2.c (OH y.rs (JG t::lV l) i.i i2.i)) (λi2=>l.length-i2.i) (⟨0,c32,aJ _⟩) we wS QJZ tB λi2=>?_
  simp only[ak,aq];have hi2:=i2.le;refine wA 6 I ?_;refine QO I (λhc2=>?_) λhc2=>?_
  ·have hlt2:i2.i<l.length:=wk<|QKc hc2
   refine QKr 10 I<|Js 12 QJZ mixed wm wm ?_
   simp only[bP,bY,bR,bD];refine QK (wJ I Qa .here)<|QK (QD I)<|QK (QD I)<|QK (Qv I I O) ?_
   rw[show(((i2.i:Nat):Int)+1)=((i2.i+1:Nat):Int)from rfl];refine QM I (λ_ _ f k=>L6 (p:=el c23.ps i.i) (v:=i2.i+1) f k.1.1.1.1.1.1.1 (k.1.1.1.2.at O).1 (O1 (Q:=λt=>PW t.2/\i2.i+1<t.2.length) heq λt htt=>⟨(hok.pw _ hem t htt).1,wk<|(hok.pw _ hem t htt).2⟩) (by have h1:=congrArg aW heq;rw[Yc]at h1;have:=hok.lp _ hem;omega) (O1 (Q:=λt=>JQ t.1<=20000000) heq (hok.sp _ hem)) (by rw[heq];exact hok.der _ hem _ hlt2)) (λc42=>Yh _ (λ_ _ f h=>ay h.2.eqT (ay h.2.2.2.2.2 h.2.len)) λe42=>?_);obtain⟨e42,l42,m42⟩:=e42;rw[heq]at e42 m42;have n42:=hok.ln _ hem _ hlt2;refine QK (wH I J1 .u2)<|QM I (λ_ _ f k=>Rv f k.1.1.1.1.1.1.1.1 hts htl) λc44=>QK (QD I)<|QM I (λ_ _ f k=>BH f k.1.1.1.1.1.1.1.1.1 k.1.1.1.1.1.1.1.1.2.2 hc (Xt hbx).2) λc46=>Yh _ (λ_ _ f k=>k.2.nl) λhn46=>?_
   rw[Y9]at hn46;refine QM I (λ_ _ f k=>EC (pa:=c42) (x:=c44) (t:=JG t) f k.1.1.2.self k.1.2 k.2 O O (by rw[e42];exact hok.ev _ hem _ hlt2)) (λc47=>?_);rw[e42];refine QM I (λ_ _ f k=>ke f k.2 (hok.sz _ hem _ hlt2)) (λc48=>QM I (λ_ _ f k=>Dz (x:=i2.c) (y:=c48) (r:=OH y.rs (JG t::lV l) i.i i2.i) (s:=q9 (J5 (JG t::lV l) (Xw (Yz (i2.i+1) (el y.rs i.i))))) f k.1.1.1.1.1.2 k.2 (hok.sm _ hlr _ O) (hok.mg _ hem _ hlt2)) λc49=>Za<|QR (vs:=[_,_,_,_]) I I I Qa I .here .h4 wV<|QE<|Qk<|QC<|QB<|QA (Qv I I O)<|wB 2 I ?_);exact Ql (⟨i2.i+1,c49,hlt2⟩) (by show l.length-(i2.i+1)<l.length-i2.i;omega) wg QJZ λF ⟨⟨⟨⟨⟨⟨⟨⟨⟨⟨⟨⟨⟨hGl,hy,hx⟩,_⟩,h21⟩,h23⟩,hS⟩,h32⟩,hS2⟩,h42⟩,h44⟩,h46⟩,h47⟩,h48⟩,h49⟩=>⟨⟨⟨⟨⟨⟨⟨hGl,hy,hx⟩,trivial⟩,h21⟩,h23⟩,hS⟩,h32⟩,h49⟩
  have hge2:i2.i=l.length:=by have:=QKd hc2;have:=i2.le;omega
  refine Q2 ?_
  repeat first|refine QY ?_|refine QP wy ?_
  refine QZ<|QC<|QB<|QA (wJ I Qa .u1)<|QA (wJ I Qa .here)<|Qb I (Qz XT) Qa XZ I I λb53=>QI I (λ_ _ f k=>Xm (x:=i.c) (r:=Hj y.rs (JG t::lV l) l.length i.i) (ps:=[(i2.c,OH y.rs (JG t::lV l) i.i i2.i)]) (n:=1) f k.1.1.1.2 (Qw.of k.2 I) (KP k.1.2) rfl wu ⟨hok.mo _ O,KP (hok.sm _ hlr _ O)⟩) λc54=>QR (vs:=[_,_,_,_]) I I I Qa I .u1 .h4 wV<|QE<|Qk<|QC<|QB<|QA (Qv I I O)<|wB 2 I ?_
  exact Ql (⟨i.i+1,c54,hlr⟩) (by show y.rs.length-(i.i+1)<y.rs.length-i.i;omega) wX ((.cons _ QJZ)) λF ⟨⟨⟨⟨⟨⟨⟨⟨⟨hGl,hy,hx⟩,_⟩,h21⟩,h23⟩,hS⟩,h32⟩,hS2⟩,hs53⟩,h54⟩=>⟨⟨⟨⟨⟨hGl,hy,hx⟩,trivial⟩,h21⟩,h23⟩,by show JP F c54 (PD (Hj y.rs (JG t::lV l) l.length i.i) (OH y.rs (JG t::lV l) i.i l.length));have e:=h54;rw[hge2]at e;exact e⟩
 have hge:i.i=y.rs.length:=by have:=QKd hc2;have:=i.le;omega
 refine Q2 ?_
 repeat first|refine QY ?_|refine QP wy ?_
 refine QZ<|QKs 4 I<|QA (wJ I Qa .here)<|QI I (λ_ F f k=>Db f k.1.1.1.1.1 (show JP F i.c (Hj y.rs (JG t::lV l) l.length y.rs.length) by have e:=k.2;rw[hge]at e;exact e) (hok.mo _ (aa _))) λ_=>QE<|QC ?_
 refine QO I (λhc2=>?_) λhc2=>?_
 ·refine wA 7 I ?_;exact JY (()) I (wO I I) (by rw[Td,QAR,if_pos hc2,if_pos hc2]<;>rfl) w8
 refine QKr 4 I<|QA (wJ I Qa .here)<|QI I (λ_ F f k=>PF f k.1.1.1.1.1.1 (show JP F i.c (Hj y.rs (JG t::lV l) l.length y.rs.length) by have e:=k.1.2;rw[hge]at e;exact e) (hok.mo _ (aa _))) λ_=>QKq 5 I ?_
 exact JY (()) I (wO I I) (by rw[Td,QAR,hc2]<;>rfl) w8
structure Vp where
 e:List UInt8
 w:Sr
 wl:List (List UInt8×List UInt8)
 l:Sr
 ll:List (List UInt8×List UInt8)
variable{tb:List Vp}
instance :Inhabited Vp:=⟨⟨[],default,[],default,[]⟩⟩
def dG(b:Vp):List Value:=[tx b.e,.slice b.w.q b.w.n b.w.cap,.slice b.l.q b.l.n b.l.cap]
def LI(b:Vp):(dG b).length=3:=rfl
structure Sw(F:Gs)(r:Sr)(tb:List Vp):Prop where
 row:Qw F r.q r.n 3 (tb.flatMap dG)
 len:tb.length=r.n
 bx:∀b∈tb,KM F b.w b.wl/\KM F b.l b.ll
theorem Sw.le{F':Gs}{r:Sr}(h:Sw F r tb)(k:Gs.le F F'):Sw F' r tb:=⟨h.row.le k,h.len,λb hb=>⟨(h.bx b hb).1.le k,(h.bx b hb).2.le k⟩⟩
structure gP(r:Sr)(tb:List Vp):Prop where
 n:r.n<=1000000
 t:r.n>1000\/∀b∈tb,b.e.length<=1000000/\H8 b.w b.wl/\H8 b.l b.ll
def GQ(tb:List Vp)(i:Nat):Rat:=if i=0 then((0:Int):Rat)else Qh (el tb (i-1)).e
def Re(tb:List Vp)(i:Nat):GQ tb (i+1)=Qh (el tb i).e:=by unfold GQ;rw[if_neg O,Nat.add_sub_cancel]
def xQ(n:Nat)(tb:List Vp)(i:Nat):Int:=Qp [NP (GQ tb i) (el tb i).e,Ym n (el tb i).wl,Ym n (el tb i).ll]
def BB(n:Nat)(tb:List Vp):Int:=if tb.length>1000 then 5 else Qp ((bT tb.length).map (xQ n tb))
structure QID(n:Nat)(tb:List Vp) extends ZK (bT tb.length) (xQ n tb) where
 c:Fr
 ok:JQ (GQ tb i)<=2400
structure QIC(n:Nat)(tb:List Vp):Prop where
 len:tb.length<=1000
 e:∀i,i<tb.length->Jd (el tb i).e=0
 la:∀i,i<tb.length->Vi (GQ tb i) (Qh (el tb i).e)=0
 w:∀i,i<tb.length->Ym n (el tb i).wl=0
 l:∀i,i<tb.length->Ym n (el tb i).ll=0
theorem xE(h:BB n tb=0):QIC n tb:=by
 unfold BB at h;by_cases g:tb.length>1000
 ·rw[if_pos g]at h;cases h
 rw[if_neg g]at h;have hz:∀i,i<tb.length->xQ n tb i=0:=λi hi=>Q8 h _ (aL (List.mem_range.2 hi));have h3:=λi hi=>Ej (hz i hi);exact⟨O,λi hi=>(G8 (h3 i hi).1).1,λi hi=>(G8 (h3 i hi).1).2,λi hi=>(h3 i hi).2.1,λi hi=>(h3 i hi).2.2⟩
theorem SU{r:Sr}(hF:Fits F w)(hGl:JC F)(hy:ZZ F y)(hx:Sw F r tb)(hc:gP r tb):Qe prog 194 [y.v,r.v] w F (.int .i64 (BB y.nm.n tb)):=by
 have hxr:=hx.len;have hcn:=hc.n;refine QT.intro (G:=λF=>JC F/\ZZ F y/\Sw F r tb) func194 rfl wy rfl rfl hF (λF' hF'=>⟨hGl.le hF',hy.le hF',hx.le hF'⟩)<|QKO<|Qu rfl (vs:=[_,_,_]) rfl λb2=>wQ rfl<|QG<|wR rfl<|QA (Qg rfl DB)<|QA (QU rfl rfl rfl)<|QE<|QC ?_
 refine QO I (λhc2=>?_) λhc2=>?_
 ·have h12:=QKc hc2;refine wA 6 I ?_;exact QKx I I (congrArg (bF .i64) (by unfold BB;rw[if_pos O])) w8
 have h12:=QKd hc2;have hct:∀b∈tb,b.e.length<=1000000/\H8 b.w b.wl/\H8 b.l b.ll:=hc.t.resolve_left O;refine QKr 4 I<|QI I (λ_ _ f k=>Sk (n:=0) f wu wu) λc13=>Qc XZ λb5=>QR (vs:=[_,_,_,_]) I I I Qa I .here .h4 wV<|QKq 6 I<|QA (Qg I DB)<|QKq 4 I<|JW (ι:=QID y.nm.n tb) [(2,_),(5,_),(14,_),(15,_)] (λi=>[(16,.int .i64 ((i.i:Nat):Int))]) (λi=>[(b5,.cells (KV i.c).toArray 95 (0,0)),(b2,.cells #[.slice y.nm.q y.nm.n y.nm.cap,.slice y.rt.q y.rt.n y.rt.cap,.slice y.st.q y.st.n y.st.cap] 26 (0,0))]) (λi F=>JP F i.c (GQ tb i.i)) (λi=>tb.length-i.i) (⟨ZK.start _ _,c13,by show JQ ((0:Int):Rat)<=2400;decide⟩) wV wS QJZ tB λi=>?_
 simp only[ak,aq];have hi:=i.le;rw[aH]at hi;refine wA 6 I ?_;refine QO I (λhc2=>?_) λhc2=>?_
 ·have hlt:i.i<tb.length:=wk<|QKc hc2
  have hem:=Q3 hlt;refine QKr 6 I<|QA (Q6 (n:=r.n) i.i (λF h9=>h9.1.1.2.2.row) rfl rfl DB Xz O)<|QA (JX (n:=r.n) (vs:=[tx (el tb i.i).e,.slice (el tb i.i).w.q (el tb i.i).w.n (el tb i.i).w.cap,.slice (el tb i.i).l.q (el tb i.i).l.n (el tb i.i).l.cap]) ((i.i)*3) (λF h9=>h9.1.1.2.2.row) O rfl Xz I λj v hv=>Jc (f:=dG) (l:=tb) LI O hv)<|Qc Wh λb7=>QR (vs:=[_,_,_]) I I I Xz I .here .h3 wU<|QKq 5 I<|QA (wJ I Qa .u1)<|QA (QH I Dg JR)<|QA (Qf I JR .here .h1)<|QI I (λ_ _ f k=>Tt f k.1.1.1 k.2 i.ok (hct _ hem).1) λ_=>QKq 6 I ?_
  refine QKq 3 I ?_;refine QO I (λhc2=>?_) λhc2=>?_
  ·have h25:NP (GQ tb i.i) (el tb i.i).e≠0:=bne_iff_ne.1 hc2;refine wA 7 I ?_
   repeat first|refine Q4 ?_|refine Qy ?_
   exact QKx I I (congrArg (bF .i64) (by unfold BB;rw[if_neg O];have h9:=i.toZK.hit (by rw[aH];exact hlt) (by rw[ZG hlt];unfold xQ;rw[Zg h25];exact h25);rw[ZG hlt]at h9;rw[h9];unfold xQ;rw[Zg h25])) w8
  have h25:NP (GQ tb i.i) (el tb i.i).e=0:=bne_eq_false_iff_eq.1 hc2;refine QKr 4 I<|JK QJZ mixed wm<|QK (wI I XA .u2)<|QK (QH I SR J4)<|QK (Qf I J4 .here (.skip .h1))<|QM I (λ_ _ f k=>KA (y:=y) f k.1.1.1.1 k.1.1.1.2.1 (k.1.1.1.2.2.bx _ hem).1 (hct _ hem).2.1) λ_=>QK (wI I XA .u2)<|QK (QH I Mz J4)<|QK (Qf I J4 .here (.skip (.skip .h1)))<|QM I (λ_ _ f k=>KA (y:=y) f k.1.1.1.1.1 k.1.1.1.1.2.1 (k.1.1.1.1.2.2.bx _ hem).2 (hct _ hem).2.2) λ_=>?_
  refine Qo I (Qz ZL) YT H5 I I (λb35=>?_) (λw h=>h.imp tC λF h=>h.1.1);refine QM I (λ_ _ f k=>YO f (Qw.of (cs:=bL Jn [_,_]) k.2 I) wu) (λ_=>QK (QF I)<|Q5<|QKs 7 I ?_);refine QO I (λhc2=>?_) λhc2=>?_
  ·have h38:Qp [Ym y.nm.n (el tb i.i).wl,Ym y.nm.n (el tb i.i).ll]≠0:=bne_iff_ne.1 hc2;have hbx:xQ y.nm.n tb i.i=Qp [Ym y.nm.n (el tb i.i).wl,Ym y.nm.n (el tb i.i).ll]:=by unfold xQ;rw[h25,ZS]
   refine wA 7 I ?_
   repeat first|refine Q4 ?_|refine Qy ?_
   exact QKx I I (congrArg (bF .i64) (by unfold BB;rw[if_neg O];have h9:=i.toZK.hit (by rw[aH];exact hlt) (by rw[ZG hlt,hbx];exact h38);rw[ZG hlt]at h9;rw[h9,hbx])) w8
  have h38:Qp [Ym y.nm.n (el tb i.i).wl,Ym y.nm.n (el tb i.i).ll]=0:=bne_eq_false_iff_eq.1 hc2;have hbx:xQ y.nm.n tb i.i=0:=by unfold xQ;rw[h25,ZS];exact h38
  refine QKr 3 I<|QA (QH I Dg JR)<|QA (Qf I JR .here .h1)<|QI I (λ_ _ f k=>Yw f k.1.1.1.1.1.1.1.1 (XI (G8 h25).1).1 (wk<|(hct _ hem).1)) λc42=>QR (vs:=[_,_,_,_]) I I I Qa I .u1 .h4 wV<|QE<|Qk<|QC<|QB<|QA (Qv I I O)<|wB 2 I ?_
  exact Ql (⟨i.toZK.next (by rw[aH];exact hlt) (by rw[ZG hlt];exact hbx),c42,by show JQ (GQ tb (i.i+1))<=2400;rw[Re];exact YM (G8 h25).1⟩) (by show tb.length-(i.i+1)<tb.length-i.i;omega) wW ((.cons _ QJZ)) λF ⟨⟨⟨⟨⟨⟨⟨⟨⟨hGl,hy,hx⟩,h13⟩,hS⟩,_⟩,_⟩,_⟩,hs35⟩,_⟩,h42⟩=>⟨⟨⟨hGl,hy,hx⟩,h13⟩,by show JP F c42 (GQ tb (i.i+1));rw[Re];exact h42⟩
 have hge:tb.length<=i.i:=wk<|QKd hc2
 refine Q2 ?_
 repeat first|refine QY ?_|refine QP wy ?_
 refine QZ<|QKs 7 I ?_
 exact QKx I I (congrArg (bF .i64) (by unfold BB;rw[if_neg O];exact i.toZK.stop (by rw[aH];exact hge))) w8
def C8{P:Program}{l:List Oper}{Q:Exit->Act->World->Prop}{S0:World->Prop}{A r:List Nat}{N:Nat}{m:Sl}{w0:World}{F0:Gs}{bs:List (Nat×Obj)}{G:Gs->Prop}(p:Prop)(hp:∀w F,Fits F w->G F->p)(k:p->KT P l Q S0 A r N m w0 F0 bs G):KT P l Q S0 A r N m w0 F0 bs G:=λu β a w hu ha hx hw=>k (hw.pure hp) u β a w hu ha hx hw
def uC(x:Rat×Rat)(P:List Tm)(b:Vp):Bool:=!(decide (Z7 x.2 (J5 ((Qh b.e,Qh b.e)::lV b.ll) P).1<0)||decide (Z7 (J5 ((Qh b.e,Qh b.e)::lV b.ll) P).2 x.1<0))
def Nl(y:ZR)(p:Pt)(tb:List Vp):Int:=Qp [y.e,Hf p (y.nm.n:Int),BB y.nm.n tb]
def kD(y:ZR)(p:Pt):Rat×Rat:=J5 ((((0:Int):Rat),((0:Int):Rat))::y.vs) (X3 p)
def uB(y:ZR)(p:Pt):Bool:=decide (AE y.rs (X3 p) y.rs.length=[])
def kpR(y:ZR)(p:Pt)(tb:List Vp):Bool×Int:=if Nl y p tb≠0 then(false,Nl y p tb)else if uB y p=true then(tb.all (uC (kD y p) (X3 p)),0)else(false,7)
def QAU{p:Pt}{e:Int}(h:e≠0)(he:Nl y p tb=e):kpR y p tb=(false,e):=by unfold kpR;rw[he,if_pos h]
def QEw{p:Pt}(he:Nl y p tb=0)(h:uB y p=false):kpR y p tb=(false,7):=by unfold kpR;rw[he,if_neg wu,h];rfl
def kE{p:Pt}(he:Nl y p tb=0)(h:uB y p=true):kpR y p tb=(tb.all (uC (kD y p) (X3 p)),0):=by unfold kpR;rw[he,if_neg wu,if_pos h]
structure QIJ(y:ZR)(p:Pt)(tb:List Vp):Prop where
 al:qB y.rs (X3 p) (y.nm.n+1)
 e0:Ov ((((0:Int):Rat),((0:Int):Rat))::y.vs) (X3 p)
 z0:Xb (kD y p) 100000000
 ev:∀b∈tb,Ov ((Qh b.e,Qh b.e)::lV b.ll) (X3 p)
 zs:∀b∈tb,Xb (J5 ((Qh b.e,Qh b.e)::lV b.ll) (X3 p)) 100000000
def yO{p:Pt}{n:Nat}(hn:n<=24)(h:Hf p (n:Int)=0):Zp p (n:Int)=0:=by
 unfold Hf at h;rwa [if_pos ((B3 _).2 O)]at h
theorem uD{a:AX}{r:Sr}(hF:Fits F w)(hGl:JC F)(hy:ZZ F y)(ht:HM y)(hR:Qw F a.1.q a.1.n 2 (a.2.flatMap Di))(hA:WK F a.2)(hta:AL a)(hx:Sw F r tb)(hc:gP r tb)(hok:Nl y (YQ a.2) tb=0->QIJ y (YQ a.2) tb):Qe prog 85 [y.v,a.1.v,r.v] w F (.tuple #[.bool (kpR y (YQ a.2) tb).1,.int .i64 (kpR y (YQ a.2) tb).2]):=by
 have hxr:=hx.len;have hcn:=hc.n;refine QT.intro (G:=λF=>JC F/\ZZ F y/\Qw F a.1.q a.1.n 2 (a.2.flatMap Di)/\WK F a.2/\Sw F r tb) func85 rfl wy rfl rfl hF (λF' hF'=>⟨hGl.le hF',hy.le hF',hR.le hF',hA.le hF',hx.le hF'⟩)<|QKO<|Qu rfl (vs:=[_,_,_]) rfl λb3=>QJE rfl<|wQ rfl<|QG<|QKO<|QA (wI I XA .here)<|QI rfl (λ_ _ f k=>Zf (y:=y) f k.1 k.2.1 ht) λ_=>wQ rfl<|wR rfl<|QA (QU rfl rfl rfl)<|QE<|QC ?_
 refine QO I (λhc2=>?_) λhc2=>?_
 ·have h20:y.e≠0:=bne_iff_ne.1 hc2;have hke:Nl y (YQ a.2) tb=y.e:=by unfold Nl;rw[Zg h20]
  refine wA 8 I ?_;exact JY (()) I (wO I I) (by rw[QAU h20 hke]) w8
 have h20:y.e=0:=bne_eq_false_iff_eq.1 hc2;have hke:Nl y (YQ a.2) tb=Qp [Hf (YQ a.2) y.nm.n,BB y.nm.n tb]:=by unfold Nl;rw[h20,ZS]
 have ho:=hy.ok h20;have hn1:=ho.n1;have hn0:=ho.n0;have hsn:=ho.sn;have hsl:=hy.Sb;refine QKr 4 I<|JK QJZ mixed wm<|QK (QD I)<|QK (QH I BX Vq)<|QK (Qf I Vq .here .h1)<|QK (Qg I Kx)<|QM I (λ_ _ f k=>G5 f k.1.1 k.1.2.2.1 k.1.2.2.2.1 hta.1 hta.2.1 hta.2.2) λ_=>QK (wI I XA .here)<|QK (QD I)<|QM I (λ_ _ f k=>SU (y:=y) f k.1.1.1 k.1.1.2.1 k.1.1.2.2.2.2 hc) λ_=>?_
 refine Qo I (Qz ZL) YT H5 I I (λb30=>?_) (λw h=>h.imp tC λF h=>h.1.1);refine QM I (λ_ _ f k=>YO f (Qw.of (cs:=bL Jn [_,_]) k.2 I) wu) (λ_=>QK (QF I)<|Q5<|QKs 7 I ?_);refine QO I (λhc2=>?_) λhc2=>?_
 ·have h33:Qp [Hf (YQ a.2) y.nm.n,BB y.nm.n tb]≠0:=bne_iff_ne.1 hc2;refine wA 8 I ?_;exact JY (()) I (wO I I) (by rw[QAU h33 hke]) w8
 have h33:Qp [Hf (YQ a.2) y.nm.n,BB y.nm.n tb]=0:=bne_eq_false_iff_eq.1 hc2;rw[h33]at hke;have hok:=hok hke;have hpe:=yO hn1 (Q8 h33 _ (.head _));have opk:=EE hpe;have hto:=xE (Q8 h33 (BB y.nm.n tb) (.tail _ (.head _)));have hct:∀b∈tb,b.e.length<=1000000/\H8 b.w b.wl/\H8 b.l b.ll:=hc.t.resolve_left (wk hto.len);refine QKr 5 I<|QA (wI I XA .here)<|QJD I<|QI I (λw F hF ⟨⟨⟨⟨⟨⟨hGl,hy,hR,hA,hx⟩,_⟩,_⟩,_⟩,hs30⟩,_⟩=>Uq (y:=y) hF hGl hy ht h20 hR hA hta hpe hok.al) λ_=>QKq 15 I<|QA (XJ I)<|wB 1 I ?_
 refine QE<|QC ?_
 refine QO I (λhc2=>?_) λhc2=>?_
 ·have hki:uB y (YQ a.2)=false:=by unfold uB;simpa using hc2
  refine wR I<|Qb I (Qz ZL) YT H5 I I λb48=>QI I (λ_ _ f k=>YO f (Qw.of (cs:=bL Jn [0,7]) k.2 I) wu) λ_=>QKq 5 I ?_
  exact JY (()) I (wO I I) (by rw[QEw hke hki]<;>rfl) w8
 have hki:uB y (YQ a.2)=true:=by unfold uB;simpa using hc2
 refine QN<|QC<|wR rfl<|QI rfl (λ_ _ f k=>N5 f k.1.1.1.1.1.1.1 (a:=a) k.1.1.1.1.1.1.2.2.1 k.1.1.1.1.1.1.2.2.2.1 hta (EE hpe) O) λc51=>JN _ (λ_ _ f h=>ay h.2.eqT (ay h.2.2.2.2.2 h.2.len)) λe51=>?_
 obtain⟨e51,l51,m51⟩:=e51;have hp51:c51.1.n<=64:=by have:=opk.len;unfold X3 at m51;rw[ae]at m51;omega
 refine wQ I<|QG<|KR (r:=[0,1,2,3,4,5,6,7,8]) tC mixed wm rfl<|Jk 0 wm rfl rfl<|QK (QD I)<|Q9<|Jk 3 wm rfl rfl<|QK (QH I Yx J4)<|Q9<|Jk 4 wm rfl rfl<|QK (Qf I J4 .here (.skip (.skip .h1)))<|Q9<|Kr (A:=[7]) (r:=[1,2,5,6,8]) wm<|XH 1 wm wm wy tC w9 rfl rfl rfl (λ_=>rfl) (λ_ _ f k=>Sk (n:=0) f wu wu) λc53=>XH 2 wm wm wy tC tA rfl rfl rfl (λ_=>rfl) (λ_ _ f k=>Kg (x:=c53) (r:=((0:Int):Rat)) f k.2) λc54=>XH 5 wm wm wy tC (λ_ h=>h.1.1) rfl rfl rfl (λ_=>rfl) (λ_ _ f k=>BZ f k.1.1.1.1.1.1.1.1.1.1 k.1.1.1.1.1.1.1.1.1.2.1.st k.1.1.1.1.1.1.1.1.1.2.1.Sb O λs hs=>⟨ho.st s hs,ht.st s hs⟩) λc57=>C8 _ (λ_ _ f k=>k.2.nl) λhn57=>?_
 rw[ae,hsl]at hn57;refine XH 6 wm wm wy tC (λ_ h=>h.1.1.1) rfl rfl rfl (λ_=>rfl) (λ_ _ f k=>EC (pa:=c51) (x:=c54) (t:=(((0:Int):Rat),((0:Int):Rat))) (vb:=y.vs) f k.1.1.1.2.self k.1.2 k.2 O O (by rw[e51];exact hok.e0)) (λc58=>?_);rw[e51];refine K1 7 (d:=13) (T:=192) wm wm wy tC (λ_ h=>h.1.1.1.1) wm wm Ji (λb13=>Zl (vs:=[_,_,_,_,_,_,_,_]) 8 wm wm wy (.cons _ tC) (λ_ h=>h.1.1.1.1) rfl rfl (λ_=>rfl) (λ_=>rfl) rfl Qi I .here tC .h8 wZ ?_);refine Vd ?_ wm;refine QKs 5 I<|QA (Qg I DB)<|QKq 4 I<|JW (ι:=Bj tb (uC (kD y (YQ a.2)) (X3 (YQ a.2)))) [(12,_),(13,_),(59,_),(60,_)] (λi=>[(61,.int .i64 ((i.i:Nat):Int))]) (λi=>[(b13,.cells (Xq c58).toArray 192 (0,0))]) (λi F=>True) (λi=>tb.length-i.i) (Bj.start _ _) wV wS (tE) w8 λi=>?_
 simp only[ak,aq];have hi:=i.le;refine wA 6 I ?_;refine QO I (λhc2=>?_) λhc2=>?_
 ·have hlt:i.i<tb.length:=wk<|QKc hc2
  have hem:=Q3 hlt;refine QKr 6 I<|QA (Q6 (n:=r.n) i.i (λF h9=>h9.1.1.1.1.1.1.1.1.1.1.1.1.2.2.2.2.row) rfl rfl DB Xz O)<|QA (JX (n:=r.n) (vs:=[tx (el tb i.i).e,.slice (el tb i.i).w.q (el tb i.i).w.n (el tb i.i).w.cap,.slice (el tb i.i).l.q (el tb i.i).l.n (el tb i.i).l.cap]) ((i.i)*3) (λF h9=>h9.1.1.1.1.1.1.1.1.1.1.1.1.2.2.2.2.row) O rfl Xz I λj v hv=>Jc (f:=dG) (l:=tb) LI O hv)<|Qc Wh λb15=>QR (vs:=[_,_,_]) I I I Xz I .here .h3 wU<|QJC<|QG<|KR (r:=[0,1,2,3,4,5,6,7,8,9,10]) tC mixed wm rfl<|Jk 0 wm rfl rfl<|QK (QD I)<|Q9<|Jk 1 wm rfl rfl<|QK (QH I Dg JR)<|Q9<|Jk 2 wm rfl rfl<|QK (Qf I JR .here .h1)<|Q9<|Jk 5 wm rfl rfl<|QK (QH I Mz J4) ?_
  refine Q9<|Jk 6 wm rfl rfl<|QK (Qf I J4 .here (.skip (.skip .h1)))<|Q9<|Kr (A:=[9]) (r:=[3,4,7,8,10]) wm<|XH 3 wm wm wy tC w9 rfl rfl rfl (λ_=>rfl) (λ_ _ f k=>Yw f k.1.1.1.1.1.1.1.1.1.1.1.1.1 (XI (hto.e _ hlt)).1 (wk<|(hct _ hem).1)) λc68=>XH 4 wm wm wy tC tA rfl rfl rfl (λ_=>rfl) (λ_ _ f k=>Kg (x:=c68) (r:=Qh (el tb i.i).e) f k.2) λc69=>XH 7 wm wm wy tC (λ_ h=>h.1.1) rfl rfl rfl (λ_=>rfl) (λ_ _ f k=>BH f k.1.1.1.1.1.1.1.1.1.1.1.1.1.1.1 (k.1.1.1.1.1.1.1.1.1.1.1.1.1.1.2.2.2.2.bx _ hem).2 (hct _ hem).2.2 (Xt (hto.l _ hlt)).2) λc72=>C8 _ (λ_ _ f k=>k.2.nl) λhn72=>?_
  rw[Y9,(Xt (hto.l _ hlt)).1]at hn72;refine XH 8 wm wm wy tC (λ_ h=>h.1.1.1) rfl rfl rfl (λ_=>rfl) (λ_ _ f k=>EC (pa:=c51) (x:=c69) (t:=(Qh (el tb i.i).e,Qh (el tb i.i).e)) f k.1.1.1.1.1.1.1.1.2.self k.1.2 k.2 O O (by rw[e51];exact hok.ev _ hem)) (λc73=>?_);rw[e51];refine K1 9 (d:=16) (T:=192) wm wm wy tC (λ_ h=>h.1.1.1.1) wm wm Ji (λb16=>Zl (vs:=[_,_,_,_,_,_,_,_]) 10 wm wm wy (.cons _ tC) (λ_ h=>h.1.1.1.1) rfl rfl (λ_=>rfl) (λ_=>rfl) rfl Qi I .here tC .h8 wZ ?_);refine Vd ?_ wm;refine QC ?_;refine YS [(12,_),(13,_),(59,_),(60,_),(61,_)] [(87,.bool ((!uC (kD y (YQ a.2)) (X3 (YQ a.2)) (el tb i.i))))] wW ?_ ?_
  ·refine QB<|QA (QH I Xr Qa)<|QA (wL I Qa .u2)<|QA (QH I Xs Qa)<|QA (wJ I Qa .here)<|QI I (λ_ _ f k=>GU (x:=c58.hi) (y:=c73.lo) (r:=(kD y (YQ a.2)).2) (s:=(J5 ((Qh (el tb i.i).e,Qh (el tb i.i).e)::lV (el tb i.i).ll) (X3 (YQ a.2))).1) f k.1.1.1.1.1.2.2 k.2.1 hok.z0.2 (hok.zs _ hem).1) λ_=>wB 2 I ?_
   refine Qs (t:=80) rfl (λhb80=>?_) λhb80=>?_
   ·refine wB 8 I ?_;exact Jg ⟨rfl,rfl,rfl,rfl,rfl,(congrArg (λb=>some (aI b)) (by unfold uC;rw[hb80];rfl)),trivial⟩ QJZ tA
   refine QL I I<|QA (QH I Xr Qa)<|QL I I<|QA (wL I Qa .here)<|QL I I<|QA (QH I Xs Qa)<|QL I I<|QA (wJ I Qa .u2)<|QL I I<|QI I (λ_ _ f k=>GU (x:=c73.hi) (y:=c58.lo) (r:=(J5 ((Qh (el tb i.i).e,Qh (el tb i.i).e)::lV (el tb i.i).ll) (X3 (YQ a.2))).2) (s:=(kD y (YQ a.2)).1) f k.1.2.2 k.1.1.1.1.1.1.2.1 (hok.zs _ hem).2 hok.z0.1) λ_=>wB 4 I ?_
   exact Jg ⟨rfl,rfl,rfl,rfl,rfl,(congrArg (λb=>some (aI b)) (by unfold uC;rw[hb80,Bool.false_or,Bool.not_not])),trivial⟩ QJZ λ_ h=>h.1.1
  simp only[ak,aq];refine QO I (λhc2=>?_) λhc2=>?_
  ·have hkb:uC (kD y (YQ a.2)) (X3 (YQ a.2)) (el tb i.i)=false:=by simpa using hc2
   refine wA 7 I ?_
   repeat first|refine Q4 ?_|refine Qy ?_
   exact JY (()) I (wO I I) (by rw[kE hke hki,i.hit hlt hkb]) w8
  have hkb:uC (kD y (YQ a.2)) (X3 (YQ a.2)) (el tb i.i)=true:=by simpa using hc2
  refine QN<|Qk<|QC<|QB<|QA (Qv I I O)<|wB 2 I ?_
  exact Ql (i.next hlt hkb) (by show tb.length-(i.i+1)<tb.length-i.i;omega) wW ((.cons _ (.cons _ QJZ))) λF h=>⟨h.1.1.1.1.1,trivial⟩
 have hge:tb.length<=i.i:=wk<|QKd hc2
 refine Q2 ?_
 repeat first|refine QY ?_|refine QP wy ?_
 refine QZ<|QKs 8 I ?_
 exact JY (()) I (wO I I) (by rw[kE hke hki,i.stop hge]) w8
def Nz(v:List (Rat×Rat)):List (List UInt8×List UInt8):=v.map λa=>(Jh a.1,Jh a.2)
def SM(v:List (Rat×Rat)):(Nz v).length=v.length:=by simp[Nz]
def Bf.Oh{c:Sr}{v:List (Rat×Rat)}(h:Bf F c v):KM F c (Nz v):=⟨by
 have e:(Nz v).flatMap UH=v.flatMap QA9:=by unfold Nz;rw[List.flatMap_map];rfl
 rw[e];exact h.1,by rw[SM];exact h.2.1.symm⟩
abbrev AT:=Rat×List (Rat×Rat)×List (Rat×Rat)
instance :Inhabited AT:=⟨(0,[],[])⟩
def P2(t:List AT):List (List UInt8×List (List UInt8×List UInt8)×List (List UInt8×List UInt8)):=t.map λp=>(Jh p.1,Nz p.2.1,Nz p.2.2)
def Vp.d(b:Vp):List UInt8×List (List UInt8×List UInt8)×List (List UInt8×List UInt8):=(b.e,b.wl,b.ll)
structure Sv(F:Gs)(c:Sr×List Vp)(t:List AT):Prop where
 a:Sw F c.1 c.2
 d:c.2.map Vp.d=P2 t
 cap:c.1.n<=c.1.cap
def Sv.nil(F:Gs):Sv F (⟨none,0,0⟩,[]) []:=⟨⟨Qw.nil F none 3,rfl,λb h=>by cases h⟩,rfl,aa _⟩
def LL(p:AT):Bool:=Jv p.2.1||Jv p.2.2
def tuR(e:Int)(o:Option (List AT)):Int×List AT:=if e≠0 then(e,[])else match o with
 |none=>(25,[])
 |some t=>(if t.any LL=true then 4 else 0,if t.any LL=true then[]else t)
def cU{e:Int}{o:Option (List AT)}(h:e≠0):tuR e o=(e,[]):=by unfold tuR;rw[if_pos h]
def Aj:tuR 0 none=(25,[]):=rfl
def Hb(t:List AT):tuR 0 (some t)=(if t.any LL=true then 4 else 0,if t.any LL=true then[]else t):=rfl
def gQ(rs:List (List Tm))(n:Nat)(b:Int):Rat->List (Rat×Rat)->List Rat->Prop
 |_,_,[]=>True
 |fr,x,e::es=>vg rs fr e x n b/\∀p,Y4 rs fr e x n b=some p->gQ rs n b e p.2 es
def qL{rs:List (List Tm)}{e:Rat}{es:List Rat}(h:Y4 rs fr e x n b=none):Wk rs n b fr x (e::es)=none:=by unfold Wk;rw[h]
def qK{rs:List (List Tm)}{e:Rat}{es:List Rat}{p:List (Rat×Rat)×List (Rat×Rat)}(h:Y4 rs fr e x n b=some p):Wk rs n b fr x (e::es)=(Wk rs n b e p.2 es).map λr=>(e,p.1,p.2)::r:=by rw[Wk,h]
def pV(m:gS):List Value:=[.slice m.1.1.q m.1.1.n m.1.1.cap,.slice m.2.1.q m.2.1.n m.2.1.cap]
def pU(m:gS):(pV m).length=2:=rfl
instance :Inhabited gS:=⟨((default,[]),(default,[]))⟩
structure TuJ(rs:List (List Tm))(n:Nat)(b:Int)(vs:List (Rat×Rat))(es:List (List UInt8)) where
 i:Nat
 f0:Value
 f1:Value
 f2:Value
 f3:Value
 tt:Fr
 bx:Sr
 bl:List Yr
 cur:List (Rat×Rat)
 v:Value
 ob:List (Nat×Obj)
 ms:List gS
 acc:List AT
 le:i<=es.length
 hr:Q7 176 2 v i (ms.flatMap pV) ob
 len:ms.length=i
 h:Wk rs n b ((0:Int):Rat) vs (es.map Qh)=(Wk rs n b (Yv es i) cur ((es.map Qh).drop i)).map λr=>acc++r
 ok:gQ rs n b (Yv es i) cur ((es.map Qh).drop i)
 jd:acc.length=i
 uu:cur.length=vs.length
 sz:∀p∈acc,(p.2.1.length=vs.length/\p.2.2.length=vs.length)/\(∀a∈p.2.1,Xb a 100000000)/\∀a∈p.2.2,Xb a 100000000
 he:∀j,j<i->(el acc j).1=Qh (el es j)
structure TuH(rs:List (List Tm))(n:Nat)(b:Int)(vs:List (Rat×Rat))(es:List (List UInt8))(F:Gs)(i:TuJ rs n b vs es):Prop where
 tt:JP F i.tt (Yv es i.i)
 bx:J7 F i.bx i.bl i.cur
 ms:∀j,j<i.i->J7 F (el i.ms j).1.1 (el i.ms j).1.2 (el i.acc j).2.1/\J7 F (el i.ms j).2.1 (el i.ms j).2.2 (el i.acc j).2.2
def GX{es:List (List UInt8)}(h:i<es.length):(es.map Qh).drop i=Qh (el es i)::(es.map Qh).drop (i+1):=by
 rw[Hy (by rw[ae];exact h)];congr 1;rw[Ja (by rw[ae];exact h),bc,Ja h]
def Ci{β:Type}(l:List α)(x:α)(f:α->List β):(l++[x]).flatMap f=l.flatMap f++f x:=by rw[bQ];simp
def D1[Inhabited α]{l:List α}{x:α}{j i:Nat}(hl:l.length=i)(h:j<i):el (l++[x]) j=el l j:=by subst hl;exact U8 h
def G4[Inhabited α]{l:List α}{x:α}{i:Nat}(hl:l.length=i):el (l++[x]) i=x:=by subst hl;exact Cs l x
def Az{o:Option (List (Rat×Rat)×List (Rat×Rat))}{c:gS}{p:List (Rat×Rat)×List (Rat×Rat)}(h:stF F o c)(e:o=some p):J7 F c.1.1 c.1.2 p.1/\J7 F c.2.1 c.2.2 p.2:=by rw[e]at h;exact h
def TuJ.next{rs:List (List Tm)}{n:Nat}{b:Int}{vs:List (Rat×Rat)}{es:List (List UInt8)}(s:TuJ rs n b vs es)(hb:b<=64)(hlt:s.i<es.length){p:List (Rat×Rat)×List (Rat×Rat)}(hv:Y4 rs (Yv es s.i) (Qh (el es s.i)) s.cur n b=some p)(cf:Fr)(c:gS){v:Value}{ob:List (Nat×Obj)}(hr:Q7 176 2 v (s.i+1) (s.ms.flatMap pV++pV c) ob):TuJ rs n b vs es :=
 ⟨s.i+1,.int .i64 s.tt.n.s,.slice s.tt.n.q s.tt.n.n s.tt.n.cap,.int .i64 s.tt.d.s,.slice s.tt.d.q s.tt.d.n s.tt.d.cap,cf,c.2.1,c.2.2,p.2,v,ob,s.ms++[c],s.acc++[(Qh (el es s.i),p.1,p.2)],hlt,by rw[Ci];exact hr,by rw[aP,s.len];rfl,by
  rw[s.h,GX hlt,qK hv,Wb,Option.map_map];congr 1;funext r;simp,by
  have h1:=s.ok;rw[GX hlt]at h1;rw[Wb];exact h1.2 p hv,by rw[aP,s.jd];rfl,by
  have h1:=s.ok;rw[GX hlt]at h1;exact(EL hb h1.1 hv).1.2.trans s.uu,λq hq=>by
  have h1:=s.ok;rw[GX hlt]at h1;have h2:=EL hb h1.1 hv;rcases List.mem_append.1 hq with hq | hq
  ·exact s.sz q hq
  ·rw[List.mem_singleton.1 hq];exact⟨⟨h2.1.1.trans s.uu,h2.1.2.trans s.uu⟩,h2.2.1,h2.2.2⟩,λj hj=>by
  rcases Nat.lt_succ_iff_lt_or_eq.1 hj with h | h
  ·rw[D1 s.jd h];exact s.he j h
  rw[h,G4 s.jd]⟩
def TuH.next{rs:List (List Tm)}{vs:List (Rat×Rat)}{es:List (List UInt8)}{s:TuJ rs n b vs es}(hb:b<=64)(hlt:s.i<es.length){p:List (Rat×Rat)×List (Rat×Rat)}(hv:Y4 rs (Yv es s.i) (Qh (el es s.i)) s.cur n b=some p){cf:Fr}{c:gS}{v:Value}{ob:List (Nat×Obj)}(hr:Q7 176 2 v (s.i+1) (s.ms.flatMap pV++pV c) ob)(h:TuH rs n b vs es F s)(h1:JP F cf (Qh (el es s.i)))(h2:stF F (Y4 rs (Yv es s.i) (Qh (el es s.i)) s.cur n b) c):TuH rs n b vs es F (s.next hb hlt hv cf c hr) :=
 ⟨by show JP F cf (Yv es (s.i+1));rw[Wb];exact h1,(Az h2 hv).2,λj hj=>by
  rcases Nat.lt_succ_iff_lt_or_eq.1 hj with g | g
  ·show J7 F (el (s.ms++[c]) j).1.1 (el (s.ms++[c]) j).1.2 (el (s.acc++[_]) j).2.1/\J7 F (el (s.ms++[c]) j).2.1 (el (s.ms++[c]) j).2.2 (el (s.acc++[_]) j).2.2;rw[D1 s.len g,D1 s.jd g];exact h.ms j g
  show J7 F (el (s.ms++[c]) j).1.1 (el (s.ms++[c]) j).1.2 (el (s.acc++[_]) j).2.1/\J7 F (el (s.ms++[c]) j).2.1 (el (s.ms++[c]) j).2.2 (el (s.acc++[_]) j).2.2;rw[g,G4 s.len,G4 s.jd];exact Az h2 hv⟩
structure TbJ(acc:List AT) where
 i:Nat
 v:Value
 ob:List (Nat×Obj)
 bs:List Vp
 le:i<=acc.length
 hr:Q7 145 3 v i (bs.flatMap dG) ob
 len:bs.length=i
 no:∀j,j<i->LL (el acc j)=false
 d:bs.map Vp.d=P2 (acc.take i)
def vP{tt:List AT}(h:i<tt.length)(k:LL (el tt i)=true):tt.any LL=true:=List.any_eq_true.2 ⟨_,Q3 h,k⟩
theorem LH{tt:List AT}(h:∀j,j<tt.length->LL (el tt j)=false):tt.any LL=false:=by
 cases e:tt.any LL with
 |false=>rfl
 |true =>
  obtain⟨x,hx,k⟩:=List.any_eq_true.1 e;obtain⟨j,hj,rfl⟩:=ar hx;have:=h j hj;rw[Ja hj,k]at this;cases this
def qI{acc:List AT}(h:i<acc.length):P2 (acc.take (i+1))=P2 (acc.take i)++[(Jh (el acc i).1,Nz (el acc i).2.1,Nz (el acc i).2.2)]:=by rw[XV h];simp[P2]
def TbJ.next{acc:List AT}(s:TbJ acc)(h:s.i<acc.length)(be:Vp){v:Value}{ob:List (Nat×Obj)}(hr:Q7 145 3 v (s.i+1) (s.bs.flatMap dG++dG be) ob)(hno:LL (el acc s.i)=false)(hd:be.d=(Jh (el acc s.i).1,Nz (el acc s.i).2.1,Nz (el acc s.i).2.2)):TbJ acc :=
 ⟨s.i+1,v,ob,s.bs++[be],h,by rw[Ci];exact hr,by rw[aP,s.len];rfl,λj hj=>by
  rcases Nat.lt_succ_iff_lt_or_eq.1 hj with g | g
  ·exact s.no j g
  rw[g];exact hno,by rw[bX,s.d,qI h,<-hd];rfl⟩
def cV(y:ZR)(es:List (List UInt8))(o b:Int):Int:=Qp [y.e,MI es,Hr o,VU b]
def kb{es:List (List UInt8)}(h:MI es=0):es.length<=1000/\(∀i,i<es.length->Jd (el es i)=0):=by
 unfold MI at h;by_cases g:es.length>1000
 ·rw[if_pos g]at h;cases h
 rw[if_neg g]at h;exact⟨O,λi hi=>(G8 (Q8 h _ (aL (f:=λi=>NP (Yv es i) (el es i)) (List.mem_range.2 hi)))).1⟩
theorem dO{qe:Option Addr}{ne ce:Nat}{es:List (List UInt8)}{o:Int}(hF:Fits F w)(hGl:JC F)(hy:ZZ F y)(ht:HM y)(hR:Qw F qe ne 1 (es.map tx))(hne:es.length=ne)(hel:ne>1000\/∀s∈es,s.length<=1000000)(hok:cV y es o b=0->gQ y.rs o.toNat b ((0:Int):Rat) y.vs (es.map Qh)):
  QT prog 26 [y.v,.slice qe ne ce,.int .i64 o,.int .i64 b] w F (λ(c:Sr×List Vp)=>.tuple #[c.1.v,.int .i64 (tuR (cV y es o b) (Wk y.rs o.toNat b ((0:Int):Rat) y.vs (es.map Qh))).1]) (λc F=>Sv F c (tuR (cV y es o b) (Wk y.rs o.toNat b ((0:Int):Rat) y.vs (es.map Qh))).2):=by
 refine QT.intro (G:=λF=>JC F/\ZZ F y/\Qw F qe ne 1 (es.map tx)) func26 rfl wy rfl rfl hF (λF' hF'=>⟨hGl.le hF',hy.le hF',hR.le hF'⟩)<|QKO<|Qu rfl (vs:=[_,_,_]) rfl λb4=>QJE rfl<|wQ rfl<|QG<|QKO<|QA (wI I XA .here)<|QI rfl (λ_ _ f k=>Zf (y:=y) f k.1 k.2.1 ht) λ_=>QJD rfl<|QI rfl (λ_ _ f k=>Ih f k.1.1 k.1.2.2 hne hel) λ_=>QJD rfl<|QI rfl (λ_ _ f k=>V8 f) λ_=>QJD rfl<|QI rfl (λ_ _ f k=>Bc f) λ_=>Qb rfl (Qz ZL) YT H5 rfl rfl λb31=>QI rfl (λ_ _ f k=>YO f (Qw.of (cs:=bL Jn [_,_,_,_]) k.2 rfl) wu) λ_=>wQ rfl<|QG ?_
 refine QKr 5 I ?_;refine QO I (λhc2=>?_) λhc2=>?_
 ·have h34:cV y es o b≠0:=bne_iff_ne.1 hc2;refine wA 8 I ?_;exact JY (((⟨none,0,0⟩,[]):Sr×List Vp)) I (wO I I) (by rw[cU h34]<;>rfl) λF h9=>by rw[cU h34];exact Sv.nil F
 have h34:cV y es o b=0:=bne_eq_false_iff_eq.1 hc2;have hok:=hok h34;have hye:y.e=0:=Q8 h34 _ (.head _);have hen:=kb (Q8 h34 (MI es) (.tail _ (.head _)));have hor:=N8 (Q8 h34 (Hr o) (.tail _ (.tail _ (.head _))));have hbt:=R9 (Q8 h34 (VU b) (.tail _ (.tail _ (.tail _ (.head _)))));have ho:=hy.ok hye;have hn1:=ho.n1;have hn0:=ho.n0;have hrn:=ho.rn;have hsn:=ho.sn;have hsl:=hy.Sb;have hrs:y.rs.length=y.nm.n:=by unfold ZR.rs;rw[ae,hy.VI,hrn]
 have hvs:y.vs.length=y.nm.n:=by unfold ZR.vs;rw[ae,hsl,hsn]
 have hel2:∀s∈es,s.length<=1000000:=hel.resolve_left O;obtain⟨n,rfl⟩:∃n:Nat,o=(n:Int):=⟨o.toNat,O⟩;rw[aC]at hok;refine QKr 4 I<|QA (wI I XA .here)<|QI rfl (λ_ _ f k=>Zd (y:=y) f k.1.1.1.1.1.1.1 k.1.1.1.1.1.1.2.1 ht ho) λc37=>JN _ (λw F hF ⟨⟨⟨⟨⟨⟨⟨⟨hGl,hy,hR⟩,_⟩,_⟩,_⟩,_⟩,hs31⟩,_⟩,h37⟩=>ay h37.VI (ay (h37.pn ho.short) h37.box.nl)) λhnn=>?_
 obtain⟨hn37,hp37,hb37⟩:=hnn;refine wQ I<|QG<|KR (r:=[0,1,2,3,4,5,6,7]) tE mixed wm rfl<|Jk 1 wm rfl rfl<|QK (QD I)<|Q9<|Jk 2 wm rfl rfl<|QK (Ze I)<|Q9<|Jk 3 wm rfl rfl<|QK (QH I uZ JF)<|Q9<|Jk 4 wm rfl rfl<|QK (Zq (c:=#[c37.rt.v,c37.st.v]) (T':=171) rfl JF (λF h9=>h9.2.H7) rfl)<|Q9<|Kr (A:=[6]) (r:=[0,5,7]) wm<|XH 0 wm wm wy tE w9 rfl rfl rfl (λ_=>rfl) (λ_ _ f k=>Sk (n:=0) f wu wu) λc38=>C7 5 wm wm wy tE tA rfl wy (λ_=>Qx I yU Ox (.cons (vs:=[_,_,_,_]) I I I (.skip (.skip (.skip (.skip .h4)))) (.cons (vs:=[_]) I I I (.skip (.skip (.skip (.skip (.skip (.skip (.skip (.skip .h1)))))))) .nil)))<|K1 6 (d:=12) (T:=173) wm wm wy tE tA wm wm Ox λb12=>Zl (vs:=[_,_,_,_,_,_,_,_,_]) 7 wm wm wy (.cons _ tE) tA rfl rfl (λ_=>rfl) (λ_=>rfl) rfl BA I .here tE .h9 we ?_
 refine Vd ?_ wm;refine QKs 10 I<|QA (Qg I Z6)<|QKq 4 I<|JW (ι:=TuJ y.rs n b y.vs es) [(1,_),(2,_),(3,_),(11,_),(12,_),(44,_),(45,_)] (λi=>[(13,i.v),(46,.int .i64 ((i.i:Nat):Int))]) (λi=>(b12,.cells #[i.f0,i.f1,i.f2,i.f3,.int .i64 i.tt.n.s,.slice i.tt.n.q i.tt.n.n i.tt.n.cap,.int .i64 i.tt.d.s,.slice i.tt.d.q i.tt.d.n i.tt.d.cap,.slice i.bx.q i.bx.n i.bx.cap] 173 (0,0))::i.ob) (λi F=>TuH y.rs n b y.vs es F i) (λi=>es.length-i.i) (⟨0,.int .i64 0,.slice none 0 0,.int .i64 0,.slice none 0 0,c38,c37.st,c37.sl,y.vs,.slice none 0 0,[],[],[],aJ _,.nil,rfl,(by show Wk y.rs n b _ _ _=Option.map _ (Wk y.rs n b ((0:Int):Rat) _ _);rw[bD];simp),hok,rfl,rfl,(λp h=>by cases h),λj h=>absurd h (bA _)⟩) wY wT (tE) (λF h=>⟨h.2,h.1.2.box,λj h=>absurd h (bA _)⟩) λi=>?_
 simp only[ak,aq];have hi:=i.le;refine wA 6 I ?_;refine QO I (λhc2=>?_) λhc2=>?_
 ·have hlt:i.i<es.length:=wk<|QKc hc2
  have hem:=Q3 hlt;have hce:=hen.2 _ hlt;have hcl:=hel2 _ hem;have hde:=GX hlt;have hok1:=i.ok;rw[hde]at hok1;have hsp:=hok1.1;refine XQ _ (λ_ _ f k=>k.2.bx.nl) (λhnb=>?_);have hcn:=i.uu;refine QKr 6 I<|QA (Q6 (n:=ne) i.i (λF h9=>h9.1.1.1.1.1.1.1.1.1.2.2) rfl rfl Z6 JR O)<|QA (JA (n:=ne) ((i.i)*1) (λF h9=>h9.1.1.1.1.1.1.1.1.1.2.2) O rfl JR (Xa (f:=tx) (l:=es) O))<|wQ I<|QG<|Js 5 QJZ mixed wm wm ?_
  simp only[bP,bY,bR,bD];refine QK (QH I By Qa)<|QK (wL I Qa .here)<|QK (QD I)<|QM I (λ_ _ f k=>Yw f k.1.1.1.1.1.1.1.1.1.1 (XI hce).1 O) λc53=>QK (QH I Bz Qa)<|Za<|QR (vs:=[_,_,_,_]) I I I Qa I .here .h4 wV<|QA (QH I By Qa)<|QR (vs:=[_,_,_,_]) I I I Qa I .here (.skip (.skip (.skip (.skip .h4)))) wV<|QKq 5 I<|QA (QJ (vs:=[_,_,_,_,_,_,_,_,_]) I BA .here .h9 rfl)<|wB 2 I<|QI I (λ_ _ f k=>zQ (n:=n) (x:=⟨i.tt,c53,i.bx,i.bl⟩) (vx:=i.cur) (fr:=Yv es i.i) (t2:=Qh (el es i.i)) f k.1.1.1.1.1.1.1.1.1.1.1 k.1.1.1.2 ⟨k.1.2.tt,k.2,k.1.2.bx⟩ (by dsimp only;omega) (by dsimp only;omega) (by dsimp only;omega) (λe he=>wk<|hp37 e he) O hbt hsp) λc61=>wB 3 I<|Qc M4 λb16=>QR (vs:=[_,_]) I I I KW I .here .h2 wT<|wB 2 I ?_
  refine QKs 5 I<|QA (XJ I)<|QE<|QC ?_
  refine QO I (λhc2=>?_) λhc2=>?_
  ·have hv:(Y4 y.rs (Yv es i.i) (Qh (el es i.i)) i.cur n b)=none:=by cases hv:(Y4 y.rs (Yv es i.i) (Qh (el es i.i)) i.cur n b)with
    |none=>rfl
    |some v=>rw[hv]at hc2;cases hc2
   have hnone:(Wk y.rs n b ((0:Int):Rat) y.vs (es.map Qh))=none:=by rw[i.h,hde,qL hv];rfl
   refine wA 7 I ?_
   repeat first|refine Q4 ?_|refine Qy ?_
   exact JY (((⟨none,0,0⟩,[]):Sr×List Vp)) I (wO I I) (by rw[h34,aC,hnone,Aj]<;>rfl) λF h9=>by rw[h34,aC,hnone,Aj];exact Sv.nil F
  obtain⟨p,hv⟩:∃p,(Y4 y.rs (Yv es i.i) (Qh (el es i.i)) i.cur n b)=some p:=by cases hv:(Y4 y.rs (Yv es i.i) (Qh (el es i.i)) i.cur n b)with
   |none=>rw[hv]at hc2;cases hc2
   |some v=>exact⟨v,rfl⟩
  have hpz:=EL hbt.2 hsp hv;refine QKr 4 I<|QA (QH I Co JF)<|QA (Qf I JF .here (.skip .h1))<|QA (QH I Bw JF)<|QR (vs:=[_]) I I I JF I .u1 (.skip (.skip (.skip (.skip (.skip (.skip (.skip (.skip .h1)))))))) wS<|QKq 4 I<|QA (wH I KW .here)<|Qb I (Qz UI) KW M4 I I λb71=>?_
  refine Ys (bs1:=[_,_]) (ob:=i.ob) (n:=i.i) (k:=1) (sz:=2) (news:=(pV c61)) I I UI KW M4 I QCY i.hr (Src.row (off:=0) tB (λj q hq=>by rw[au];rw[aV];exact hq) rfl) O O (λv hv=>by simp only[pV,aE,ax,or_false]at hv;rcases hv with rfl | rfl<;>rfl) (λv72 ob72 hr72=>?_);refine wB 2 I<|Qk<|QC<|QB<|QA (Qv I I O)<|wB 2 I ?_
  exact Ql (i.next hbt.2 hlt hv c53 c61 hr72) (by show es.length-(i.i+1)<es.length-i.i;omega) we ((.cons _ QJZ)) λF ⟨⟨⟨⟨⟨⟨⟨⟨⟨⟨⟨⟨⟨hGl,hy,hR⟩,_⟩,_⟩,_⟩,_⟩,hs31⟩,_⟩,h37⟩,h38⟩,hS⟩,h53⟩,h61⟩,hs71⟩=>⟨⟨⟨⟨⟨⟨⟨⟨⟨⟨hGl,hy,hR⟩,trivial⟩,trivial⟩,trivial⟩,trivial⟩,hs31⟩,trivial⟩,h37⟩,h38⟩,hS.next hbt.2 hlt hv hr72 h53 h61⟩
 have hge:i.i=es.length:=by have:=QKd hc2;have:=i.le;omega
 have hend:(Wk y.rs n b ((0:Int):Rat) y.vs (es.map Qh))=some i.acc:=by
  rw[i.h,List.drop_of_length_le (by rw[ae];omega)];show some (i.acc++[])=_;rw[List.append_nil]
 have hal:=i.jd;refine Q2 ?_
 repeat first|refine QY ?_|refine QP wy ?_
 refine QZ<|QKs 9 I ?_
 have hxl:=i.len;obtain⟨⟨rq,rn,rc⟩,hv2,hrn,hrc,hfix⟩:=Q7.fix (w0:=w) (F0:=F) (bs1:=[_]) (G:=_) i.hr;dsimp only at hrn hrc hfix;subst hrn;refine YB hfix ?_;rw[hv2];dsimp only[Sr.v];refine QJD rfl<|QA (Qg rfl UI)<|QJD rfl<|QJC<|QV<|JW (ι:=TbJ i.acc) [(1,_),(74,_),(75,_)] (λi2=>[(18,i2.v),(76,.int .i64 ((i2.i:Nat):Int))]) (λi2=>i2.ob) (λi2 F=>∀bx∈i2.bs,KM F bx.w bx.wl/\KM F bx.l bx.ll) (λi2=>es.length-i2.i) (⟨0,.slice none 0 0,[],[],aJ _,.nil,rfl,λj h=>absurd h (bA _),rfl⟩) wU wT (tD) (λ_ _ bx h=>by cases h) λi2=>?_
 simp only[ak,aq];have hi2:=i2.le;refine wA 6 I ?_;refine QO I (λhc2=>?_) λhc2=>?_
 ·have hlt2:i2.i<i.acc.length:=wk<|QKc hc2
  have hsz:=i.sz _ (Q3 hlt2);have hej:=i.he i2.i O;have hce:=hen.2 i2.i O;refine QKr 7 I<|QA (Q6 (n:=i.i) (i2.i) (λF h9=>h9.1.2) rfl rfl UI KW O)<|QA (JX (n:=i.i) (vs:=[.slice (el i.ms (i2.i)).1.1.q (el i.ms (i2.i)).1.1.n (el i.ms (i2.i)).1.1.cap,.slice (el i.ms (i2.i)).2.1.q (el i.ms (i2.i)).2.1.n (el i.ms (i2.i)).2.1.cap]) ((i2.i)*2) (λF h9=>h9.1.2) O rfl KW I λj v hv=>Jc (f:=pV) (l:=i.ms) pU O hv)<|Qc M4 λb20=>QJE I<|QR (vs:=[_,_]) I I I KW I .here .h2 wT<|QJC<|QG<|KR (r:=[0,1,2,3,4,5,6,7,8,9,10,11]) tE mixed wm rfl<|Jk 0 wm rfl rfl<|QK (wH I KW .here)<|Q9<|Jk 1 wm rfl rfl<|QK (QD I)<|Q9<|Jk 2 wm rfl rfl<|QK (QD I)<|Q9 ?_
  refine Jk 3 wm rfl rfl<|QK (Q6 (n:=ne) (i2.i) (λF h9=>h9.1.1.1.1.1.1.1.1.1.1.1.2.2) rfl rfl Z6 JR O)<|Q9<|Jk 4 wm rfl rfl<|QK (JA (n:=ne) ((i2.i)*1) (λF h9=>h9.1.1.1.1.1.1.1.1.1.1.1.2.2) O rfl JR (Xa (f:=tx) (l:=es) O))<|Q9<|Kr (A:=[9]) (r:=[5,6,7,8,10,11]) wm<|XH 5 wm wm wy tE w9 rfl rfl rfl (λ_=>rfl) (λ_ _ f k=>yy (c:=el i.ms i2.i) (v:=(el i.acc i2.i).2.1) (u:=(el i.acc i2.i).2.2) (s:=el es i2.i) f k.1.1.1.1.1.1.1.1.1.1.1.1 (k.1.1.2.ms _ O).1 (k.1.1.2.ms _ O).2 O O hsz.2.1 hsz.2.2) λc87=>C7 6 wm wm wy tE tA rfl wy (λ_=>QD I)<|C7 7 wm wm wy tE tA rfl wy (λ_=>QX I I)<|C7 8 wm wm wy tE tA rfl wy (λ_=>QX I I)<|K1 9 (d:=21) (T:=145) wm wm wy tE tA wm wm Wh λb21=>Zl (vs:=[_,_,_]) 10 wm wm wy (.cons _ tE) tA rfl rfl (λ_=>rfl) (λ_=>rfl) rfl Xz I .here tE .h3 wU<|C7 11 wm wm wy (.cons _ tE) tA rfl wy (λ_=>QF I) ?_
  refine Vd ?_ wm;refine QKs 8 I ?_;refine QO I (λhc2=>?_) λhc2=>?_
  ·have hL:LL (el i.acc i2.i)=true:=by
    cases e:LL (el i.acc i2.i)with
    |true=>rfl
    |false=>rw[show(Jv (el i.acc i2.i).2.1||Jv (el i.acc i2.i).2.2)=false from e]at hc2;cases hc2
   have hany:=vP hlt2 hL;refine wA 8 I ?_
   repeat first|refine Q4 ?_|refine Qy ?_
   exact JY (((⟨none,0,0⟩,[]):Sr×List Vp)) I (wO I I) (by rw[h34,aC,hend,Hb,if_pos hany,show(Jv (el i.acc i2.i).2.1||Jv (el i.acc i2.i).2.2)=true from hL]<;>rfl) λF h9=>by rw[h34,aC,hend,Hb,if_pos hany,if_pos hany];exact Sv.nil F
  have hL:(Jv (el i.acc i2.i).2.1||Jv (el i.acc i2.i).2.2)=false:=by
   cases e:(Jv (el i.acc i2.i).2.1||Jv (el i.acc i2.i).2.2)with
   |false=>rfl
   |true=>rw[e]at hc2;cases hc2
  rw[hL];refine QKr 4 I<|QA (wI I Xz .here)<|Qb I (Qz DB) Xz Wh I I λb95=>?_
  refine Ys (bs1:=[_,_]) (ob:=i2.ob) (n:=i2.i) (k:=1) (sz:=3) (news:=(dG ⟨el es i2.i,c87.1,Nz (el i.acc i2.i).2.1,c87.2,Nz (el i.acc i2.i).2.2⟩)) I I DB Xz Wh I QCZ i2.hr (Src.row (off:=0) tB (λj q hq=>by rw[au];rw[aV];exact hq) rfl) O O (λv hv=>by simp only[dG,aE,ax,or_false]at hv;rcases hv with rfl | rfl | rfl<;>rfl) (λv96 ob96 hr96=>?_);refine wB 2 I<|Qk<|QC<|QB<|QA (Qv I I O)<|wB 2 I ?_
  exact Ql (i2.next hlt2 ⟨el es i2.i,c87.1,Nz (el i.acc i2.i).2.1,c87.2,Nz (el i.acc i2.i).2.2⟩ hr96 hL (by show(el es i2.i,_,_)=(Jh (el i.acc i2.i).1,_,_);rw[hej,<-(XI hce).1])) (by show es.length-(i2.i+1)<es.length-i2.i;omega) wW ((.cons _ (.cons _ QJZ))) (λF ⟨⟨⟨⟨⟨⟨⟨⟨⟨⟨⟨⟨⟨⟨hGl,hy,hR⟩,_⟩,_⟩,_⟩,_⟩,hs31⟩,_⟩,h37⟩,h38⟩,hS⟩,hrow⟩,hW⟩,h87⟩,hs95⟩=>⟨⟨⟨⟨⟨⟨⟨⟨⟨⟨⟨⟨hGl,hy,hR⟩,trivial⟩,trivial⟩,trivial⟩,trivial⟩,hs31⟩,trivial⟩,h37⟩,h38⟩,hS⟩,hrow⟩,λbx hb=>by
     rcases List.mem_append.1 hb with hb | hb
     ·exact hW bx hb
     rw[List.mem_singleton.1 hb];exact⟨Bf.Oh h87.1,Bf.Oh h87.2⟩⟩)
 have hge2:i2.i=i.acc.length:=by have:=QKd hc2;have:=i2.le;omega
 have hno:i.acc.any LL=false:=LH λj hj=>i2.no j O;refine Q2 ?_
 repeat first|refine QY ?_|refine QP wy ?_
 refine QZ<|QKs 3 I ?_
 have hxl2:=i2.len;obtain⟨⟨rq2,rn2,rc2⟩,hv3,hrn2,hrc2,hfix2⟩:=Q7.fix (w0:=w) (F0:=F) (bs1:=[]) (G:=_) i2.hr;dsimp only at hrn2 hrc2 hfix2;subst hrn2;refine YB hfix2 ?_;rw[hv3];dsimp only[Sr.v];refine QKq 6 I ?_;exact JY (((⟨rq2,i2.i,rc2⟩,i2.bs):Sr×List Vp)) I (wO I I) (by rw[h34,aC,hend,Hb,hno]<;>rfl) λF h9=>by rw[h34,aC,hend,Hb,hno];exact⟨⟨h9.2,hxl2,h9.1.2⟩,by have e:=i2.d;rw[hge2,av]at e;exact e,hrc2⟩
def Cl.zero(d b:Nat):Cl Q d b 0:=⟨0,by rw[Rat.zero_divInt],wz⟩
theorem Cl.one(d b:Nat)(h0:0<Q):Cl Q d b 1:=⟨((Q^d:Nat):Int),by
 have hq:((Q^d:Nat):Int)≠0:=wk (bm (n:=d) h0);rw[Rat.divInt_self' hq],by rw[aY];exact bJ _ (bm wu)⟩
theorem Sz{P:Rat->Prop}:∀(l:List Rat) (s:Rat×Rat),P s.1->P s.2->(∀x∈l,P x)->P (l.foldl ZN s).1/\P (l.foldl ZN s).2
 |[],s,h1,h2,_=>⟨h1,h2⟩
 |x::l,s,h1,h2,h=>by
  have hx:=h x wz;exact Sz l (ZN s x) (by unfold ZN;dsimp only;split<;>assumption) (by unfold ZN;dsimp only;split<;>assumption) λy hy=>h y (by simp[hy])
def K3(Q d b:Nat)(x:Rat×Rat):Prop:=Cl Q d b x.1/\Cl Q d b x.2
section
variable{Q d b e c:Nat}{x y:Rat×Rat}(h0:0<Q)
include h0
theorem K3.mono(h:K3 Q d b x)(hd:d<=e)(hb:b<=c):K3 Q e c x:=⟨h.1.mono h0 hd hb,h.2.mono h0 hd hb⟩
theorem K3.add(h:K3 Q d b x)(k:K3 Q d b y):K3 Q d (b+1) (Z0 x y):=⟨h.1.add h0 k.1,h.2.add h0 k.2⟩
theorem K3.times(h:K3 Q d b x)(k:K3 Q e c y):K3 Q (d+e) (b+c) (JE x y):=by
 have h11:=h.1.mul h0 k.1;have h12:=h.1.mul h0 k.2;have h21:=h.2.mul h0 k.1;have h22:=h.2.mul h0 k.2;exact Sz (P:=Cl Q (d+e) (b+c)) _ _ h11 h11 λz hz=>by
  simp only[aE,ax,or_false]at hz;rcases hz with rfl | rfl | rfl<;>assumption
theorem K3.O3(h:K3 Q d b x):Xb x (b+d*sz (Q:Int)+2):=⟨h.1.JQ h0,h.2.JQ h0⟩
theorem K3.zero:K3 Q d b (0,0):=⟨.zero d b,.zero d b⟩
def Ms(Q al be d b:Nat)(a:List Jr):Prop:=∀k,k<a.length->K3 Q (al*k+d) (be*k+b) (el a k)
variable{al be:Nat}{a a':List Jr}
theorem Ms.mono{d' b':Nat}(h:Ms Q al be d b a)(hd:d<=d')(hb:b<=b'):Ms Q al be d' b' a:=λk hk=>(h k hk).mono h0 O O
theorem Cx(ha:Ms Q al be d b a)(hb:Ms Q al be e c a'){k:Nat}(hk:k<a.length)(hl:a.length<=a'.length):∀i,i<=k+1->K3 Q (al*k+(d+e)) (be*k+(b+c)+i) (Hl a a' k i):=by
 intro i
 induction i with
 |zero=>intro _;exact K3.zero h0
 |succ i ih =>
  intro hi;rw[R5];have h1:=ih O;have h2:=K3.times h0 (ha i O) (hb (k-i) O);have e1:al*i+al*(k-i)=al*k:=by rw[<-ep];congr 1;omega
  have e2:be*i+be*(k-i)=be*k:=by rw[<-ep];congr 1;omega
  exact K3.add h0 h1 (h2.mono h0 (c:=be*k+(b+c)+i) O O)
theorem zA(ha:Ms Q al be d b a)(hb:Ms Q al be e c a')(hl:a.length<=a'.length)(hL:a.length<=L):Ms Q al be (d+e) (b+c+L) (VP a a'):=λk hk=>by
 rw[P7]at hk;unfold VP;rw[YP _ hk];exact(Cx h0 ha hb hk hl (k+1) (aa _)).mono h0 (aa _) O
theorem pJ(ha:Ms Q al be d b a)(hb:Ms Q al be d b a')(hl:a.length<=a'.length):Ms Q al be d (b+1) (BM a a'):=λk hk=>by
 rw[MT]at hk;unfold BM;rw[YP _ hk];exact K3.add h0 (ha k hk) (hb k O)
theorem vA{r:Rat}(h:Cl Q 1 b r):Ms Q al be 1 b (VK r n):=λk hk=>by
 rw[Y0]at hk
 match k,hk with
 |0,_=>show K3 Q (al*0+1) (be*0+b) (r,r);rw[aG,au,aG,au];exact⟨h,h⟩
 |k+1,hk =>
  have e1:el (VK r n) (k+1)=(0,0):=by rw[Ja (by rw[Y0];exact hk)];simp[VK]
  rw[e1];exact K3.zero h0
theorem vI{t:Jr}(h:K3 Q 1 b t):Ms Q al be 1 b (ZX t n):=λk hk=>by
 rw[Ew]at hk
 match n,k,hk with
 |0,0,_=>show K3 Q (al*0+1) (be*0+b) t;rw[aG,au,aG,au];exact h
 |n+1,0,_=>show K3 Q (al*0+1) (be*0+b) t;rw[aG,au,aG,au];exact h
 |n+1,1,_=>exact⟨.one _ _ h0,.one _ _ h0⟩
 |n+1,k+2,hk =>
  have e1:el (ZX t (n+1)) (k+2)=(0,0):=by rw[Ja (by rw[Ew];exact hk)];simp[ZX]
  rw[e1];exact K3.zero h0
theorem yH{y z:List Jr}(hy:Ms Q al be d b y)(hz:Ms Q al be 1 B z)(hl:y.length<=z.length)(hL:y.length<=L):∀i,Ms Q al be (d+i) (b+i*(B+L)) (Ni y z i):=by
 intro i
 induction i with
 |zero=>rw[aZ,bH,aZ];exact hy
 |succ i ih =>
  rw[TG];have h1:=zA h0 (L:=L) ih hz (by rw[BL];exact hl) (by rw[BL];exact hL);refine h1.mono h0 O ?_;rw[aB];omega
def KD(ks:List Int):Nat->Nat
 |0=>0
 |v+1=>KD ks v+(Qm ks v).toNat
omit h0 in
theorem MO(ks:List Int){v w:Nat}(h:v<=w):KD ks v<=KD ks w:=by
 induction w with
 |zero=>rw[Nat.le_zero.1 h];exact aa _
 |succ w ih =>
  rcases ef v (w+1)with g | g
  ·exact ag (ih O) (bh _ _)
  rw[Nat.le_antisymm h g];exact aa _
theorem yu{r:Rat}{ks:List Int}{all:List (List Jr)}(hr:Cl Q 1 B r)(ha:∀v,v<all.length->Ms Q al be 1 B (el all v)/\(el all v).length=n+1)(hL:n+1<=L):∀v,v<=all.length->Ms Q al be (1+KD ks v) (B+KD ks v*(B+L)) (W8 r ks all n v):=by
 intro v
 induction v with
 |zero=>intro _;show Ms Q al be (1+0) (B+0*(B+L)) (VK r n);rw[aZ,bH,aZ];exact vA h0 hr
 |succ v ih =>
  intro hv;have h1:=ha v hv;rw[TW];have h2:=yH h0 (L:=L) (ih O) h1.1 (by rw[Kl,h1.2];exact aa _) (by rw[Kl];exact hL) (Qm ks v).toNat;refine h2.mono h0 (by show 1+KD ks v+_<=1+(KD ks v+_);omega) ?_;show B+KD ks v*(B+L)+_<=B+(KD ks v+_)*(B+L);rw[aB];omega
theorem US{p:List Tm}{all:List (List Jr)}(hp:∀u∈p,Cl Q 1 B u.1/\KD u.2 all.length<=D)(ha:∀v,v<all.length->Ms Q al be 1 B (el all v)/\(el all v).length=n+1)(hL:n+1<=L):∀j,j<=p.length->Ms Q al be (1+D) (B+D*(B+L)+j) (KS (p.take j) all n):=by
 intro j
 induction j with
 |zero=>intro _;exact(vA h0 (b:=0) (.zero 1 0)).mono h0 O O
 |succ j ih =>
  intro hj;have hu:=hp _ (Q3 hj);rw[RN hj];have h1:=yu h0 (ks:=(el p j).2) hu.1 ha hL all.length (aa _);have h2:KD (el p j).2 all.length*(B+L)<=D*(B+L):=af _ hu.2;exact pJ h0 (ih O) (h1.mono h0 (b':=B+D*(B+L)+j) O O) (by rw[KH,Kl];exact aa _)
theorem Ms.O3(h:Ms Q al be d b a)(hl:a.length<=n+1){M:Nat}(hM:be*n+b+(al*n+d)*sz (Q:Int)+2<=M):∀x∈a,Xb x M:=λx hx=>by
 obtain⟨k,hk,rfl⟩:=ar hx;rw[<-Ja hk];have h1:=K3.O3 h0 (h k hk);have h2:be*k<=be*n:=ah _ O;have h3:(al*k+d)*sz (Q:Int)<=(al*n+d)*sz (Q:Int):=af _ (by have:al*k<=al*n:=ah _ O;omega);exact h1.mono O
end
structure j8(Q B D T n:Nat)(rs:List (List Tm))(t:Jr)(vb:List Jr):Prop where
 q0:0<Q
 inv:∀k,k<n->Cl Q 1 0 ((((k+1:Nat):Int):Rat)⁻¹)
 Uz:∀i,i<rs.length->∀u∈el rs i,Cl Q 1 B u.1/\KD u.2 (vb.length+1)<=D/\u.2.length=vb.length+1/\∀k∈u.2,0<=k/\k<=1000
 len:∀i,i<rs.length->(el rs i).length<=T
 tm:K3 Q 1 B t
 box:∀x∈vb,K3 Q 1 B x
 hn:rs.length=vb.length
def W3{rs:List (List Tm)}{t:Jr}(k:Nat):(ZX t k::Jt rs t vb k).length=vb.length+1:=by rw[aF,VQ]
theorem UL{rs:List (List Tm)}{t:Jr}(h:j8 Q B D T n rs t vb):∀k,k<=n->∀i,i<vb.length->Ms Q (D+1) (D*(B+(n+1))+T) 1 B (el (Jt rs t vb k) i):=by
 intro k
 induction k with
 |zero =>
  intro _ i hi;have e1:el (Jt rs t vb 0) i=[el vb i]:=by
   show el (vb.map λx=>[x]) i=_;rw[Ja (by rw[ae];exact hi),bc,Ja hi]
  rw[e1];intro j hj;have hj0:j=0:=by simpa using hj
  subst hj0;rw[aG,au,aG,au];exact h.box _ (Q3 hi)
 |succ k ih =>
  intro hk i hi;have ih:=ih O;have e1:el (Jt rs t vb (k+1)) i=el (Jt rs t vb k) i++[JE (el (KS (el rs i) (ZX t k::Jt rs t vb k) k) k) ((((k+1:Nat):Int):Rat)⁻¹,(((k+1:Nat):Int):Rat)⁻¹)]:=by
   rw[Jt,YP _ hi]
  have hl:(el (Jt rs t vb k) i).length=k+1:=KY rs t vb k hi;have ha:∀v,v<(ZX t k::Jt rs t vb k).length->Ms Q (D+1) (D*(B+(n+1))+T) 1 B (el (ZX t k::Jt rs t vb k) v)/\(el (ZX t k::Jt rs t vb k) v).length=k+1:=λv hv=>by
   rw[W3]at hv
   match v,hv with
   |0,_=>exact⟨vI h.q0 h.tm,Ew t k⟩
   |v+1,hv=>exact⟨ih v O,KY rs t vb k O⟩
  rw[e1];intro j hj;rw[aP,hl]at hj;rcases ef j (k+1)with g | g
  ·rw[U8 O];exact ih i hi j O
  have hjk:j=k+1:=by simp at hj;omega
  subst hjk;rw[G4 hl];have hir:i<rs.length:=by rw[h.hn];exact hi
  have h1:=US h.q0 (L:=n+1) (D:=D) (p:=el rs i) (λu hu=>⟨(h.Uz i hir u hu).1,by rw[W3];exact(h.Uz i hir u hu).2.1⟩) ha O (el rs i).length (aa _);rw[av]at h1;have h2:=h1 k (by rw[KH];omega);have hT:=h.len i hir;have h3:=K3.times h.q0 h2 (y:=((((k+1:Nat):Int):Rat)⁻¹,(((k+1:Nat):Int):Rat)⁻¹)) ⟨h.inv k O,h.inv k O⟩;refine h3.mono h.q0 ?_ ?_
  ·rw[aT];omega
  rw[aT];omega
def AF{rs:List (List Tm)}{t:Jr}(h:j8 Q B D T n rs t vb){k:Nat}(hk:k<=n):∀v,v<(ZX t k::Jt rs t vb k).length->Ms Q (D+1) (D*(B+(n+1))+T) 1 B (el (ZX t k::Jt rs t vb k) v)/\(el (ZX t k::Jt rs t vb k) v).length=k+1:=λv hv=>by
 rw[W3]at hv
 match v,hv with
 |0,_=>exact⟨vI h.q0 h.tm,Ew t k⟩
 |v+1,hv=>exact⟨UL h k hk v O,KY rs t vb k O⟩
def tyM(Q B D T n:Nat):Nat:=(D*(B+(n+1))+T)*n+(2*B+D*(B+(n+1))+T+n+1)+((D+1)*n+(D+2))*sz (Q:Int)+2
theorem j8.ok{rs:List (List Tm)}{t:Jr}(h:j8 Q B D T n rs t vb)(hM:tyM Q B D T n<=20000000):AK rs t vb n:=by
 unfold tyM at hM;have hq:∀u w:Nat,u<=w->u*sz (Q:Int)<=w*sz (Q:Int):=λu w g=>af _ g;have hm:∀k,k<n->∀i,i<rs.length->∀u∈el rs i,∀v,v<=vb.length+1->Ms Q (D+1) (D*(B+(n+1))+T) (1+KD u.2 v) (B+KD u.2 v*(B+(n+1))) (W8 u.1 u.2 (ZX t k::Jt rs t vb k) k v):=λk hk i hi u hu v hv =>
  yu h.q0 (L:=n+1) (h.Uz i hi u hu).1 (AF h O) O v (by rw[W3];exact hv)
 have hs:∀i,i<rs.length->∀u∈el rs i,∀v,v<=vb.length+1->KD u.2 v<=D/\KD u.2 v*(B+(n+1))<=D*(B+(n+1)):=λi hi u hu v hv=>by
  have h1:=ag (MO u.2 hv) (h.Uz i hi u hu).2.1;exact⟨h1,af _ h1⟩
 refine⟨λk hk i hi u hu=>⟨⟨by rw[W3];exact(h.Uz i hi u hu).2.2.1,(h.Uz i hi u hu).2.2.2⟩,λv hv j hj=>?_⟩,λk hk i hi u hu=>?_,λk hk i hi j=>?_,λk hk i hi=>?_⟩
 ·rw[(h.Uz i hi u hu).2.2.1]at hv;have h1:=hm k hk i hi u hu v O;have h2:=AF h (k:=k) O v (by rw[W3];exact hv);have h3:=yH h.q0 (L:=n+1) h1 h2.1 (by rw[Kl,h2.2];exact aa _) (by rw[Kl];omega) j;have h4:=hs i hi u hu (v+1) hv;have h5:KD u.2 v+j<=KD u.2 (v+1):=by show _<=KD u.2 v+_;omega
  have h6:KD u.2 v*(B+(n+1))+j*(B+(n+1))<=D*(B+(n+1)):=by rw[<-aB];exact af _ O
  have h7:=h3.mono h.q0 (d':=1+D) (b':=B+D*(B+(n+1))) O O;have hlen:(Ni (W8 u.1 u.2 (ZX t k::Jt rs t vb k) k v) (el (ZX t k::Jt rs t vb k) v) j).length=k+1:=by rw[BL,Kl]
  have q1:=hq ((D+1)*n+(1+D)) ((D+1)*n+(D+2)) O;have q2:=hq ((D+1)*n+1) ((D+1)*n+(D+2)) O;have q3:=hq ((D+1)*n+(1+D+1)) ((D+1)*n+(D+2)) O;refine⟨λm hmk=>⟨?_,?_⟩,λm hmk i2 hi2=>?_⟩
  ·exact h7.O3 h.q0 (n:=n) O O _ (Q3 hmk)
  ·exact h2.1.O3 h.q0 (n:=n) O O _ (Q3 O)
  have h8:=K3.O3 h.q0 (Cx h.q0 h7 h2.1 hmk O i2 hi2);refine h8.mono ?_;have g1:(D*(B+(n+1))+T)*m<=(D*(B+(n+1))+T)*n:=ah _ O;have g2:((D+1)*m+(1+D+1))*sz (Q:Int)<=((D+1)*n+(1+D+1))*sz (Q:Int):=hq _ _ (by have:(D+1)*m<=(D+1)*n:=ah _ O;omega);omega
 ·have h1:=hm k hk i hi u hu (vb.length+1) (aa _);have h4:=hs i hi u hu (vb.length+1) (aa _);have q1:=hq ((D+1)*n+(1+D)) ((D+1)*n+(D+2)) O;exact(h1.mono h.q0 (d':=1+D) (b':=B+D*(B+(n+1))) O O).O3 h.q0 (n:=n) (by rw[Kl];omega) O
 ·have q1:=hq ((D+1)*n+(1+D)) ((D+1)*n+(D+2)) O;have hT:=h.len i hi;have hj:(el rs i).take j=(el rs i).take (min j (el rs i).length):=by rw[bK]
  rw[hj];have h1:=US h.q0 (L:=n+1) (D:=D) (p:=el rs i) (n:=k) (λu hu=>⟨(h.Uz i hi u hu).1,by rw[W3];exact(h.Uz i hi u hu).2.1⟩) (AF h O) O (min j (el rs i).length) (aR _ _);exact h1.O3 h.q0 (n:=n) (by rw[KH];omega) (wk<|aR j (el rs i).length)
 have q1:=hq ((D+1)*n+(1+D)) ((D+1)*n+(D+2)) O;have hT:=h.len i hi;have h1:=US h.q0 (L:=n+1) (D:=D) (p:=el rs i) (n:=k) (λu hu=>⟨(h.Uz i hi u hu).1,by rw[W3];exact(h.Uz i hi u hu).2.1⟩) (AF h O) O (el rs i).length (aa _);rw[av]at h1;exact h1.O3 h.q0 (n:=n) (by rw[KH];omega) O _ (Q3 (by rw[KH];omega))
def cY:JQ 0<=2:=wu
theorem FT{a:Rat×Rat}{n:Int}(ha:Xb a m):Xb (Kf a n) (n.toNat*m+1):=by
 have h1:JQ (a.1^n.toNat)<=n.toNat*m+1:=ag (Wt _ _) (bO (ah _ ha.1) _);have h2:JQ (a.2^n.toNat)<=n.toNat*m+1:=ag (Wt _ _) (bO (ah _ ha.2) _);have h3:=NR (r:=a.1^n.toNat) (l:=[a.2^n.toNat]) h1 (λx hx=>by rw[List.mem_singleton.1 hx];exact h2);refine⟨?_,h3.2⟩;unfold Kf;dsimp only;split
 ·exact ag (show JQ 0<=1 by decide) (bC _ _)
 exact h3.1
structure gD(Z D T m:Nat)(p:List Tm):Prop where
 len:p.length<=T
 Uz:∀u∈p,JQ u.1<=Z
 sum:∀u∈p,KD u.2 m<=D
 pl:∀u∈p,u.2.length=m
 pw:∀u∈p,∀k∈u.2,0<=k/\k<=12
theorem xr{p:List Tm}(h:gD Z D T m p)(hb:bs.length=m)(hS:∀x∈bs,Xb x S){u:Tm}(hu:u∈p):∀i,i<=m->Xb (K7 (u.1,u.1) bs u.2 i) (Z+KD u.2 i*(S+1)):=by
 intro i
 induction i with
 |zero=>intro _;show Xb (u.1,u.1) (Z+0*(S+1));exact⟨ag (h.Uz u hu) O,ag (h.Uz u hu) O⟩
 |succ i ih =>
  intro hi;have ih:=ih O;rw[Wo];show Xb _ (Z+(KD u.2 i+(Qm u.2 i).toNat)*(S+1));rw[aB];split
  ·rename_i hg;have h1:=FT (n:=Qm u.2 i) (hS _ (Q3 (show i<bs.length by omega)));have h2:=K9 ih h1;refine h2.mono ?_;have h3:1<=(Qm u.2 i).toNat:=O;rw[aT (Qm u.2 i).toNat];omega
  exact ih.mono O
def Cp{p:List Tm}(h:gD Z D T m p)(hb:bs.length=m)(hS:∀x∈bs,Xb x S):∀k,k<=p.length->Xb (J5 bs (p.take k)) (2+k*(Z+D*(S+1)+2)):=by
 intro k
 induction k with
 |zero=>intro _;exact⟨ag cY (bh _ _),ag cY (bh _ _)⟩
 |succ k ih =>
  intro hk;have ih:=ih O;have hu:=Q3 (show k<p.length by omega);have h1:=xr h hb hS hu (el p k).2.length (by rw[h.pl _ hu];exact aa _);have h2:KD (el p k).2 (el p k).2.length*(S+1)<=D*(S+1):=af _ (by rw[h.pl _ hu];exact h.sum _ hu);rw[Rt hk];have h3:=YC (J5 bs (p.take k)).1 (K7 ((el p k).1,(el p k).1) bs (el p k).2 (el p k).2.length).1;have h4:=YC (J5 bs (p.take k)).2 (K7 ((el p k).1,(el p k).1) bs (el p k).2 (el p k).2.length).2;rw[aB];exact⟨by show JQ (_+_)<=_;have:=ih.1;have:=h1.1;omega,by show JQ (_+_)<=_;have:=ih.2;have:=h1.2;omega⟩
def qD(Z D T S:Nat):Nat:=2+T*(Z+D*(S+1)+2)
def GV{p:List Tm}(h:gD Z D T m p)(hb:bs.length=m)(hS:∀x∈bs,Xb x S):Xb (J5 bs p) (qD Z D T S):=by
 have h1:=Cp h hb hS p.length (aa _);rw[av]at h1;have h2:p.length*(Z+D*(S+1)+2)<=T*(Z+D*(S+1)+2):=af _ h.len;exact h1.mono (by unfold qD;omega)
def dX(ks:List Int){j m:Nat}(h:j<m):(Qm ks j).toNat<=KD ks m:=ag (show _<=KD ks (j+1)from bC _ _) (MO ks h)
theorem El{p:List Tm}(h:gD Z D T m p)(hb:bs.length=m)(hm:m<=1000)(hS:∀x∈bs,Xb x S)(hS1:S<=1000000)(hZ:Z<=1000000)(hM:qD Z D T S<=10000000)(hD:Z+D*(S+1)+1<=10000000):Ov bs p:=by
 refine⟨λx hx=>(hS x hx).mono hS1,λu hu=>ag (h.Uz u hu) hZ,λu hu=>⟨by rw[h.pl u hu,hb];exact aa _,by rw[h.pl u hu];exact hm,h.pw u hu⟩,λu hu i hi=>?_,λu hu i hi=>?_,λk=>?_⟩
 ·rw[h.pl u hu]at hi;have h1:=xr h hb hS hu i hi;have h2:KD u.2 i*(S+1)<=D*(S+1):=af _ (ag (MO u.2 hi) (h.sum u hu));exact h1.mono O
 ·rw[h.pl u hu]at hi;have h1:=FT (n:=Qm u.2 i) (hS _ (Q3 (show i<bs.length by omega)));have h2:(Qm u.2 i).toNat*S<=D*(S+1):=bZ (ag (dX u.2 hi) (h.sum u hu)) O;exact h1.mono O
 rw[bK];have h1:=Cp h hb hS (min k p.length) (aR _ _);have h2:min k p.length*(Z+D*(S+1)+2)<=T*(Z+D*(S+1)+2):=af _ (ag (aR _ _) h.len);unfold qD at hM;exact h1.mono O
def yt{rs:List (List Tm)}(h:i<x.length):el (Zt rs fr t2 x on) i=Z0 (el x i) (JE (0,t2-fr) (J5 ((fr,t2)::on) (el rs i))):=by unfold Zt;rw[YP _ h]
structure MvC(Z D T m St:Nat)(rs:List (List Tm))(fr t2:Rat):Prop where
 po:∀i,i<rs.length->gD Z D T (m+1) (el rs i)
 hn:rs.length=m
 f:JQ fr<=St
 t:JQ t2<=St
theorem OB{St X:Nat}{rs:List (List Tm)}(h:MvC Z D T m St rs fr t2)(hx:x.length=m)(ho:on.length=m)(hX:∀v∈x,Xb v X)(hS:∀v∈on,Xb v S)(hSt:St<=S):∀v∈Zt rs fr t2 x on,Xb v (X+(2*St+1+qD Z D T S)+1):=λv hv=>by
 obtain⟨i,hi,rfl⟩:=ar hv;rw[Z5]at hi;rw[<-Ja (by rw[Z5];exact hi),yt hi];have hir:i<rs.length:=by rw[h.hn];omega
 have h1:=GV (h.po i hir) (bs:=(fr,t2)::on) (by rw[aF,ho]) (λy hy=>by
  rcases List.mem_cons.1 hy with rfl | hy
  ·exact⟨ag h.f hSt,ag h.t hSt⟩
  exact hS y hy)
 have h2:=Bm t2 fr;have hf:=h.f;have ht:=h.t;have h3:Xb ((0:Rat),t2-fr) (2*St+1):=⟨ag (show JQ 0<=1 by decide) (bC _ _),by show JQ (t2-fr)<=_;omega⟩;have h4:=K9 h3 h1;have h5:=hX _ (Q3 hi);have h6:=YC (el x i).1 (JE (0,t2-fr) (J5 ((fr,t2)::on) (el rs i))).1;have h7:=YC (el x i).2 (JE (0,t2-fr) (J5 ((fr,t2)::on) (el rs i))).2;exact⟨by show JQ (_+_)<=_;have:=h4.1;have:=h5.1;omega,by show JQ (_+_)<=_;have:=h4.2;have:=h5.2;omega⟩
theorem Ue{St X:Nat}{rs:List (List Tm)}(h:MvC Z D T m St rs fr t2)(hx:x.length=m)(ho:on.length=m)(hX:∀v∈x,Xb v X)(hS:∀v∈on,Xb v S)(hSt:St<=S)(hm:m<=900)(hS1:S<=1000000)(hX1:X<=10000000)(hZ:Z<=1000000)(hM:qD Z D T S<=10000000)(hD:Z+D*(S+1)+1<=10000000):vj rs fr t2 x on:=by
 have hb:∀y∈(fr,t2)::on,Xb y S:=λy hy=>by
  rcases List.mem_cons.1 hy with rfl | hy
  ·exact⟨ag h.f hSt,ag h.t hSt⟩
  exact hS y hy
 exact⟨λi hi=>El (h.po i hi) (by rw[aF,ho]) O hb hS1 hZ hM hD,λi hi=>(GV (h.po i hi) (by rw[aF,ho]) hb).mono hM,⟨ag h.f O,ag h.t O⟩,λa ha=>(hX a ha).mono hX1⟩
def dP{St X:Nat}{rs:List (List Tm)}(h:MvC Z D T m St rs fr t2)(hx:x.length=m)(hX:∀v∈x,Xb v X)(hSt:St<=X)(hSt2:St<=2400)(hm:m<=900)(hX1:X<=900000)(hZ:Z<=900000)(hM:qD Z D T X<=900000)(hM2:qD Z D T 2400<=900000)(hD:Z+D*(X+1)+1<=10000000)(hD2:Z+D*(2400+1)+1<=10000000):Ol rs fr t2 x:=by
 refine⟨λa ha=>(hX a ha).mono O,Ue h hx hx hX hX hSt hm O O O O hD,λa ha=>(OB h hx hx hX hX hSt a ha).mono O,λv hv hs=>Ue h hx O hX hs hSt2 hm O O O O hD2,λv hv hs a ha=>(OB h hx O hX hs hSt2 a ha).mono O⟩
theorem AK.less{rs:List (List Tm)}{t:Rat×Rat}{vb:List (Rat×Rat)}(h:AK rs t vb n)(hm:m<=n):AK rs t vb m :=
 ⟨λk hk=>h.tm k O,λk hk=>h.mn k O,λk hk=>h.sm k O,λk hk=>h.cf k O⟩
def Cl.pow{b:Nat}{x:Rat}(h0:0<Q)(h:Cl Q 1 b x):∀k,Cl Q k (k*b) (x^k)
 |0=>by rw[Rat.pow_zero,bH];exact .one 0 0 h0
 |k+1=>by
  rw[Rat.pow_succ,aB,ek];exact(Cl.pow h0 h k).mul h0 h
def K3.pt{d b:Nat}{x:Rat}(h:Cl Q d b x):K3 Q d b (x,x):=⟨h,h⟩
def bE(B D T n:Nat):Nat:=D*(B+(n+1+1))+T+(B+1)
def zO{rs:List (List Tm)}{h:Rat}(hc:j8 Q B D T (n+1) rs (fr,fr) x)(hh:Cl Q 1 (B+1) h){i:Nat}(hi:i<x.length):∀k,k<=n+1->K3 Q ((D+2)*n+1) (bE B D T n*n+B+k) (Ho (el (Jt rs (fr,fr) x n) i) h k):=by
 intro k
 induction k with
 |zero=>intro _;exact K3.zero hc.q0
 |succ k ih =>
  intro hk;have ih:=ih O;have h1:=UL hc n O i hi k (by rw[KY rs _ x n hi];exact hk);have h2:=K3.times hc.q0 h1 (.pt (hh.pow hc.q0 k));rw[MN];refine K3.add hc.q0 ih (h2.mono hc.q0 (e:=(D+2)*n+1) (c:=bE B D T n*n+B+k) ?_ ?_)
  ·have e:(D+1)*k+1+k=(D+2)*k+1:=by rw[show D+2=D+1+1 from rfl,aB (D+1) 1];omega
   rw[e];have:(D+2)*k<=(D+2)*n:=ah _ O;omega
  have e:(D*(B+(n+1+1))+T)*k+B+k*(B+1)=bE B D T n*k+B:=by unfold bE;rw[aB (D*(B+(n+1+1))+T),bI k];omega
  have:bE B D T n*k<=bE B D T n*n:=ah _ O;show(D*(B+(n+1+1))+T)*k+B+k*(B+1)<=_;omega
def gC(D n:Nat):Nat:=(D+2)*(n+1)+1
def qO(B D T n:Nat):Nat:=bE B D T n*(n+1)+B+(n+1)
def uA{rs:List (List Tm)}{t:Rat×Rat}{h:Rat}(hc:j8 Q B D T (n+1) rs t on)(hh:Cl Q 1 (B+1) h){i:Nat}(hi:i<on.length):K3 Q (gC D n) (qO B D T n) (JE (el (el (Jt rs t on (n+1)) i) (n+1)) (h^(n+1),h^(n+1))):=by
 have h1:=UL hc (n+1) (aa _) i hi (n+1) (by rw[KY rs _ on (n+1) hi];omega);have h2:=K3.times hc.q0 h1 (.pt (hh.pow hc.q0 (n+1)));refine h2.mono hc.q0 ?_ ?_
 ·unfold gC;rw[show D+2=D+1+1 from rfl,aB (D+1) 1];omega
 unfold qO bE;rw[aB (D*(B+(n+1+1))+T),bI (n+1) (B+1)];omega
def qN{rs:List (List Tm)}(h:i<x.length):el (Zw rs fr t2 x on n) i=Z0 (Ho (el (Jt rs (fr,fr) x n) i) (t2-fr) (n+1)) (JE (el (el (Jt rs (fr,t2) on (n+1)) i) (n+1)) ((t2-fr)^(n+1),(t2-fr)^(n+1))):=by unfold Zw;rw[YP _ h]
theorem zD{rs:List (List Tm)}(hx:j8 Q B D T (n+1) rs (fr,fr) x)(ho:j8 Q B D T (n+1) rs (fr,t2) on)(hh:Cl Q 1 (B+1) (t2-fr))(hl:on.length=x.length):∀s∈Zw rs fr t2 x on n,K3 Q (gC D n) (qO B D T n+1) s:=λs hs=>by
 have hlen:(Zw rs fr t2 x on n).length=x.length:=by simp[Zw]
 obtain⟨i,hi,rfl⟩:=ar hs;rw[<-Ja hi];rw[hlen]at hi;rw[qN hi];have h1:=zO hx hh hi (n+1) (aa _);have h2:=uA ho hh (i:=i) O;refine K3.add hx.q0 (h1.mono hx.q0 ?_ ?_) h2
 ·unfold gC;rw[aT];omega
 unfold qO;rw[aT];omega
def LQ(Q B D T n:Nat):Nat:=qO B D T n+1+gC D n*sz (Q:Int)+2
theorem O2{Q:Nat}{rs:List (List Tm)}(hx:j8 Q B D T (n+1) rs (fr,fr) x)(ho:j8 Q B D T (n+1) rs (fr,t2) on)(hh:Cl Q 1 (B+1) (t2-fr))(hl:on.length=x.length)(hM:tyM Q B D T (n+1)<=10000000)(hT:LQ Q B D T n<=10000000)(hB:B+sz (Q:Int)<=900000):vd rs fr t2 x on n/\∀s∈Zw rs fr t2 x on n,Xb s 10000000:=by
 have hM0:=hM;unfold tyM at hM0;have hs:=hx.q0;have q1:((D+1)*(n+1)+1)*sz (Q:Int)<=((D+1)*(n+1)+(D+2))*sz (Q:Int):=af _ O;have sz1:∀(t:Rat×Rat) (y:List (Rat×Rat)),j8 Q B D T (n+1) rs t y->∀m,m<=n+1->∀i,i<y.length->∀k,k<=m->Xb (el (el (Jt rs t y m) i) k) 10000000:=λt y hy m hm i hi k hk =>
  (UL hy m hm i hi).O3 hs (n:=n+1) (by rw[KY rs _ y m hi];omega) O _ (Q3 (by rw[KY rs _ y m hi];omega))
 refine⟨⟨(hx.ok O).less O,ho.ok O,λi hi k hk=>sz1 _ x hx n O i hi k hk,λi hi=>sz1 _ on ho (n+1) (aa _) i O (n+1) (aa _),λi hi k hk=>?_,λk hk=>?_,?_,?_⟩,λs hs2=>?_⟩
 ·have h1:=(zO hx hh hi k hk).O3 hs;refine h1.mono ?_;unfold LQ qO gC at hT;have g1:bE B D T n*n<=bE B D T n*(n+1):=ah _ O;have g2:((D+2)*n+1)*sz (Q:Int)<=((D+2)*(n+1)+1)*sz (Q:Int):=af _ (by have:(D+2)*n<=(D+2)*(n+1):=ah _ O;omega);omega
 ·have h1:=(hh.pow hs k).JQ hs;unfold LQ qO gC bE at hT;have g1:k*(B+1)<=(D*(B+(n+1+1))+T+(B+1))*(n+1):=by rw[bI k];exact bZ O hk
  have g2:k*sz (Q:Int)<=((D+2)*(n+1)+1)*sz (Q:Int):=af _ (by rw[aB];omega);omega
 ·have h1:=hh.JQ hs;omega
 ·have h1:=hx.tm.1.JQ hs;have h2:=ho.tm.2.JQ hs;dsimp only at h1 h2;exact⟨O,O⟩
 have h1:=(zD hx ho hh hl s hs2).O3 hs;refine h1.mono ?_;unfold LQ at hT;omega
theorem F8(a b:Jr):OL a b=true↔b.1<=a.1/\a.2<=b.2:=by
 unfold OL;rw[aj,decide_eq_true_eq,decide_eq_true_eq];have h:∀x y:Rat,Z7 x y<=0↔x<=y:=λx y=>by unfold Z7;split<;>(try split)<;>grind
 rw[h,h]
def Ed(a b:List Jr):T8 a b=true↔∀i,i<a.length->(el b i).1<=(el a i).1/\(el a i).2<=(el b i).2:=by
 unfold T8;rw[ao];exact⟨λh i hi=>(F8 _ _).1 (h i (List.mem_range.2 hi)),λh i hi=>(F8 _ _).2 (h i (List.mem_range.1 hi))⟩
theorem uK{a b c:List Jr}(h:Nf a b)(k:T8 b c=true):T8 a c=true:=by
 rw[Ed]at k ⊢;intro i hi;obtain⟨h1,h2,h3⟩:=h.2 i hi;obtain⟨k1,k2⟩:=k i (h.1 ▸ hi);exact⟨aA k1 h1,aA h3 k2⟩
def NK{x y:Rat}(h:x<=y)(i:Nat):YK x i<=YK y i:=by
 have hp:=IF i;unfold YK;refine ai ?_ (aO hp);refine Rat.intCast_le_intCast.2 (aX ?_);rw[bj,bj];exact ai h (aO (Rat.inv_pos.2 hp))
def GN(a:Jr)(b:Int):Xe (Xe a b) b=Xe a b:=by
 rw[Nk,Nk];dsimp only;rw[Rat.neg_neg];unfold YK;rw[Fh,Fh,aQ,aQ]
theorem BO{a:Jr}(h:a.1<=a.2)(b:Int):Zc a (Xe a b):=by
 rw[Nk];have h1:=(BV a.1 b.toNat).1;have h2:=(Pn a.2 b.toNat).1;exact⟨by show YK _ _<=_;grind,h,by show _<=-YK _ _;grind⟩
theorem TO{a c:Jr}(h:Zc a c)(b:Int):Zc (Xe a b) (Xe c b):=by
 rw[Nk,Nk];obtain⟨h1,h2,h3⟩:=h;refine⟨NK h1 _,QBk h2 _,?_⟩;have:=NK (show -c.2<=-a.2 by grind) b.toNat;show -YK _ _<=-YK _ _
 grind
def MW(l:List Jr):Prop:=∀i,i<l.length->(el l i).1<=(el l i).2
theorem MW.sub{l:List Jr}(h:MW l):Nf l l:=⟨rfl,λi hi=>Zc.self (h i hi)⟩
theorem Nf.ord{a b:List Jr}(h:Nf a b):MW a:=λi hi=>(h.2 i hi).2.1
def BR(rs:List (List Tm))(fr t2:Rat)(x on:List Jr):(Zt rs fr t2 x on).length=x.length:=by simp[Zt]
def GP(f:Jr->Jr->Jr)(a b:List Jr):(DZ f a b).length=a.length:=by simp[DZ]
def Em(f:Jr->Jr->Jr)(a b:List Jr){i:Nat}(h:i<a.length):el (DZ f a b) i=f (el a i) (el b i):=by unfold DZ;rw[YP _ h]
def GH{β:Type}[Inhabited α][Inhabited β](f:α->β){l:List α}{i:Nat}(h:i<l.length):el (l.map f) i=f (el l i):=by
 rw[Ja (by simpa using h),Ja h,bc]
def j7(rs:List (List Tm))(n:Nat):Prop:=∀i,i<n->∀t∈el rs i,t.2.length<=n+1/\∀k∈t.2,0<=k
theorem TV{rs:List (List Tm)}{x on o2:List Jr}(hx:MW x)(ho:Nf on o2)(hl:on.length=x.length)(ht:fr<=t2)(hr:j7 rs x.length):Nf (Zt rs fr t2 x on) (Zt rs fr t2 x o2):=by
 unfold Zt;refine Nf.of λi hi=>xU (Zc.self (hx i hi)) (ML (Zc.self (by show(0:Rat)<=t2-fr;grind)) ?_);exact Tg (rs:=(fr,t2)::on) (bs:=(fr,t2)::o2) (by simpa[hl]using hr i hi) λj hj=>by
  cases j with
  |zero=>exact Zc.self ht
  |succ j=>exact ho.2 j (by simpa using hj)
theorem BU{a b:Jr}(h:a.1<=a.2):(Jq a b).1<=a.1/\a.2<=(Jq a b).2/\(Jq a b).1<=b.1/\b.2<=(Jq a b).2:=by
 have c:∀x y:Rat,Z7 x y<=0↔x<=y:=λx y=>by unfold Z7;split<;>(try split)<;>grind
 have c2:∀x y:Rat,Z7 x y>=0↔y<=x:=λx y=>by unfold Z7;split<;>(try split)<;>grind
 unfold Jq TX TY;dsimp only;simp only[c,c2];refine⟨?_,?_,?_,?_⟩<;>(split<;>grind)
def onG(l:List Jr)(b:Int):Prop:=MW l/\∀i,i<l.length->Xe (el l i) b=el l i
def Hh{a:Jr}(h:a.1<=a.2)(b:Int):(Xe a b).1<=(Xe a b).2:=(TO (Zc.self h) b).2.1
def Ai(b:Int):0<=(((two b:Int):Rat))⁻¹:=aO (Rat.inv_pos.2 (by
 have:0<two b:=bS wu;exact Rat.intCast_lt_intCast.2 this))
theorem EA{v n:Jr}(h:v.1<=v.2):(Vb b v n).1<=(Vb b v n).2:=by
 unfold Vb;refine Hh ?_ b;dsimp only;have h1:=BU (a:=v) (b:=n) h;have h2:=Ai b;have h3:0<=((Jq v n).2-(Jq v n).1)*aD 1 4:=Rat.mul_nonneg (by grind) wv
 grind
theorem Al{rs:List (List Tm)}{x W:List Jr}(hx:MW x)(ht:fr<=t2)(hr:j7 rs x.length):∀(k:Nat) (v:List Jr),v.length=x.length->onG v b->DE rs fr t2 x b k v=some W ->
  ∃v,v.length=x.length/\onG v b/\Jv v=false/\Nf W v/\T8 (Zt rs fr t2 x W) W=true
 |0,_,_,_,h=>by simp[DE]at h
 |k+1,v,hl,hg,h=>by
  unfold DE at h;by_cases h1:Jv v=true
  ·rw[if_pos h1]at h;cases h
  rw[if_neg h1]at h;by_cases h2:T8 (Zt rs fr t2 x v) v=true
  ·rw[if_pos h2]at h;obtain rfl:(Zt rs fr t2 x v).map (Xe · b)=W:=by simpa using h
   have hn:=TV hx hg.1.sub hl ht hr;have hWv:Nf ((Zt rs fr t2 x v).map (Xe · b)) v:=⟨by rw[ae,BR,hl],λi hi=>by
    rw[ae]at hi;rw[GH _ hi];rw[Ed]at h2;obtain⟨k1,k2⟩:=h2 i hi;have:=TO (b:=b) (show Zc (el (Zt rs fr t2 x v) i) (el v i)from⟨k1,hn.ord i hi,k2⟩)
    rwa [hg.2 i (by rw[hl,<-BR rs fr t2 x v];exact hi)]at this⟩
   refine⟨v,hl,hg,by simpa using h1,hWv,?_⟩;have h3:=TV hx hWv (by rw[ae,BR]) ht hr;refine uK h3 ((Ed _ _).2 λi hi=>?_);rw[GH _ hi];have:=BO (hn.ord i hi) b;exact⟨this.1,this.2.2⟩
  rw[if_neg h2]at h;refine Al hx ht hr k _ (by rw[GP,hl]) ⟨λi hi=>?_,λi hi=>?_⟩ h
  ·rw[GP]at hi;rw[Em _ _ _ hi];exact EA (hg.1 i hi)
  rw[GP]at hi;rw[Em _ _ _ hi];unfold Vb;exact GN _ _
theorem CQ{rs:List (List Tm)}{x W:List Jr}(hx:MW x)(ht:fr<=t2)(hr:j7 rs x.length)(h:YX rs fr t2 x b=some W):
  ∃v,v.length=x.length/\onG v b/\Jv v=false/\Nf W v/\T8 (Zt rs fr t2 x W) W=true:=by
 refine Al hx ht hr 12 _ (by rw[GP]) ⟨λi hi=>?_,λi hi=>?_⟩ h
 ·rw[GP]at hi;rw[Em _ _ _ hi];exact Hh (by have:=BU (b:=el (Zt rs fr t2 x x) i) (hx i hi);have:=hx i hi;grind) b
 rw[GP]at hi;rw[Em _ _ _ hi];exact GN _ _
def Rn{x:Rat}{c:Int}(h : -(c:Rat)<=x/\x<=(c:Rat)): -c<=x.floor/\x.floor<=c:=by
 have h1:=aX h.2;have h2:=aX h.1;rw[aQ]at h1;rw[<-bz,aQ]at h2;exact⟨h2,h1⟩
def QBv{Q z:Int}(hq:Q≠0):aD z Q*(Q:Rat)=(z:Rat):=by
 have hq':(Q:Rat)≠0:=λh=>hq (Rat.intCast_inj.1 (by simpa using h));rw[bW,bj,ee,Rat.inv_mul_cancel _ hq',ei]
theorem mgQ{Q z c:Int}(hq:0<Q)(h : -(c:Rat)<=aD z Q/\aD z Q<=(c:Rat)): -(c*Q)<=z/\z<=c*Q:=by
 have hq':(0:Rat)<=(Q:Rat):=aO ((aS (a:=0) (b:=Q)).2 hq);have h1:=ai h.1 hq';have h2:=ai h.2 hq';rw[QBv O]at h1 h2;rw[<-bz,<-aK]at h1;rw[<-aK]at h2;have g1:=Rat.intCast_le_intCast.1 h1;have g2:=Rat.intCast_le_intCast.1 h2;rw[er]at g1;exact⟨g1,g2⟩
theorem yx{Q z c:Int}(hq:0<Q)(h : -(c*Q)<=z/\z<=c*Q): -(c:Rat)<=aD z Q/\aD z Q<=(c:Rat):=by
 have hq':(0:Rat)<(Q:Rat):=(aS (a:=0) (b:=Q)).2 hq;have e:∀x:Rat,x=x*(Q:Rat)*(Q:Rat)⁻¹:=λx=>by rw[ee,Rat.mul_inv_cancel _ (by grind),ei]
 have hi:(0:Rat)<=(Q:Rat)⁻¹:=aO (Rat.inv_pos.2 hq');constructor
 ·rw[e (aD z Q),QBv O,e (-(c:Rat))];refine ai ?_ hi;rw[<-bz,<-aK];exact Rat.intCast_le_intCast.2 (by rw[er];exact h.1)
 rw[e (aD z Q),QBv O,e (c:Rat)];refine ai ?_ hi;rw[<-aK];exact Rat.intCast_le_intCast.2 h.2
def AY(k:Nat)(r:Rat):Prop:=-(((2^k:Int)):Rat)<=r/\r<=((2^k:Int):Rat)
def yN(k:Nat):(0:Int)<2^k:=bS wu
theorem Cl.mg{d:Nat}{r:Rat}(h0:0<Q)(h:Cl Q d k r):AY k r:=by
 obtain⟨z,rfl,hz⟩:=h;have hq:0<((Q^d:Nat):Int):=wk (bm (n:=d) h0);refine yx hq ?_;have e:(2^k:Int)*((Q^d:Nat):Int)=((2^k*Q^d:Nat):Int):=by rw[aN,aM 2 k];rfl
 rw[e];omega
theorem Cl.small{d:Nat}{r:Rat}(h0:0<Q)(h:Cl Q 1 d r)(hm:AY k r):Cl Q 1 k r:=by
 obtain⟨z,rfl,hz⟩:=h;have hq:0<((Q^1:Nat):Int):=wk (bm (n:=1) h0);refine⟨z,rfl,?_⟩;have h1:=mgQ hq hm;have e:(2^k:Int)*((Q^1:Nat):Int)=((2^k*Q^1:Nat):Int):=by rw[aN,aM 2 k];rfl
 rw[e]at h1;omega
theorem Sf{r:Rat}(h:JQ r<=k):AY k r:=by
 have h1:sz r.num<=k:=ag (bB _ _) h;rw[XE]at h1;have h2:=yx (Q:=(r.den:Int)) (z:=r.num) (c:=2^k) (wk r.den_pos) (by
  have e:(2^k:Int)=((2^k:Nat):Int):=by rw[aM];rfl
  have h3:(2^k:Int)*1<=2^k*(r.den:Int):=Int.mul_le_mul_of_nonneg_left (wk r.den_pos) (Int.le_of_lt (yN k));rw[e]at h3 ⊢;omega)
 rw[Rat.num_divInt_den]at h2;exact h2
def Gx{a b r:Rat}(ha:AY k a)(hb:AY k b)(h1:a<=r)(h2:r<=b):AY k r:=⟨aA ha.1 h1,aA h2 hb.2⟩
theorem yf{a:Rat×Rat}(h0:0<Q)(hd:2^b.toNat ∣ Q)(h:AY k a.1/\AY k a.2):K3 Q 1 k (Xe a b):=by
 obtain⟨q,rfl⟩:=hd;have hq:0<q:=bV (by rintro rfl;simp at h0);have e:two b=((2^b.toNat:Nat):Int):=by unfold two;rw[aM];rfl
 have hT:0<two b:=bS wu;have key:∀p:Int,(-(2^k*two b)<=p/\p<=2^k*two b)->Cl (2^b.toNat*q) 1 k (aD p (two b)):=λp hp=>by
  refine⟨p*q,?_,?_⟩
  ·rw[bw,aN,<-e,bN O]
  rw[bw,Int.natAbs_mul,aY,<-Nat.mul_assoc];refine af _ ?_;have e2:(2:Int)^k*two b=((2^k*2^b.toNat:Nat):Int):=by rw[e,aN,aM 2 k];rfl
  rw[e2]at hp;omega
 have hTq:(0:Rat)<=((two b:Int):Rat):=aO ((aS (a:=0) (b:=two b)).2 hT);have mul:∀x:Rat,AY k x->-(((2^k*two b:Int)):Rat)<=x*((two b:Int):Rat)/\x*((two b:Int):Rat)<=((2^k*two b:Int):Rat):=λx hx=>by
  rw[aK];have m1:=ai hx.1 hTq;have m2:=ai hx.2 hTq;rw[Rat.neg_mul]at m1;exact⟨m1,m2⟩
 refine⟨key _ (Rn (mul _ h.1)),key _ ?_⟩;have:=Rn (c:=2^k*two b) (x:=-(a.2*((two b:Int):Rat))) (by have:=mul _ h.2;constructor<;>grind);omega
def UF{rs:List (List Tm)}{x:List Jr}:∀(k:Nat) (v W:List Jr),DE rs fr t2 x b k v=some W->W.length=x.length/\∀a∈W,∃c,a=Xe c b
 |0,v,W,h=>by cases h
 |k+1,v,W,h=>by
  unfold DE at h;by_cases h1:Jv v=true
  ·rw[if_pos h1]at h;cases h
  rw[if_neg h1]at h;by_cases h2:T8 (Zt rs fr t2 x v) v=true
  ·rw[if_pos h2]at h;cases h;refine⟨by rw[ae,BR],λa ha=>?_⟩;obtain⟨c,_,rfl⟩:=List.mem_map.1 ha;exact⟨c,rfl⟩
  rw[if_neg h2]at h;exact UF k _ W h
def QBl(c:Rat×Rat){b:Int}(h0:0<Q)(hd:2^b.toNat ∣ Q):∃k,K3 Q 1 k (Xe c b):=by
 have h1:AY (max (JQ c.1) (JQ c.2)) c.1:=Sf (bB _ _);have h2:AY (max (JQ c.1) (JQ c.2)) c.2:=Sf (Nat.le_max_right _ _);exact⟨_,yf h0 hd ⟨h1,h2⟩⟩
theorem Cq{bs:List Jr}{l:List Tm}(hl:∀t∈l,t.2.length<=bs.length/\∀k∈t.2,0<=k)(hb:MW bs):(J5 bs l).1<=(J5 bs l).2 :=
 (Tg hl λi hi=>Zc.self (hb i hi)).2.1
structure jx(Q Z D T m n:Nat)(b:Int)(rs:List (List Tm)):Prop where
 q0:0<Q
 hb:0<=b/\b<=64
 dy:2^b.toNat ∣ Q
 inv:∀k,k<n+1->Cl Q 1 0 ((((k+1:Nat):Int):Rat)⁻¹)
 po:∀i,i<rs.length->gD Z D T (m+1) (el rs i)
 fd:∀i,i<rs.length->∀u∈el rs i,u.1.den ∣ Q
 hn:rs.length=m
 hm:m<=900
 hZ:Z<=2400
 n1:tyM Q 2400 D T (n+1)<=10000000
 n2:LQ Q 2400 D T n<=850000
 n3:2400+sz (Q:Int)<=800000
 n4:qD Z D T (LQ Q 2400 D T n)<=900000
 n5:Z+D*(LQ Q 2400 D T n+1)+1<=10000000
def kY{S':Nat}(h:S<=S'):qD Z D T S<=qD Z D T S':=by
 unfold qD;have h1:D*(S+1)<=D*(S'+1):=ah _ O;have h2:T*(Z+D*(S+1)+2)<=T*(Z+D*(S'+1)+2):=ah _ O;omega
structure XOk(Q D T m n:Nat)(x:List Jr):Prop where
 len:x.length=m
 ord:MW x
 cl:∀a∈x,K3 Q 1 (qO 2400 D T n+1) a
structure TmC(Q:Nat)(t:Rat):Prop where
 cl:Cl Q 1 2400 t
 sz:JQ t<=2400
theorem jx.fit{rs:List (List Tm)}(h:jx Q Z D T m n b rs):j7 rs m:=λi hi t ht=>by
 have hp:=h.po i (by rw[h.hn];exact hi);exact⟨by rw[hp.pl t ht];exact aa _,λk hk=>(hp.pw t ht k hk).1⟩
theorem jx.ty{rs:List (List Tm)}(h:jx Q Z D T m n b rs){t:Jr}{y:List Jr}(ht:K3 Q 1 2400 t)(hl:y.length=m)(hy:∀a∈y,K3 Q 1 2400 a):j8 Q 2400 D T (n+1) rs t y where
 q0:=h.q0
 inv:=h.inv
 Uz:=λi hi u hu=>by
  have hp:=h.po i hi;refine⟨Cl.of u.1 h.q0 (h.fd i hi u hu) (ag (ag (bB _ _) (hp.Uz u hu)) h.hZ),by rw[hl];exact hp.sum u hu,by rw[hl];exact hp.pl u hu,λk hk=>⟨(hp.pw u hu k hk).1,wk<|(hp.pw u hu k hk).2⟩⟩
 len:=λi hi=>(h.po i hi).len
 tm:=ht
 box:=hy
 hn:=by rw[h.hn,hl]
def QBK(Q B D T n:Nat):B+1+1*sz (Q:Int)+2<=LQ Q B D T n:=by
 unfold LQ qO gC;have h1:1*sz (Q:Int)<=((D+2)*(n+1)+1)*sz (Q:Int):=af _ O;omega
theorem pS{rs:List (List Tm)}{x W:List Jr}(hx:x.length=m)(hW:W.length=m)(hi:i<m)(hr:j7 rs m)(hxo:MW x)(hWo:MW W)(ht:fr<=t2):ZW (el x i).1 (el (Zt rs fr t2 x W) i)/\ZW (el x i).2 (el (Zt rs fr t2 x W) i):=by
 rw[yt O];have ho:(J5 ((fr,t2)::W) (el rs i)).1<=(J5 ((fr,t2)::W) (el rs i)).2:=Cq (by rw[aF,hW];exact hr i hi) λj hj=>by
  cases j with
  |zero=>exact ht
  |succ j=>exact hWo j (by simpa using hj)
 have h0:=Z2 (x:=0) (y:=(J5 ((fr,t2)::W) (el rs i)).1) (a:=(0,t2-fr)) (b:=J5 ((fr,t2)::W) (el rs i)) ⟨bM,by show(0:Rat)<=t2-fr;grind⟩ ⟨bM,ho⟩;rw[Rat.zero_mul]at h0;have hxi:=hxo i O;unfold ZW Z0 at *
 dsimp only;obtain⟨a1,a2⟩:=h0;refine⟨⟨?_,?_⟩,?_,?_⟩<;>grind
theorem xF(rs:List (List Tm))(fr t2:Rat)(x on:List Jr)(n:Nat):∀s∈Zw rs fr t2 x on n,s.1<=s.2:=λs hs=>by
 have hlen:(Zw rs fr t2 x on n).length=x.length:=by simp[Zw]
 obtain⟨i,hi,rfl⟩:=ar hs;rw[<-Ja hi];rw[hlen]at hi;rw[qN hi];have h1:∀k,(Ho (el (Jt rs (fr,fr) x n) i) (t2-fr) k).1<=(Ho (el (Jt rs (fr,fr) x n) i) (t2-fr) k).2:=by
  intro k
  induction k with
  |zero=>exact bM
  |succ k ih =>
   rw[MN];have:=MM (el (el (Jt rs (fr,fr) x n) i) k) ((t2-fr)^k,(t2-fr)^k);show _+_<=_+_
   grind
 have h2:=h1 (n+1);have h3:=MM (el (el (Jt rs (fr,t2) on (n+1)) i) (n+1)) ((t2-fr)^(n+1),(t2-fr)^(n+1));show _+_<=_+_
 grind
theorem N4{rs:List (List Tm)}{x:List Jr}(h:jx Q Z D T m n b rs)(hx:XOk Q D T m n x)(hf:TmC Q fr)(ht:TmC Q t2)(hle:fr<=t2):vg rs fr t2 x n b/\∀p,Y4 rs fr t2 x n b=some p->XOk Q D T m n p.2:=by
 have hlt:=QBK Q 2400 D T n;have mv:MvC Z D T m 2400 rs fr t2:=⟨h.po,h.hn,hf.sz,ht.sz⟩;have n1:=h.n1;have n2:=h.n2;have n3:=h.n3;have n4:=h.n4;have n5:=h.n5;have hZ:=h.hZ;have hm:=h.hm;have hb:=h.hb;have hX:∀v∈x,Xb v (LQ Q 2400 D T n):=λv hv=>(K3.O3 h.q0 (hx.cl v hv)).mono (by
  unfold LQ gC;have h1:1*sz (Q:Int)<=((D+2)*(n+1)+1)*sz (Q:Int):=af _ O;omega)
 have hD2:D*(2400+1)<=D*(LQ Q 2400 D T n+1):=ah _ O;have htr:Ol rs fr t2 x:=dP mv hx.len hX O (aa _) hm O O n4 (ag (kY O) n4) n5 O;have key:∀W,YX rs fr t2 x b=some W->W.length=x.length/\(∀a∈W,K3 Q 1 2400 a)/\∀a∈x,K3 Q 1 2400 a:=λW hW=>by
  obtain⟨v,hvl,hvg,hvs,hWv,hg⟩:=CQ hx.ord hle (by rw[hx.len];exact h.fit) hW;have hWl:=(UF 12 _ W hW).1;have hWd:=(UF 12 _ W hW).2;have hsm:=Dv (v:=v) (by rw[hvs];simp);have hv:∀i,i<x.length->AY 2400 (el v i).1/\AY 2400 (el v i).2:=λi hi=>by
   have h1:=hsm _ (Q3 (show i<v.length by omega));exact⟨Sf h1.1,Sf h1.2⟩
  have hWm:∀i,i<x.length->AY 2400 (el W i).1/\AY 2400 (el W i).2:=λi hi=>by
   have h1:=hWv.2 i O;have h2:=hv i hi;exact⟨Gx h2.1 h2.2 h1.1 (aA h1.2.1 h1.2.2),Gx h2.1 h2.2 (aA h1.1 h1.2.1) h1.2.2⟩
  refine⟨hWl,λa ha=>?_,λa ha=>?_⟩
  ·obtain⟨c,hc⟩:=hWd a ha;obtain⟨i,hi,rfl⟩:=ar ha;rw[<-Ja hi]at hc ⊢;have h1:=hWm i O;obtain⟨k,hk⟩:=QBl c h.q0 h.dy;rw[<-hc]at hk;exact⟨hk.1.small h.q0 h1.1,hk.2.small h.q0 h1.2⟩
  have ha':=hx.cl a ha;obtain⟨i,hi,rfl⟩:=ar ha;rw[<-Ja hi]at ha' ⊢;have h1:=hWm i hi;have h2:=pS (rs:=rs) (fr:=fr) (t2:=t2) (i:=i) hx.len (hWl.trans hx.len) (by rw[<-hx.len];exact hi) h.fit hx.ord hWv.ord hle;have h3:=(Ed _ _).1 hg i (by rw[BR];exact hi);unfold ZW at h2;have m1:AY 2400 (el x i).1:=Gx h1.1 h1.2 (aA h3.1 h2.1.1) (aA h2.1.2 h3.2);have m2:AY 2400 (el x i).2:=Gx h1.1 h1.2 (aA h3.1 h2.2.1) (aA h2.2.2 h3.2);exact⟨ha'.1.small h.q0 m1,ha'.2.small h.q0 m2⟩
 have hh:Cl Q 1 (2400+1) (t2-fr):=by rw[bU];exact ht.cl.add h.q0 hf.cl.neg
 have tb:∀W,YX rs fr t2 x b=some W->(vd rs fr t2 x W n/\∀s∈Zw rs fr t2 x W n,Xb s 10000000)/\∀s∈Zw rs fr t2 x W n,K3 Q (gC D n) (qO 2400 D T n+1) s:=λW hW=>by
  obtain⟨k1,k2,k3⟩:=key W hW;have y1:=h.ty (t:=(fr,fr)) (.pt hf.cl) hx.len k3;have y2:=h.ty (t:=(fr,t2)) ⟨hf.cl,ht.cl⟩ (k1.trans hx.len) k2;exact⟨O2 y1 y2 hh k1 O O O,zD y1 y2 hh k1⟩
 refine⟨⟨htr,λW hW=>(tb W hW).1⟩,λp hp=>?_⟩;cases hv:YX rs fr t2 x b with
 |none=>rw[Br hv]at hp;cases hp
 |some W =>
  rw[Bp hv]at hp;cases hp;have hlen:(Zw rs fr t2 x W n).length=x.length:=by simp[Zw]
  refine⟨by show((Zw rs fr t2 x W n).map _).length=m;rw[ae,hlen,hx.len],λi hi=>?_,λa ha=>?_⟩
  ·have hi:i<((Zw rs fr t2 x W n).map (Xe · b)).length:=hi;rw[ae]at hi;show(el ((Zw rs fr t2 x W n).map (Xe · b)) i).1<=(el ((Zw rs fr t2 x W n).map (Xe · b)) i).2;rw[GH _ hi];exact Hh (xF rs fr t2 x W n _ (Q3 hi)) b
  obtain⟨s,hs,rfl⟩:=List.mem_map.1 ha;have h1:=(tb W hv).2 s hs;exact yf h.q0 h.dy ⟨h1.1.mg h.q0,h1.2.mg h.q0⟩
def QD4(Q:Nat):Rat->List Rat->Prop
 |_,[]=>True
 |fr,e::es=>(TmC Q e/\fr<=e)/\QD4 Q e es
def I6{rs:List (List Tm)}(h:jx Q Z D T m n b rs):∀(es:List Rat) (fr:Rat) (x:List Jr),XOk Q D T m n x->TmC Q fr->QD4 Q fr es->gQ rs n b fr x es
 |[],fr,x,_,_,_=>trivial
 |e::es,fr,x,hx,hf,ha=>by
  have h1:=N4 h hx hf ha.1.1 ha.1.2;exact⟨h1.1,λp hp=>I6 h es e p.2 (h1.2 p hp) ha.1.1 ha.2⟩
structure SmI{α:Type}(a b:List α) where
 i:Nat
 le:i<=a.length
 h:a.take i=b.take i
def SmI.step[Inhabited α]{a b:List α}(s:SmI a b)(h1:s.i<a.length)(h2:s.i<b.length)(e:el a s.i=el b s.i):a.take (s.i+1)=b.take (s.i+1):=by rw[XV h1,XV h2,s.h,e]
def SmI.done{a b:List α}(s:SmI a b)(hl:a.length=b.length)(h:s.i=a.length):a=b:=by
 have e:=s.h;rw[h,av,hl,av]at e;exact e
instance :Inhabited (List UInt8×List UInt8):=⟨([],[])⟩
theorem qW{la lb:List (List UInt8×List UInt8)}(hF:Fits F w)(ha:KM F ra la)(hb:KM F rb lb)(hn:ra.n<=1000000):Qe prog 86 [ra.v,rb.v] w F (.bool (decide (la=lb))):=by
 have hal:=ha.len;have hbl:=hb.len;refine QT.intro (G:=λF=>KM F ra la/\KM F rb lb) func86 rfl wy rfl rfl hF (λF' hF'=>⟨ha.le hF',hb.le hF'⟩)<|QKO<|wQ rfl<|QG<|wR rfl<|QA (Qg rfl XW)<|QJD rfl<|QA (Qg rfl XW)<|QA (QU rfl rfl rfl)<|QE<|QC ?_
 refine QO I (λhc=>?_) λhc=>?_
 ·have h10:=bne_iff_ne.1 hc;refine wA 6 I ?_;exact QKx I I (congrArg aI (decide_eq_false λe=>h10 (by rw[<-hal,<-hbl,e]))) w8
 have h10:=bne_eq_false_iff_eq.1 hc;refine QKr 9 I<|XM (ι:=SmI la lb) [(0,_),(1,_)] (λi=>[(5,.int .i64 ((i.i:Nat):Int))]) (λi=>la.length-i.i) (⟨0,aJ _,rfl⟩) wT wS λi=>?_
 simp only[ak,aq];have hi:=i.le;refine wA 5 I<|QA (Qg I XW)<|QKq 3 I ?_
 refine QO I (λhc=>?_) λhc=>?_
 ·have hlt:i.i<la.length:=wk<|QKc hc
  have hlt2:i.i<lb.length:=O;refine QKr 5 I<|JK QJZ mixed wm<|QK (QD I)<|QK (QD I)<|QK (Q6 (n:=ra.n) i.i (λF h9=>h9.1.row) rfl rfl XW J1 O)<|QK (JX (n:=ra.n) (vs:=[tx (el la i.i).1,tx (el la i.i).2]) ((i.i)*2) (λF h9=>h9.1.row) O rfl J1 I λj v hv=>Jc (f:=UH) (l:=la) Gn O hv)<|QK (QD I)<|QK (QD I)<|QK (Q6 (n:=rb.n) i.i (λF h9=>h9.2.row) rfl rfl XW J1 O)<|QK (JX (n:=rb.n) (vs:=[tx (el lb i.i).1,tx (el lb i.i).2]) ((i.i)*2) (λF h9=>h9.2.row) O rfl J1 I λj v hv=>Jc (f:=UH) (l:=lb) Gn O hv)<|QK (yB I I)<|Q5<|QC ?_
  refine QO I (λhc=>?_) λhc=>?_
  ·have hne:¬(el la i.i)=(el lb i.i):=λe=>by rw[e]at hc;simp at hc
   refine wA 6 I ?_
   repeat first|refine Q4 ?_|refine Qy ?_
   exact QKx I I (congrArg aI (decide_eq_false λe=>hne (congrArg (λl=>el l i.i) e))) w8
  have heq:(el la i.i)=(el lb i.i):=by simp at hc;exact Prod.ext hc.1 hc.2
  refine QN<|Qk<|QKs 3 I<|QA (Qv I I O)<|wB 2 I ?_
  exact Ql (⟨i.i+1,hlt,i.step hlt hlt2 heq⟩) (by show la.length-(i.i+1)<la.length-i.i;omega) wU QJZ w9
 have hge:i.i=la.length:=by have:=QKd hc;have:=i.le;omega
 refine Q2 ?_
 repeat first|refine QY ?_|refine QP wy ?_
 refine QZ<|QKs 7 I ?_
 exact QKx I I (congrArg aI (decide_eq_true (i.done O hge))) w8
theorem Lr{la lb:List (List UInt8)}(hF:Fits F w)(ha:Qw F ra.q ra.n 1 (la.map tx))(hb:Qw F rb.q rb.n 1 (lb.map tx))(hal:la.length=ra.n)(hbl:lb.length=rb.n)(hn:ra.n<=1000000):Qe prog 19 [ra.v,rb.v] w F (.bool (decide (la=lb))):=by
 refine QT.intro (G:=λF=>Qw F ra.q ra.n 1 (la.map tx)/\Qw F rb.q rb.n 1 (lb.map tx)) func19 rfl wy rfl rfl hF (λF' hF'=>⟨ha.le hF',hb.le hF'⟩)<|QKO<|wQ rfl<|QG<|wR rfl<|QA (Qg rfl Z6)<|QJD rfl<|QA (Qg rfl Z6)<|QA (QU rfl rfl rfl)<|QE<|QC ?_
 refine QO I (λhc=>?_) λhc=>?_
 ·have h10:=bne_iff_ne.1 hc;refine wA 6 I ?_;exact QKx I I (congrArg aI (decide_eq_false λe=>h10 (by rw[<-hal,<-hbl,e]))) w8
 have h10:=bne_eq_false_iff_eq.1 hc;refine QKr 9 I<|XM (ι:=SmI la lb) [(0,_),(1,_)] (λi=>[(5,.int .i64 ((i.i:Nat):Int))]) (λi=>la.length-i.i) (⟨0,aJ _,rfl⟩) wT wS λi=>?_
 simp only[ak,aq];have hi:=i.le;refine wA 5 I<|QA (Qg I Z6)<|QKq 3 I ?_
 refine QO I (λhc=>?_) λhc=>?_
 ·have hlt:i.i<la.length:=wk<|QKc hc
  have hlt2:i.i<lb.length:=O;refine QKr 5 I<|JK QJZ mixed wm<|QK (QD I)<|QK (QD I)<|QK (Q6 (n:=ra.n) i.i tA rfl rfl Z6 JR O)<|QK (JA (n:=ra.n) ((i.i)*1) tA O rfl JR (Xa (f:=tx) (l:=la) O))<|QK (QD I)<|QK (QD I)<|QK (Q6 (n:=rb.n) i.i tB rfl rfl Z6 JR O)<|QK (JA (n:=rb.n) ((i.i)*1) tB O rfl JR (Xa (f:=tx) (l:=lb) O))<|QK (L1 I I)<|Q5<|QC ?_
  refine QO I (λhc=>?_) λhc=>?_
  ·have hne:¬(el la i.i)=(el lb i.i):=bne_iff_ne.1 hc;refine wA 6 I ?_
   repeat first|refine Q4 ?_|refine Qy ?_
   exact QKx I I (congrArg aI (decide_eq_false λe=>hne (congrArg (λl=>el l i.i) e))) w8
  have heq:(el la i.i)=(el lb i.i):=bne_eq_false_iff_eq.1 hc;refine QN<|Qk<|QKs 3 I<|QA (Qv I I O)<|wB 2 I ?_
  exact Ql (⟨i.i+1,hlt,i.step hlt hlt2 heq⟩) (by show la.length-(i.i+1)<la.length-i.i;omega) wU QJZ w9
 have hge:i.i=la.length:=by have:=QKd hc;have:=i.le;omega
 refine Q2 ?_
 repeat first|refine QY ?_|refine QP wy ?_
 refine QZ<|QKs 7 I ?_
 exact QKx I I (congrArg aI (decide_eq_true (i.done O hge))) w8
structure Nw(F:Gs)(y:ZR)(nl:List (List UInt8))(rl:List Pt)(sl:List (List UInt8×List UInt8)):Prop where
 r:ZZ F y
 t:HM y
 n:y.nl=nl
 p:y.rl.map (λe=>YQ e.2)=rl
 s:y.sl=sl
theorem Nw.e{nl:List (List UInt8)}{sl:List (List UInt8×List UInt8)}(h:Nw F y nl rl sl):y.e=DF nl rl sl:=by unfold ZR.e;rw[h.n,h.p,h.s]
def Nw.rs{nl:List (List UInt8)}{sl:List (List UInt8×List UInt8)}(h:Nw F y nl rl sl):y.rs=rl.map X3:=by unfold ZR.rs;rw[<-h.p,List.map_map];rfl
def Nw.vs{nl:List (List UInt8)}{sl:List (List UInt8×List UInt8)}(h:Nw F y nl rl sl):y.vs=sl.map JG:=by unfold ZR.vs;rw[h.s]
def Nw.nn{nl:List (List UInt8)}{sl:List (List UInt8×List UInt8)}(h:Nw F y nl rl sl):y.nm.n=nl.length:=by rw[<-h.r.gI,h.n]
theorem FY{p:Int}{s:List UInt8}(hF:Fits F w)(hs:s.length<=1000000):QT prog 77 [.int .i64 p,tx s] w F (λ(c:ZR)=>c.v) (λc F=>Nw F c [[120]] [[([49],[0,p])]] [(s,s)]):=by
 refine QT.intro (G:=λF=>True) func77 rfl wy rfl rfl hF w8<|QKO<|Qc LZ λb4=>QJC<|QKO<|Qb rfl (Qz Kx) Dk z_9 rfl rfl λb5=>QJD rfl<|Qb rfl (Qz JB) JO Pp rfl rfl λb7=>QA (Qx rfl ER Gi (wP rfl rfl rfl))<|Qb rfl (Qz VR) Kv Gi rfl rfl λb9=>Qb rfl (Qz DC) D4 QDR rfl rfl λb10=>QJD rfl<|QJD rfl<|QA (Qx rfl Zk Xh (wP rfl rfl rfl))<|Qb rfl (Qz XW) J1 Xh rfl rfl λb14=>QA (Qx rfl gm LZ (.cons (vs:=[_]) rfl rfl rfl .h1 (.cons (vs:=[_]) rfl rfl rfl (.skip .h1) (.cons (vs:=[_]) rfl rfl rfl (.skip (.skip .h1)) .nil))))<|QR (vs:=[_,_,_]) rfl rfl rfl XA rfl .here .h3 wU<|QJC<|QW ?_
 exact QQ ((⟨⟨some ⟨b5,0,none⟩,1,1⟩,[[120]],⟨some ⟨b10,0,none⟩,1,1⟩,[j5 b9 [LN [49] b7 [0,p]]],⟨some ⟨b14,0,none⟩,1,1⟩,[(s,s)]⟩:ZR)) I (.JZ (c:=[_,_,_]) I XA .here .nil) (rfl) λF h9=>⟨⟨Qw.of h9.1.1.1.1.2 I,Qw.of h9.1.2 I,λe he=>by rw[List.mem_singleton.1 he];exact⟨Qw.of h9.1.1.2 I,λt ht=>by rw[List.mem_singleton.1 ht];exact Kc (k:=[0,p]) h9.1.1.1.2⟩,Qw.of h9.2 I,rfl,rfl,rfl⟩,⟨(by show 1<=1000000;decide),aa _,λs hs=>by rw[List.mem_singleton.1 hs];decide,(by show 1<=1000000;decide),λe he=>by rw[List.mem_singleton.1 he];exact⟨rfl,λt ht=>by rw[List.mem_singleton.1 ht];exact⟨(by show 1<=1000000;decide),(by show 2<=1000000;decide)⟩,(by show 1<=1000000;decide)⟩,(by show 1<=1000000;decide),λs2 hs2=>by rw[List.mem_singleton.1 hs2];exact⟨hs,hs⟩⟩,rfl,rfl,rfl⟩
theorem GZ(hF:Fits F w):QT prog 84 [] w F (λ(c:ZR)=>c.v) (λc F=>Nw F c [[120],[118]] [[([49],[0,0,1])],[([45,49],[0,1,0])]] [([49],[49]),([48],[48])]):=by
 refine QT.intro (G:=λF=>True) func84 rfl wy rfl rfl hF w8<|QKO<|Qc LZ λb0=>QJC<|QKO<|Qb rfl (Qz Kx) Dk z_9 rfl rfl λb1=>Qb rfl (Qz JB) JO Pp rfl rfl λb2=>QA (Qx rfl ER Gi (wP rfl rfl rfl))<|Qb rfl (Qz VR) Kv Gi rfl rfl λb4=>Qb rfl (Qz JB) JO Pp rfl rfl λb5=>QA (Qx rfl ER Gi (wP rfl rfl rfl))<|Qb rfl (Qz VR) Kv Gi rfl rfl λb7=>Qb rfl (Qz DC) D4 QDR rfl rfl λb8=>QA (Qx rfl Zk Xh (wP rfl rfl rfl))<|QA (Qx rfl Zk Xh (wP rfl rfl rfl))<|Qb rfl (Qz XW) J1 Xh rfl rfl λb11=>QA (Qx rfl gm LZ (.cons (vs:=[_]) rfl rfl rfl .h1 (.cons (vs:=[_]) rfl rfl rfl (.skip .h1) (.cons (vs:=[_]) rfl rfl rfl (.skip (.skip .h1)) .nil))))<|QR (vs:=[_,_,_]) rfl rfl rfl XA rfl .here .h3 wU<|QJC<|QW ?_
 exact QQ ((⟨⟨some ⟨b1,0,none⟩,2,2⟩,[[120],[118]],⟨some ⟨b8,0,none⟩,2,2⟩,[j5 b4 [LN [49] b2 [0,0,1]],j5 b7 [LN [45,49] b5 [0,1,0]]],⟨some ⟨b11,0,none⟩,2,2⟩,[([49],[49]),([48],[48])]⟩:ZR)) I (.JZ (c:=[_,_,_]) I XA .here .nil) (rfl) (λF ⟨⟨⟨⟨⟨⟨⟨hT,hs1⟩,hs2⟩,hs4⟩,hs5⟩,hs7⟩,hs8⟩,hs11⟩=>⟨⟨Qw.of hs1 rfl,Qw.of hs8 rfl,λe he=>by
    simp only[aE,ax,or_false]at he;rcases he with rfl | rfl
    ·exact⟨Qw.of hs4 rfl,λt ht=>by rw[List.mem_singleton.1 ht];exact Kc (k:=[0,0,1]) hs2⟩
    ·exact⟨Qw.of hs7 rfl,λt ht=>by rw[List.mem_singleton.1 ht];exact Kc (k:=[0,1,0]) hs5⟩,Qw.of hs11 rfl,rfl,rfl,rfl⟩,⟨(by show 2<=1000000;decide),aa _,λs hs=>by
    simp only[aE,ax,or_false]at hs;rcases hs with rfl | rfl<;>decide,(by show 2<=1000000;decide),λe he=>by
    simp only[aE,ax,or_false]at he;rcases he with rfl | rfl
    ·exact⟨rfl,λt ht=>by rw[List.mem_singleton.1 ht];exact⟨(by show 1<=1000000;decide),(by show 3<=1000000;decide)⟩,(by show 1<=1000000;decide)⟩
    ·exact⟨rfl,λt ht=>by rw[List.mem_singleton.1 ht];exact⟨(by show 2<=1000000;decide),(by show 3<=1000000;decide)⟩,(by show 1<=1000000;decide)⟩,(by show 2<=1000000;decide),λs hs=>by
    simp only[aE,ax,or_false]at hs;rcases hs with rfl | rfl<;>decide⟩,rfl,rfl,rfl⟩)
def pI(Z D T m:Nat)(p:List Tm):Bool:=decide (p.length<=T)&&p.all λu=>decide (JQ u.1<=Z)&&decide (KD u.2 m<=D)&&decide (u.2.length=m)&&u.2.all λk=>decide (0<=k)&&decide (k<=12)
theorem L5{p:List Tm}(h:pI Z D T m p=true):gD Z D T m p:=by
 unfold pI at h;simp only[aj,decide_eq_true_eq,ao]at h;exact⟨h.1,λu hu=>(h.2 u hu).1.1.1,λu hu=>(h.2 u hu).1.1.2,λu hu=>(h.2 u hu).1.2,λu hu k hk=>(h.2 u hu).2 k hk⟩
def uI(h0:0<Q)(hd:(k+1) ∣ Q):Cl Q 1 0 ((((k+1:Nat):Int):Rat)⁻¹):=by
 obtain⟨q,rfl⟩:=hd;have hq:0<q:=bV (by rintro rfl;simp at h0);refine⟨q,?_,?_⟩
 ·rw[bw,aN];have e:aD (q:Int) (((k+1:Nat):Int)*(q:Int))=aD (1*(q:Int)) (((k+1:Nat):Int)*(q:Int)):=by rw[Int.one_mul]
  rw[e,bN O,bW,bj,Rat.intCast_one,Rat.one_mul]
 rw[bw,aY,Nat.pow_zero,ek];exact bJ _ O
def Q0:Nat:=2^64*720720
def DL:0<Q0:=wv
def clB(x:Rat)(b:Nat):Bool:=decide (Q0%x.den=0)&&decide (sz x.num<=b)
def vJ{x:Rat}{b:Nat}(h:clB x b=true):Cl Q0 1 b x:=by
 unfold clB at h;simp only[aj,decide_eq_true_eq]at h;exact Cl.of x DL (aU h.1) h.2
def R1:List (List Tm):=([[([49],[0,1])]]:List Pt).map X3
def R2:List (List Tm):=([[([49],[0,2])]]:List Pt).map X3
def RC:List (List Tm):=([[([49],[0,0,1])],[([45,49],[0,1,0])]]:List Pt).map X3
def QCI:∀k,k<16->Cl Q0 1 0 ((((k+1:Nat):Int):Rat)⁻¹):=λk hk=>uI DL (aU ((by decide +kernel:∀k,k<16->Q0%(k+1)=0) k hk))
def vR{rs:List (List Tm)}{P:List Tm->Prop}(h:∀p∈rs,P p):∀i,i<rs.length->P (el rs i):=λi hi=>h _ (Q3 hi)
def tuB(D T m n:Nat)(rs:List (List Tm)):Bool:=decide (rs.length=m)&&(rs.all (pI 8 D T (m+1))&&(rs.all (λp=>p.all λu=>decide (Q0%u.1.den=0))&&(decide (tyM Q0 2400 D T (n+1)<=10000000)&&(decide (LQ Q0 2400 D T n<=850000)&&(decide (qD 8 D T (LQ Q0 2400 D T n)<=900000)&&decide (8+D*(LQ Q0 2400 D T n+1)+1<=10000000))))))
def QFg:2400+sz (Q0:Int)<=800000:=wv
theorem tuK{rs:List (List Tm)}(hb:0<=b/\b<=64)(hn:n<=14)(hm:m<=900)(h:tuB D T m n rs=true):jx Q0 8 D T m n b rs:=by
 unfold tuB at h;simp only[aj,decide_eq_true_eq,ao]at h;obtain⟨h1,h2,h3,k1,k2,k3,k4⟩:=h;exact⟨DL,hb,Nat.dvd_trans (Nat.pow_dvd_pow 2 (show b.toNat<=64 by omega)) (Nat.dvd_mul_right _ _),λk hk=>QCI k O,vR λp hp=>L5 (h2 p hp),vR λp hp u hu=>aU (h3 p hp u hu),h1,hm,wu,k1,k2,QFg,k3,k4⟩
def uo(b:Nat)(x:Rat×Rat):Bool:=clB x.1 b&&clB x.2 b
def Od{x:Rat×Rat}{b c:Nat}(hc:b<=c)(h:uo b x=true):K3 Q0 1 c x:=by
 unfold uo at h;rw[aj]at h;exact⟨(vJ h.1).mono DL (aa _) hc,(vJ h.2).mono DL (aa _) hc⟩
def QED(m:Nat)(x:List (Rat×Rat)):Bool:=decide (x.length=m)&&(x.all (uo 100)&&x.all λa=>decide (a.1<=a.2))
def UC(h:QED m x=true):XOk Q0 D T m n x:=by
 unfold QED at h;simp only[aj,decide_eq_true_eq,ao]at h;refine⟨h.1,λi hi=>h.2.2 _ (Q3 hi),λa ha=>Od ?_ (h.2.1 a ha)⟩;unfold qO;omega
def tmB(t:Rat):Bool:=clB t 100&&decide (JQ t<=100)
def BF{t:Rat}(h:tmB t=true):TmC Q0 t:=by
 unfold tmB at h;rw[aj,decide_eq_true_eq]at h;exact⟨(vJ h.1).mono DL (aa _) wu,ag h.2 wu⟩
def jx.QG7{rs:List (List Tm)}(h:jx Q Z D T m n b rs){t:Jr}{y:List Jr}(ht:K3 Q 1 2400 t)(hl:y.length=m)(hy:∀a∈y,K3 Q 1 2400 a):AK rs t y (n+1):=(h.ty ht hl hy).ok (wk h.n1)
def QFV(m:Nat)(y:List (Rat×Rat)):Bool:=decide (y.length=m)&&y.all λa=>uo 100 a&&(decide (JQ a.1<=100)&&decide (JQ a.2<=100))
def D2{y:List (Rat×Rat)}(h:QFV m y=true):y.length=m/\(∀a∈y,K3 Q0 1 2400 a)/\∀a∈y,Xb a 100:=by
 unfold QFV at h;simp only[aj,decide_eq_true_eq,ao]at h;exact⟨h.1,λa ha=>Od wu (h.2 a ha).1,λa ha=>(h.2 a ha).2⟩
def QBN(k:Nat)(l:List (Rat×Rat)):Bool:=l.all λa=>decide (JQ a.1<=k)&&decide (JQ a.2<=k)
def Li{l:List (Rat×Rat)}(h:QBN k l=true):∀a∈l,Xb a k:=λa ha=>by
 unfold QBN at h;have:=List.all_eq_true.1 h a ha;rw[aj,decide_eq_true_eq,decide_eq_true_eq]at this;exact this
def e_c:DF [[120],[118]] [[([49],[0,0,1])],[([45,49],[0,1,0])]] [([49],[49]),([48],[48])]=0:=wv
def v_1:Jt R1 (JG ([48],[48])) (lV [([49],[50])]) 2=[[(1,2),(1,2),(1/2,1)]]:=wv
def v_2:YX R1 (Qh [48]) (Qh [49,47,50]) (lV [([49],[49])]) 2=some [(1,9/4)]:=wv
def v_3:T8 (Zt R1 (Qh [48]) (Qh [49,47,50]) (lV [([49],[49])]) (lV [([49],[50])])) (lV [([49],[50])])=true:=wv
def v_4:Zw R1 (Qh [48]) (Qh [49,47,50]) (lV [([49],[49])]) (lV [([49],[50])]) 1=[(13/8,7/4)]:=wv
def v_5:Y4 R1 (Qh [48]) (Qh [49,47,50]) (lV [([49],[49])]) 1 2=some ([(1,9/4)],[(3/2,2)]):=wv
def v_6:YX R2 (Qh [48]) (Qh [50]) (lV [([49],[49])]) 4=none:=wv
def v_7:Gm R2 (JG ([48],[48])::lV [([45,51],[50])])=[9]:=wv
def v_8:Hj RC (JG ([48],[48])::lV [([45,51],[50]),([48],[57])]) 2 2=1:=wv
def T0:List AT:=(Wk RC 2 10 ((0:Int):Rat) ([([49],[49]),([48],[48])].map JG) ([[49,47,50],[49]].map Qh)).getD []
def v_9:Wk RC 2 10 ((0:Int):Rat) ([([49],[49]),([48],[48])].map JG) ([[49,47,50],[49]].map Qh)=some T0:=by
 have h:(Wk RC 2 10 ((0:Int):Rat) ([([49],[49]),([48],[48])].map JG) ([[49,47,50],[49]].map Qh)).isSome=true:=wv;unfold T0;cases e:Wk RC 2 10 ((0:Int):Rat) ([([49],[49]),([48],[48])].map JG) ([[49,47,50],[49]].map Qh)with
 |none=>rw[e]at h;cases h
 |some t=>rfl
def QG3:T0.length=2/\T0.any LL=false:=wv
def xu(hb:0<=b/\b<=64):jx Q0 8 2 2 1 1 b R1:=tuK hb wu wu wv
def QEH(hb:0<=b/\b<=64):jx Q0 8 2 2 1 1 b R2:=tuK hb wu wu wv
def QG9(hb:0<=b/\b<=64):jx Q0 8 2 2 2 2 b RC:=tuK hb wu wu wv
def s_1:seR 0 (Jt R1 (JG ([48],[48])) (lV [([49],[50])]) 2)=(0,[[(1,2),(1,2),(1/2,1)]]):=by rw[v_1];decide +kernel
def s_2:CR 0 (YX R1 (Qh [48]) (Qh [49,47,50]) (lV [([49],[49])]) 2)=(0,[(1,9/4)]):=by rw[v_2];decide +kernel
def s_4:CR 0 (some (Zw R1 (Qh [48]) (Qh [49,47,50]) (lV [([49],[49])]) (lV [([49],[50])]) 1))=(0,[(13/8,7/4)]):=by rw[v_4];decide +kernel
def s_5:gL 0 (Y4 R1 (Qh [48]) (Qh [49,47,50]) (lV [([49],[49])]) 1 2) [49,47,50]=(([49,47,50],[(1,9/4)],[(3/2,2)]),0):=by rw[v_5];decide +kernel
def s_6:CR 0 (YX R2 (Qh [48]) (Qh [50]) (lV [([49],[49])]) 4)=(25,[]):=by rw[v_6];rfl
def s_7:cN 0 (Gm R2 (JG ([48],[48])::lV [([45,51],[50])]))=(0,[9]):=by rw[v_7];decide +kernel
def s_8:lpR 0 (Hj RC (JG ([48],[48])::lV [([45,51],[50]),([48],[57])]) 2 2)=(0,[49]):=by rw[v_8];decide +kernel
def s_9:tuR 0 (some T0)=(0,T0):=by rw[Hb,QG3.2];rfl
section
variable{w:World}{F:Gs}{y:ZR}{r rz:Sr}(hF:Fits F w)(hGl:JC F)
include hF hGl
theorem Iq(hy:Nw F y [[120]] [[([49],[0,1])]] [([49],[49])])(hx:KM F r [([49],[50])])(hc:H8 r [([49],[50])]):
  QT prog 36 [y.v,.agg #[tx [48],tx [48]],r.v,.int .i64 2] w F (λ(c:Sr×List Sr)=>.tuple #[c.1.v,.int .i64 0]) (λc F=>Oj F c [[(1,2),(1,2),(1/2,1)]]):=by
 have hb:=D2 (m:=1) (y:=lV [([49],[50])]) wv;have h:=zg (t:=([48],[48])) (l:=[([49],[50])]) (o:=2) hF hGl hy.r hy.t ⟨wu,wu⟩ hx hc (λ_=>by
  rw[hy.rs];refine⟨(xu (b:=0) ⟨wu,wu⟩).QG7 (Od (b:=100) wu wv) hb.1 hb.2.1,?_⟩;show ∀b∈Jt R1 (JG ([48],[48])) (lV [([49],[50])]) 2,∀a∈b,Xb a 100000000;rw[v_1];intro b hb a ha;rw[List.mem_singleton.1 hb]at ha;exact(Li (k:=10) wv a ha).mono wu)
 have e:FI y ([48],[48]) [([49],[50])] 2=0:=by unfold FI;rw[hy.e,hy.nn];decide +kernel
 have e1:seR (FI y ([48],[48]) [([49],[50])] 2) (Jt y.rs (JG ([48],[48])) (lV [([49],[50])]) (bG 2))=(0,[[(1,2),(1,2),(1/2,1)]]):=by rw[e,hy.rs];exact s_1
 rw[e1]at h;exact h
theorem vY(hy:Nw F y [[120]] [[([49],[0,1])]] [([49],[49])])(hx:KM F r [([49],[49])])(hc:H8 r [([49],[49])]):
  QT prog 78 [y.v,tx [48],r.v,tx [49,47,50],.int .i64 2] w F (λ(c:Sr)=>.tuple #[c.v,.int .i64 0]) (λc F=>Bf F c [(1,9/4)]):=by
 have h:=FV (y:=y) (a:=[48]) (b:=[49,47,50]) (l:=[([49],[49])]) (bits:=2) hF hGl hy.r hy.t hx hc wu wu (λ_=>by
  rw[hy.rs];exact(N4 (xu (b:=2) ⟨wu,wu⟩) (x:=lV [([49],[49])]) (UC wv) (BF (t:=Qh [48]) wv) (BF (t:=Qh [49,47,50]) wv) wv).1.tr)
 have e:MU y [48] [([49],[49])] [49,47,50] 2=0:=by unfold MU Yn;rw[hy.e,hy.nn];decide +kernel
 have e1:CR (MU y [48] [([49],[49])] [49,47,50] 2) (YX y.rs (Qh [48]) (Qh [49,47,50]) (lV [([49],[49])]) 2)=(0,[(1,9/4)]):=by rw[e,hy.rs];exact s_2
 rw[e1]at h;exact h
theorem vc(hy:Nw F y [[120]] [[([49],[0,1])]] [([49],[49])])(hx:KM F r [([49],[49])])(hc:H8 r [([49],[49])])(hz:KM F rz [([49],[50])])(hcz:H8 rz [([49],[50])]):
  Qe prog 79 [y.v,tx [48],r.v,tx [49,47,50],rz.v] w F (.tuple #[.bool true,.int .i64 0]):=by
 have hb:=D2 (m:=1) (y:=lV [([49],[49])]) wv;have hbz:=D2 (m:=1) (y:=lV [([49],[50])]) wv;have mv:MvC 8 2 2 1 100 R1 (Qh [48]) (Qh [49,47,50]):=⟨(xu (b:=0) ⟨wu,wu⟩).po,rfl,wv,wv⟩;have h:=kM (y:=y) (a:=[48]) (b:=[49,47,50]) (l:=[([49],[49])]) (lw:=[([49],[50])]) hF hGl hy.r hy.t hx hc wu wu hz hcz (λ_=>by
  rw[hy.rs];exact⟨Ue mv hb.1 hbz.1 hb.2.2 hbz.2.2 wu wu wu wu wu wu wu,λv hv=>(OB mv hb.1 hbz.1 hb.2.2 hbz.2.2 wu v hv).mono wu⟩)
 have e:kO y [48] [([49],[49])] [49,47,50] [([49],[50])]=0:=by unfold kO Yn;rw[hy.e,hy.nn];decide +kernel
 have e1:T8 (Zt y.rs (Qh [48]) (Qh [49,47,50]) (lV [([49],[49])]) (lV [([49],[50])])) (lV [([49],[50])])=true:=by rw[hy.rs];exact v_3
 rw[e,e1]at h;exact h
theorem QAx(hy:Nw F y [[120]] [[([49],[0,1])]] [([49],[49])])(hx:KM F r [([49],[49])])(hc:H8 r [([49],[49])])(hz:KM F rz [([49],[50])])(hcz:H8 rz [([49],[50])]):
  QT prog 80 [y.v,tx [48],r.v,tx [49,47,50],rz.v,.int .i64 1] w F (λ(c:Sr)=>.tuple #[c.v,.int .i64 0]) (λc F=>Bf F c [(13/8,7/4)]):=by
 have hb:=D2 (m:=1) (y:=lV [([49],[49])]) wv;have hbz:=D2 (m:=1) (y:=lV [([49],[50])]) wv;have tu:=xu (b:=0) ⟨wu,wu⟩;have t1:=BF (t:=Qh [48]) wv;have t2:=BF (t:=Qh [49,47,50]) wv;have h:=qP (y:=y) (a:=[48]) (b:=[49,47,50]) (l:=[([49],[49])]) (lw:=[([49],[50])]) (o:=1) hF hGl hy.r hy.t hx hc wu wu hz hcz (λ_=>by
  rw[hy.rs];have h1:=O2 (n:=1) (tu.ty (t:=(Qh [48],Qh [48])) (.pt t1.cl) hb.1 hb.2.1) (tu.ty (t:=(Qh [48],Qh [49,47,50])) ⟨t1.cl,t2.cl⟩ hbz.1 hbz.2.1) (by rw[bU];exact t2.cl.add DL t1.cl.neg) wu tu.n1 (wk tu.n2) (wk tu.n3);exact⟨h1.1,λv hv=>(h1.2 v hv).mono wu⟩)
 have e:Nd y [48] [([49],[49])] [49,47,50] [([49],[50])] 1=0:=by unfold Nd Yn;rw[hy.e,hy.nn];decide +kernel
 have e1:CR (Nd y [48] [([49],[49])] [49,47,50] [([49],[50])] 1) (some (Zw y.rs (Qh [48]) (Qh [49,47,50]) (lV [([49],[49])]) (lV [([49],[50])]) (bG 1)))=(0,[(13/8,7/4)]):=by rw[e,hy.rs];exact s_4
 rw[e1]at h;exact h
theorem vW(hy:Nw F y [[120]] [[([49],[0,1])]] [([49],[49])])(hx:KM F r [([49],[49])])(hc:H8 r [([49],[49])]):
  QT prog 81 [y.v,tx [48],r.v,tx [49,47,50],.int .i64 1,.int .i64 2] w F (λ(d:Sr×Sr)=>.tuple #[.agg #[tx [49,47,50],d.1.v,d.2.v],.int .i64 0]) (λd F=>Bf F d.1 [(1,9/4)]/\Bf F d.2 [(3/2,2)]):=by
 have h:=dY (y:=y) (a:=[48]) (b:=[49,47,50]) (l:=[([49],[49])]) (o:=1) (bits:=2) hF hGl hy.r hy.t hx hc wu wu (λ_=>by
  rw[hy.rs];exact(N4 (xu (b:=2) ⟨wu,wu⟩) (x:=lV [([49],[49])]) (UC wv) (BF (t:=Qh [48]) wv) (BF (t:=Qh [49,47,50]) wv) wv).1)
 have e:MP y [48] [([49],[49])] [49,47,50] 1 2=0:=by unfold MP Yn;rw[hy.e,hy.nn];decide +kernel
 have e1:gL (MP y [48] [([49],[49])] [49,47,50] 1 2) (Y4 y.rs (Qh [48]) (Qh [49,47,50]) (lV [([49],[49])]) (bG 1) 2) [49,47,50]=(([49,47,50],[(1,9/4)],[(3/2,2)]),0):=by rw[e,hy.rs];exact s_5
 rw[e1]at h;exact h
theorem vX(hy:Nw F y [[120]] [[([49],[0,2])]] [([49],[49])])(hx:KM F r [([49],[49])])(hc:H8 r [([49],[49])]):
  QT prog 78 [y.v,tx [48],r.v,tx [50],.int .i64 4] w F (λ(c:Sr)=>.tuple #[c.v,.int .i64 25]) (λc F=>Bf F c []):=by
 have h:=FV (y:=y) (a:=[48]) (b:=[50]) (l:=[([49],[49])]) (bits:=4) hF hGl hy.r hy.t hx hc wu wu (λ_=>by
  rw[hy.rs];exact(N4 (QEH (b:=4) ⟨wu,wu⟩) (x:=lV [([49],[49])]) (UC wv) (BF (t:=Qh [48]) wv) (BF (t:=Qh [50]) wv) wv).1.tr)
 have e:MU y [48] [([49],[49])] [50] 4=0:=by unfold MU Yn;rw[hy.e,hy.nn];decide +kernel
 have e1:CR (MU y [48] [([49],[49])] [50] 4) (YX y.rs (Qh [48]) (Qh [50]) (lV [([49],[49])]) 4)=(25,[]):=by rw[e,hy.rs];exact s_6
 rw[e1]at h;exact h
theorem QAy(hy:Nw F y [[120]] [[([49],[0,2])]] [([49],[49])])(hx:KM F r [([45,51],[50])])(hc:H8 r [([45,51],[50])]):
  QT prog 82 [y.v,.agg #[tx [48],tx [48]],r.v] w F (λ(c:Sr)=>.tuple #[c.v,.int .i64 0]) (λc F=>dH F c [9]):=by
 have hb:=D2 (m:=2) (y:=JG ([48],[48])::lV [([45,51],[50])]) wv;have tu:=QEH (b:=0) ⟨wu,wu⟩;have h:=zS (y:=y) (t:=([48],[48])) (l:=[([45,51],[50])]) hF hGl hy.r hy.t ⟨wu,wu⟩ hx hc (λ_=>by
  rw[hy.rs];exact⟨λi hi=>El (S:=100) (tu.po i hi) hb.1 wu hb.2.2 wu wu wu wu,λi hi=>(GV (S:=100) (tu.po i hi) hb.1 hb.2.2).mono wu,by
   show ∀x∈Gm R2 _,_;rw[v_7];decide +kernel⟩)
 have e:BN y ([48],[48]) [([45,51],[50])]=0:=by unfold BN;rw[hy.e,hy.nn];decide +kernel
 have e1:cN (BN y ([48],[48]) [([45,51],[50])]) (Gm y.rs (JG ([48],[48])::lV [([45,51],[50])]))=(0,[9]):=by rw[e,hy.rs];exact s_7
 rw[e1]at h;exact h
theorem QAz(hy:Nw F y [[120],[118]] [[([49],[0,0,1])],[([45,49],[0,1,0])]] [([49],[49]),([48],[48])])(hx:KM F r [([45,51],[50]),([48],[57])])(hc:H8 r [([45,51],[50]),([48],[57])]):
  Qe prog 83 [y.v,.agg #[tx [48],tx [48]],r.v] w F (.tuple #[tx [49],.int .i64 0]):=by
 have hb:=D2 (m:=3) (y:=JG ([48],[48])::lV [([45,51],[50]),([48],[57])]) wv;have hpo:∀p∈RC,∀v,v<2->gD 8 2 2 3 (Xw (Yz (v+1) p)):=λp hp v hv=>L5 ((by decide +kernel:∀p∈RC,∀v,v<2->pI 8 2 2 3 (Xw (Yz (v+1) p))=true) p hp v hv);have h:=Fm (y:=y) (t:=([48],[48])) (l:=[([45,51],[50]),([48],[57])]) hF hGl hy.r hy.t ⟨wu,wu⟩ hx hc (λ_=>by
  rw[hy.rs];show QFk RC (JG ([48],[48])::lV [([45,51],[50]),([48],[57])]) 2;exact⟨by
   show ∀p∈RC,∀t∈p,((∀x∈t.2,0<=x/\x<=1000000)/\t.2.length<=1000)/\2<t.2.length;decide +kernel,wv,wv,wv,wv,λp hp v hv=>El (S:=100) (hpo p hp v hv) hb.1 wu hb.2.2 wu wu wu wu,λp hp v hv=>(GV (S:=100) (hpo p hp v hv) hb.1 hb.2.2).mono wu,wv,wv,wv⟩)
 have e:BN y ([48],[48]) [([45,51],[50]),([48],[57])]=0:=by unfold BN;rw[hy.e,hy.nn];decide +kernel
 have e1:lpR (BN y ([48],[48]) [([45,51],[50]),([48],[57])]) (Hj y.rs (JG ([48],[48])::lV [([45,51],[50]),([48],[57])]) ([([45,51],[50]),([48],[57])]:List (List UInt8×List UInt8)).length y.rs.length)=(0,[49]):=by rw[e,hy.rs];exact s_8
 rw[e1]at h;exact h
theorem QAw{q:Option Addr}{c:Nat}(hy:Nw F y [[120],[118]] [[([49],[0,0,1])],[([45,49],[0,1,0])]] [([49],[49]),([48],[48])])(hR:Qw F q 2 1 ([[49,47,50],[49]].map tx)):
  QT prog 26 [y.v,.slice q 2 c,.int .i64 2,.int .i64 10] w F (λ(c:Sr×List Vp)=>.tuple #[c.1.v,.int .i64 0]) (λc F=>Sv F c T0):=by
 have h:=dO (y:=y) (es:=[[49,47,50],[49]]) (o:=2) (b:=10) (ce:=c) hF hGl hy.r hy.t hR rfl (.inr wu) (λ_=>by
  rw[hy.rs,hy.vs];exact I6 (QG9 (b:=10) ⟨wu,wu⟩) _ _ _ (UC wv) (BF wv) ⟨⟨BF (t:=Qh [49,47,50]) wv,wv⟩,⟨BF (t:=Qh [49]) wv,wv⟩,trivial⟩)
 have e:cV y [[49,47,50],[49]] 2 10=0:=by unfold cV;rw[hy.e];decide +kernel
 have e2:Wk y.rs (bG 2) 10 ((0:Int):Rat) y.vs (([[49,47,50],[49]]:List (List UInt8)).map Qh)=some T0:=by rw[hy.rs,hy.vs];exact v_9
 have e3:=s_9;revert e2 e3;generalize T0=T;intro e2 e3;rw[e,e2,e3]at h;exact h
end
abbrev TbD:=List UInt8×List (List UInt8×List UInt8)×List (List UInt8×List UInt8)
def kC(ds:List TbD)(i:Nat):Rat:=if i=0 then((0:Int):Rat)else Qh (el ds (i-1)).1
def bxD(n:Nat)(ds:List TbD)(i:Nat):Int:=Qp [NP (kC ds i) (el ds i).1,Ym n (el ds i).2.1,Ym n (el ds i).2.2]
def QBB(n:Nat)(ds:List TbD):Int:=if ds.length>1000 then 5 else Qp ((bT ds.length).map (bxD n ds))
theorem QBA(n:Nat)(tb:List Vp):BB n tb=QBB n (tb.map Vp.d):=by
 unfold BB QBB;rw[ae];split
 ·rfl
 congr 1;refine List.map_congr_left λi hi=>?_;have hi:=List.mem_range.1 hi;have e1:el (tb.map Vp.d) i=(el tb i).d:=GH Vp.d hi;have e2:kC (tb.map Vp.d) i=GQ tb i:=by
  unfold kC GQ;split
  ·rfl
  rw[GH Vp.d (show i-1<tb.length by omega)];rfl
 unfold xQ bxD;rw[e1,e2];rfl
def kpD(x:Rat×Rat)(P:List Tm)(d:TbD):Bool:=!(decide (Z7 x.2 (J5 ((Qh d.1,Qh d.1)::lV d.2.2) P).1<0)||decide (Z7 (J5 ((Qh d.1,Qh d.1)::lV d.2.2) P).2 x.1<0))
def QB3(x:Rat×Rat)(P:List Tm)(tb:List Vp):tb.all (uC x P)=(tb.map Vp.d).all (kpD x P):=by rw[List.all_map];rfl
def pwB(l:List Int):Bool:=(l.all λx=>decide (0<=x)&&decide (x<=1000000))&&decide (l.length<=1000)
theorem TH{l:List Int}(h:pwB l=true):PW l:=by
 unfold pwB at h;simp only[aj,decide_eq_true_eq,ao]at h;exact⟨λx hx=>h.1 x hx,h.2⟩
def QBw(p q:List Tm)(N:Nat):Bool:=(p.all λt=>decide (t.2.length=N)&&pwB t.2)&&((q.all λt=>decide (t.2.length=N)&&pwB t.2)&&((p.all λs=>q.all λt=>pwB (Wm s.2 t.2))&&(decide (p.length<=10000)&&(decide (q.length<=10000)&&(decide (KC p<=20000000)&&(decide (KC q<=20000000)&&decide (KC (Zr p q)<=40000000)))))))
def QBu{p q:List Tm}{N:Nat}(h:QBw p q N=true):vm p q N:=by
 unfold QBw at h;simp only[aj,decide_eq_true_eq,ao]at h;obtain⟨h1,h2,h3,h4,h5,h6,h7,h8⟩:=h;exact⟨λt ht=>(h1 t ht).1,λt ht=>(h2 t ht).1,h4,h5,λt ht=>TH (h1 t ht).2,λt ht=>TH (h2 t ht).2,λs hs t ht=>TH (h3 s hs t ht),h6,h7,h8⟩
def QCe(p q:List Tm):Bool:=(p.all λt=>pwB t.2)&&((q.all λt=>pwB t.2)&&(decide (p.length<=400000000)&&(decide (q.length<=400000000)&&decide (KC (p++q)<=40000000))))
def QCd{p q:List Tm}(h:QCe p q=true):gA p q:=by
 unfold QCe at h;simp only[aj,decide_eq_true_eq,ao]at h;obtain⟨h1,h2,h3,h4,h5⟩:=h;exact⟨λt ht=>TH (h1 t ht),λt ht=>TH (h2 t ht),h3,h4,h5⟩
def PK:Pt:=[([49],[0,2,0]),([49],[0,0,2])]
theorem QFa:qB RC (X3 PK) 3 where
 n:=rfl
 n1:=wu
 lp:=wu
 pw:=λt ht=>⟨TH ((by decide +kernel:∀t∈X3 PK,pwB t.2=true) t ht),(by decide +kernel:∀t∈X3 PK,t.2.length=3) t ht⟩
 sp:=wv
 der:=λv hv=>(by decide +kernel:∀v,v<3->KC (Yz v (X3 PK))<=40000000) v (by have:RC.length=2:=rfl;omega)
 mul:=λk hk=>QBu ((by decide +kernel:∀k,k<2->QBw (Xw (Yz (k+1) (X3 PK))) (el RC k) 3=true) k hk)
 add:=λk hk=>QCd ((by decide +kernel:∀k,k<2->QCe (AE RC (X3 PK) k) (Xw (Zr (Xw (Yz (k+1) (X3 PK))) (el RC k)))=true) k hk)
def QEy:AE RC (X3 PK) RC.length=[]:=wv
def QEx:QBB 2 (P2 T0)=0:=wv
def QEz:(P2 T0).all (kpD (J5 ((((0:Int):Rat),((0:Int):Rat))::([([49],[49]),([48],[48])]:List (List UInt8×List UInt8)).map JG) (X3 PK)) (X3 PK))=true:=wv
def Ce:gD 8 2 2 3 (X3 PK):=L5 wv
def dB(d:TbD):Bool:=decide (d.1.length<=1000)&&(decide (d.2.1.length=2)&&(decide (d.2.2.length=2)&&((d.2.1.all λs=>decide (s.1.length<=1000)&&decide (s.2.length<=1000))&&((d.2.2.all λs=>decide (s.1.length<=1000)&&decide (s.2.length<=1000))&&QBN 2000 ((Qh d.1,Qh d.1)::lV d.2.2)))))
def QHf:∀d∈P2 T0,dB d=true:=wv
def kG:(P2 T0).length=2:=wv
def Cu{b:Vp}(h:dB b.d=true):b.e.length<=1000/\b.wl.length=2/\b.ll.length=2/\(∀s∈b.wl,s.1.length<=1000/\s.2.length<=1000)/\(∀s∈b.ll,s.1.length<=1000/\s.2.length<=1000)/\∀x∈(Qh b.e,Qh b.e)::lV b.ll,Xb x 2000:=by
 unfold dB at h;simp only[aj,decide_eq_true_eq,ao]at h;obtain⟨h1,h2,h3,h4,h5,h6⟩:=h;exact⟨h1,h2,h3,h4,h5,Li h6⟩
theorem vZ{a:AX}{c:Sr×List Vp}(hF:Fits F w)(hGl:JC F)(hy:Nw F y [[120],[118]] [[([49],[0,0,1])],[([45,49],[0,1,0])]] [([49],[49]),([48],[48])])(hR:Qw F a.1.q a.1.n 2 (a.2.flatMap Di))(hA:WK F a.2)(hta:AL a)(hp:YQ a.2=PK)(hx:Sv F c T0):
  Qe prog 85 [y.v,a.1.v,c.1.v] w F (.tuple #[.bool true,.int .i64 0]):=by
 have hd:=hx.d;have hlen:c.2.length=2:=by have:=congrArg aW hd;rwa [ae,kG]at this
 have hn:=hx.a.len;have hb:∀b∈c.2,dB b.d=true:=λb hb=>QHf _ (by rw[<-hd];exact aL hb);have hc:gP c.1 c.2:=⟨O,.inr λb hm=>by
  have h1:=Cu (hb b hm);have h2:=hx.a.bx b hm;have h3:=h2.1.len;have h4:=h2.2.len;exact⟨O,⟨O,λs hs=>wk<|h1.2.2.2.1 s hs⟩,⟨O,λs hs=>wk<|h1.2.2.2.2.1 s hs⟩⟩⟩
 have e:Nl y PK c.2=0:=by
  unfold Nl;have hn2:y.nm.n=2:=hy.nn;rw[hy.e,hn2,QBA,hd,e_c,QEx];decide +kernel
 have hvs:=hy.vs;have hI:uB y PK=true:=by unfold uB;rw[hy.rs];exact decide_eq_true QEy
 have hX:kD y PK=J5 ((((0:Int):Rat),((0:Int):Rat))::([([49],[49]),([48],[48])]:List (List UInt8×List UInt8)).map JG) (X3 PK):=by unfold kD;rw[hvs]
 have h:=uD (y:=y) (a:=a) (r:=c.1) (tb:=c.2) hF hGl hy.r hy.t hR hA hta hx.a hc (λ_=>by
  rw[hp];have hs0:∀x∈(((0:Int):Rat),((0:Int):Rat))::y.vs,Xb x 100:=by rw[hvs];exact Li wv
  have hl0:((((0:Int):Rat),((0:Int):Rat))::y.vs).length=3:=by rw[hvs];rfl
  have hlb:∀b∈c.2,((Qh b.e,Qh b.e)::lV b.ll).length=3:=λb hm=>by rw[aF,Y9,(Cu (hb b hm)).2.2.1]
  exact⟨by rw[hy.rs,hy.nn];exact QFa,El (S:=100) Ce hl0 wu hs0 wu wu wu wu,(GV (S:=100) Ce hl0 hs0).mono wu,λb hm=>El (S:=2000) Ce (hlb b hm) wu (Cu (hb b hm)).2.2.2.2.2 wu wu wu wu,λb hm=>(GV (S:=2000) Ce (hlb b hm) (Cu (hb b hm)).2.2.2.2.2).mono wu⟩)
 rw[hp,kE e hI,QB3,hd,hX,QEz]at h;exact h
def ZU{b:Nat}{T:TypeId}(h:F b=some ((l.flatMap UH).toArray,T)):KM F ⟨some ⟨b,0,none⟩,l.length,l.length⟩ l:=⟨Qw.of h (D6 (f:=UH) Gn l),rfl⟩
def QFU(n:Nat)(l:List (List UInt8×List UInt8)):Bool:=decide (n<=1000000)&&l.all λs=>decide (s.1.length<=1000000)&&decide (s.2.length<=1000000)
def VM{q:Option Addr}{c:Nat}(h:QFU n l=true):H8 ⟨q,n,c⟩ l:=by
 unfold QFU at h;simp only[aj,decide_eq_true_eq,ao]at h;exact⟨h.1,λs hs=>h.2 s hs⟩
def Nw.st{nl:List (List UInt8)}{sl:List (List UInt8×List UInt8)}(h:Nw F y nl rl sl):KM F y.st sl:=⟨by rw[<-h.s];exact h.r.st,by rw[<-h.s];exact h.r.Sb⟩
def Nw.gE{nl:List (List UInt8)}{sl:List (List UInt8×List UInt8)}(h:Nw F y nl rl sl):H8 y.st sl:=⟨h.t.sn,by rw[<-h.s];exact h.t.st⟩
theorem YD{la lb:List (List UInt8×List UInt8)}(hF:Fits F w)(ha:KM F ra la)(hb:KM F rb lb)(hn:ra.n<=1000000)(h:la=lb):Qe prog 86 [ra.v,rb.v] w F (.bool true):=by
 have h1:=qW hF ha hb hn
 rwa [decide_eq_true h]at h1
theorem TC{la lb:List (List UInt8)}(hF:Fits F w)(ha:Qw F ra.q ra.n 1 (la.map tx))(hb:Qw F rb.q rb.n 1 (lb.map tx))(hal:la.length=ra.n)(hbl:lb.length=rb.n)(hn:ra.n<=1000000)(h:la=lb):Qe prog 19 [ra.v,rb.v] w F (.bool true):=by
 have h1:=Lr hF ha hb hal hbl hn
 rwa [decide_eq_true h]at h1
def Bf.n1{c:Sr}{v:List (Rat×Rat)}(h:Bf F c v)(hv:v.length<=1000000):c.n<=1000000:=by rw[h.2.1];exact hv
theorem xR(hF:Fits F w)(hGl:JC F):Qe prog 21 [] w F (.bool true):=by
 refine QT.intro (G:=λF=>JC F) func21 rfl wy rfl rfl hF (λF' hF'=>hGl.le hF')<|QKO<|wQ rfl<|QKO<|QI rfl (λ_ _ f k=>FY (s:=[49]) f (by show 1<=1000000;decide)) λc22=>Qc LZ λb1=>QR (vs:=[_,_,_]) I I I XA I .here .h3 wU<|QJC<|QG<|KR (r:=[0,1,2,3,4,5,6,7,8,9]) QJZ mixed wm rfl<|Jk 0 wm rfl rfl<|QK (wI I XA .here)<|Q9<|Jk 2 wm rfl rfl<|QK (Qx I Zk Xh (wP I I I))<|Q9 ?_
 refine Na 1 3 wm wm rfl rfl rfl rfl rfl rfl ?_ ?_
 ·refine QM I (λ_ _ f k=>Ks f) (λ_=>Q9<|XX 3 wm wm rfl rfl rfl ?_);refine Qo I (Qz XW) J1 Xh I I (λb27=>?_) (λw h=>h.imp tC tA);refine Q9<|XX 4 wm wm rfl rfl rfl<|QM rfl (λ_ _ f k=>Iq (y:=c22) (r:=⟨some ⟨b27,0,none⟩,1,1⟩) f k.1.1.1 k.1.1.2 (ZU (l:=[([49],[50])]) k.2) (VM wv)) λc28=>Yh _ (λ_ _ f h=>ay h.2.QEK h.2.len) λhnn=>?_
  obtain⟨n28,l28⟩:=hnn;have n28:c28.1.n=1:=n28;rw[n28]at l28;refine Q9<|Jk 5 wm rfl rfl<|QK (QD I)<|Q9<|Jk 6 wm rfl rfl<|QK (QX I I)<|Q9<|Jk 7 wm rfl rfl<|QK (QX I I)<|Q9<|Jk 8 wm rfl rfl<|QK (QF I)<|Q9<|Jk 9 wm rfl rfl<|QK (QF I)<|Q9<|Yg<|QC<|QKO<|QA (wI I XA .here)<|QA (QH I Yx J4)<|QA (Qf I J4 .here (.skip (.skip .h1)))<|QI I (λw F hF ⟨⟨⟨⟨hGl,h22⟩,_⟩,hs27⟩,h28⟩=>vY (y:=c22) (r:=c22.st) hF hGl h22 h22.st h22.gE) λc35=>QJD I ?_
  refine QKq 8 I<|QA (wI I XA .here)<|QA (QH I Yx J4)<|QA (Qf I J4 .here (.skip (.skip .h1)))<|QA (Qx I Zk Xh (wP I I I))<|Qb I (Qz XW) J1 Xh I I λb43=>QI I (λw F hF ⟨⟨⟨⟨⟨⟨hGl,h22⟩,_⟩,hs27⟩,h28⟩,h35⟩,hs43⟩=>vc (y:=c22) (r:=c22.st) (rz:=⟨some ⟨b43,0,none⟩,1,1⟩) hF hGl h22 h22.st h22.gE (ZU (l:=[([49],[50])]) hs43) (VM wv)) λ_=>QKq 9 I<|QA (wI I XA .here)<|QA (QH I Yx J4) ?_
  refine QA (Qf I J4 .here (.skip (.skip .h1)))<|QA (Qx I Zk Xh (wP I I I))<|Qb I (Qz XW) J1 Xh I I λb52=>QI I (λw F hF ⟨⟨⟨⟨⟨⟨⟨⟨hGl,h22⟩,_⟩,hs27⟩,h28⟩,h35⟩,hs43⟩,_⟩,hs52⟩=>QAx (y:=c22) (r:=c22.st) (rz:=⟨some ⟨b52,0,none⟩,1,1⟩) hF hGl h22 h22.st h22.gE (ZU (l:=[([49],[50])]) hs52) (VM wv)) λc53=>QKq 9 I<|QA (wI I XA .here)<|QA (QH I Yx J4)<|QA (Qf I J4 .here (.skip (.skip .h1)))<|QI I (λw F hF ⟨⟨⟨⟨⟨⟨⟨⟨⟨hGl,h22⟩,_⟩,hs27⟩,h28⟩,h35⟩,hs43⟩,_⟩,hs52⟩,h53⟩=>vW (y:=c22) (r:=c22.st) hF hGl h22 h22.st h22.gE) λc60=>wB 3 I<|Qc Wh λb10=>QR (vs:=[_,_,_]) I I I Xz I .here .h3 wU<|QKq 3 I ?_
  refine QG<|JK QJZ mixed wm<|QM I (λ_ _ f k=>FY (s:=[49]) f (by show 1<=1000000;decide)) λc64=>QK (QH I Yx J4)<|QK (Qf I J4 .u1 (.skip (.skip .h1)))<|QM I (λ_ _ f k=>vX (y:=c64) (r:=c22.st) f k.1.1.1.1.1.1.1.1.1.1.1 k.2 k.1.1.1.1.1.1.1.1.1.1.2.st k.1.1.1.1.1.1.1.1.1.1.2.gE) λc67=>QK (QD I)<|QK (QX I I)<|QK (QX I I)<|QK (QF I)<|QK (QF I)<|Q5<|QC<|QKO<|QI I (λ_ _ f k=>FY (s:=[49]) f (by show 1<=1000000;decide)) λc71=>QI I (λ_ _ f k=>Ks f) λ_=>QA (Qx I Zk Xh (wP I I I))<|Qb I (Qz XW) J1 Xh I I λb74=>QI I (λ_ _ f k=>QAy (y:=c71) (r:=⟨some ⟨b74,0,none⟩,1,1⟩) f k.1.1.1.1.1.1.1.1.1.1.1.1.1.1.1 k.1.1.2 (ZU (l:=[([45,51],[50])]) k.2) (VM wv)) λc75=>wB 5 I ?_
  refine QJC<|QKO<|QI rfl (λ_ _ f k=>GZ f) λc79=>QI rfl (λ_ _ f k=>Ks f) λ_=>QA (Qx rfl Zk Xh (wP rfl rfl rfl))<|QA (Qx rfl Zk Xh (wP rfl rfl rfl))<|Qb rfl (Qz XW) J1 Xh rfl rfl λb83=>QI rfl (λ_ _ f k=>QAz (y:=c79) (r:=⟨some ⟨b83,0,none⟩,2,2⟩) f k.1.1.1.1.1.1.1.1.1.1.1.1.1.1.1.1.1.1.1 k.1.1.2 (ZU (l:=[([45,51],[50]),([48],[57])]) k.2) (VM wv)) λ_=>QJD rfl<|QA (QX rfl rfl)<|QA (QX rfl rfl)<|QJE rfl<|wQ rfl<|QKO<|QI rfl (λ_ _ f k=>GZ f) λc88=>Qb rfl (Qz Z6) JR Ow rfl rfl λb89=>QI rfl (λ_ _ f k=>QAw (y:=c88) (q:=some ⟨b89,0,none⟩) (c:=2) f k.1.1.1.1.1.1.1.1.1.1.1.1.1.1.1.1.1.1.1.1.1.1 k.1.2 (Qw.of (n:=2) (sz:=1) (cs:=[[49,47,50],[49]].map tx) k.2 rfl)) λc90=>JN _ (λ_ _ f h=>ay h.2.a.len h.2.d) λhnn=>?_
  obtain⟨l90,d90⟩:=hnn;have n90:c90.1.n=2:=by have:=congrArg aW d90;rw[ae,kG]at this;omega
  refine QKq 9 I<|QI I (λ_ _ f k=>GZ f) λc94=>Qb I (Qz JB) JO Pp I I λb95=>QA (Qx I ER Gi (wP I I I))<|Qb I (Qz JB) JO Pp I I λb97=>QA (Qx I ER Gi (wP I I I))<|Qb I (Qz VR) Kv Gi I I λb99=>QJD I<|QI I (λ_ _ f h=>vZ (y:=c94) (a:=(j5 b99 [LN [49] b95 [0,2,0],LN [49] b97 [0,0,2]])) (c:=c90) f h.1.1.1.1.1.1.1.1.1.1.1.1.1.1.1.1.1.1.1.1.1.1.1.1.1.1.1 h.1.1.1.2 (CY (ts:=[LN [49] b95 [0,2,0],LN [49] b97 [0,0,2]]) h.2) (QFY (Kc (k:=[0,2,0]) h.1.1.2) (QFZ (Kc (k:=[0,0,2]) h.1.2))) (cX PK I wu wu) rfl h.1.1.1.1.2) λ_=>QKq 8 I ?_
  refine wA 4 I<|QA (Qv I I O)<|QJD I<|QA (Qv I I O)<|QJD I<|QA (Qv I I O)<|QJD I<|QA (Qv I I O)<|QJD I<|QA (Qv I I O)<|QJD I<|QA (Qv I I O)<|QJD I<|QA (Qv I I O)<|QJD I<|QA (Qv I I O)<|QA (QU (v:=.bool false) rfl rfl rfl)<|wB 4 I<|QA (QU (v:=.bool false) rfl rfl rfl) ?_
  refine wB 5 I<|QA (XJ I)<|wB 5 I<|QA (XJ I)<|wB 5 I<|QA (Qg I DB)<|QL I I ?_
  rw[n90];refine QA (QU (v:=.bool false) rfl rfl rfl)<|wB 5 I<|QA (QU (v:=.bool false) rfl rfl (QEq _))<|wB 5 I<|Qb I (Qz Z6) JR Ow I I λb145=>QL I I<|QI I (λ_ _ f k=>TC (la:=[(9:Rat)].map Jh) (lb:=[[57]]) (rb:=⟨some ⟨b145,0,none⟩,1,1⟩) f k.1.1.1.1.1.1.1.1.1.1.1.1.1.2.1 (Qw.of (n:=1) (sz:=1) (cs:=[[57]].map tx) k.2 I) k.1.1.1.1.1.1.1.1.1.1.1.1.1.2.2.1.symm I (by rw[k.1.1.1.1.1.1.1.1.1.1.1.1.1.2.2.1];decide) wv) λ_=>QL I I<|QA (XJ I)<|QKq 3 I<|YV I<|QKr 4 I ?_
  refine wA 2 I<|QA (Qg I TB) ?_
  rw[n28];refine QA (QU (v:=.bool false) rfl rfl rfl)<|wB 4 I<|QA (Q6 (n:=c28.1.n) (0) (λF h9=>h9.1.1.1.1.1.1.1.1.1.1.1.1.1.1.1.1.1.1.1.1.1.1.1.1.1.1.2.row) rfl wM TB J4 O)<|QL I I<|QA (JA (n:=c28.1.n) ((0)*1) (λF h9=>h9.1.1.1.1.1.1.1.1.1.1.1.1.1.1.1.1.1.1.1.1.1.1.1.1.1.1.2.row) O rfl J4 (Xa (f:=Sr.v) (l:=c28.2) O))<|QL I I<|QA (Qx I Zk Xh (wP I I I))<|QL I I<|QA (Qx I Zk Xh (wP I I I))<|QL I I<|QA (Qx I Zk Xh (wP I I I))<|QL I I<|Qb I (Qz XW) J1 Xh I I λb159=>QL I I<|QI I (λ_ _ f k=>YD (ra:=el c28.2 0) (rb:=⟨some ⟨b159,0,none⟩,3,3⟩) f (k.1.1.1.1.1.1.1.1.1.1.1.1.1.1.1.1.1.1.1.1.1.1.1.1.1.1.1.2.el 0 wu).Oh (ZU (l:=[([49],[50]),([49],[50]),([49,47,50],[49])]) k.2) ((k.1.1.1.1.1.1.1.1.1.1.1.1.1.1.1.1.1.1.1.1.1.1.1.1.1.1.1.2.el 0 wu).n1 wu) wv) λ_=>QL I I<|QA (XJ I)<|wB 5 I ?_
  refine QA (Qx I Zk Xh (wP I I I))<|QL I I<|Qb I (Qz XW) J1 Xh I I λb166=>QL I I<|QI I (λ_ _ f k=>YD (ra:=c35) (rb:=⟨some ⟨b166,0,none⟩,1,1⟩) f k.1.1.1.1.1.1.1.1.1.1.1.1.1.1.1.1.1.1.1.1.1.1.1.1.1.1.1.1.2.Oh (ZU (l:=[([49],[57,47,52])]) k.2) (k.1.1.1.1.1.1.1.1.1.1.1.1.1.1.1.1.1.1.1.1.1.1.1.1.1.1.1.1.2.n1 wu) wv) λ_=>QL I I<|QA (XJ I)<|QKq 3 I<|YV I<|QKr 5 I<|QA (Qx I Zk Xh (wP I I I))<|Qb I (Qz XW) J1 Xh I I λb172=>QI I (λ_ _ f k=>YD (ra:=c53) (rb:=⟨some ⟨b172,0,none⟩,1,1⟩) f k.1.1.1.1.1.1.1.1.1.1.1.1.1.1.1.1.1.1.1.1.1.1.1.1.1.1.2.Oh (ZU (l:=[([49,51,47,56],[55,47,52])]) k.2) (k.1.1.1.1.1.1.1.1.1.1.1.1.1.1.1.1.1.1.1.1.1.1.1.1.1.1.2.n1 wu) wv) λ_=>wB 2 I<|QA (QH I Dg JR)<|QL I I<|QA (Qf I JR .here .h1)<|QL I I ?_
  refine QA (VD I I)<|wB 3 I<|QA (QH I SR J4)<|QL I I<|QA (Qf I J4 .here (.skip .h1))<|wB 3 I<|QI I (λ_ _ f k=>YD (ra:=c60.1) (rb:=c35) f k.1.1.1.1.1.1.1.1.1.1.1.1.1.1.1.1.1.1.1.1.1.1.1.1.1.1.2.1.Oh k.1.1.1.1.1.1.1.1.1.1.1.1.1.1.1.1.1.1.1.1.1.1.1.1.1.1.1.1.1.1.1.2.Oh (k.1.1.1.1.1.1.1.1.1.1.1.1.1.1.1.1.1.1.1.1.1.1.1.1.1.1.2.1.n1 wu) rfl) λ_=>wB 3 I<|QA (QH I Mz J4)<|QL I I<|QA (Qf I J4 .here (.skip (.skip .h1)))<|QL I I<|QA (Qx I Zk Xh (wP I I I))<|QL I I<|Qb I (Qz XW) J1 Xh I I λb189=>QL I I<|QI I (λ_ _ f k=>YD (ra:=c60.2) (rb:=⟨some ⟨b189,0,none⟩,1,1⟩) f k.1.1.1.1.1.1.1.1.1.1.1.1.1.1.1.1.1.1.1.1.1.1.1.1.1.1.1.1.2.2.Oh (ZU (l:=[([51,47,50],[50])]) k.2) (k.1.1.1.1.1.1.1.1.1.1.1.1.1.1.1.1.1.1.1.1.1.1.1.1.1.1.1.1.2.2.n1 wu) wv) λ_=>wB 2 I ?_
  refine QJC<|QW ?_
  exact QKx I I (rfl) w8
 refine Qo I (Qz XW) J1 Xh I I (λb27=>?_) (λw h=>h.imp tC w9);refine Q9<|XX 1 wm wm rfl rfl rfl<|QM rfl (λ_ _ f k=>Ks f) λ_=>Q9<|XX 4 wm wm rfl rfl rfl<|QM rfl (λ_ _ f k=>Iq (y:=c22) (r:=⟨some ⟨b27,0,none⟩,1,1⟩) f k.1.1.1 k.1.1.2 (ZU (l:=[([49],[50])]) k.1.2) (VM wv)) λc28=>Yh _ (λ_ _ f h=>ay h.2.QEK h.2.len) λhnn=>?_
 obtain⟨n28,l28⟩:=hnn;have n28:c28.1.n=1:=n28;rw[n28]at l28;refine Q9<|Jk 5 wm rfl rfl<|QK (QD I)<|Q9<|Jk 6 wm rfl rfl<|QK (QX I I)<|Q9<|Jk 7 wm rfl rfl<|QK (QX I I)<|Q9<|Jk 8 wm rfl rfl<|QK (QF I)<|Q9<|Jk 9 wm rfl rfl<|QK (QF I)<|Q9<|Yg<|QC<|QKO<|QA (wI I XA .here)<|QA (QH I Yx J4)<|QA (Qf I J4 .here (.skip (.skip .h1)))<|QI I (λw F hF ⟨⟨⟨⟨hGl,h22⟩,hs27⟩,_⟩,h28⟩=>vY (y:=c22) (r:=c22.st) hF hGl h22 h22.st h22.gE) λc35=>QJD I ?_
 refine QKq 8 I<|QA (wI I XA .here)<|QA (QH I Yx J4)<|QA (Qf I J4 .here (.skip (.skip .h1)))<|QA (Qx I Zk Xh (wP I I I))<|Qb I (Qz XW) J1 Xh I I λb43=>QI I (λw F hF ⟨⟨⟨⟨⟨⟨hGl,h22⟩,hs27⟩,_⟩,h28⟩,h35⟩,hs43⟩=>vc (y:=c22) (r:=c22.st) (rz:=⟨some ⟨b43,0,none⟩,1,1⟩) hF hGl h22 h22.st h22.gE (ZU (l:=[([49],[50])]) hs43) (VM wv)) λ_=>QKq 9 I<|QA (wI I XA .here)<|QA (QH I Yx J4) ?_
 refine QA (Qf I J4 .here (.skip (.skip .h1)))<|QA (Qx I Zk Xh (wP I I I))<|Qb I (Qz XW) J1 Xh I I λb52=>QI I (λw F hF ⟨⟨⟨⟨⟨⟨⟨⟨hGl,h22⟩,hs27⟩,_⟩,h28⟩,h35⟩,hs43⟩,_⟩,hs52⟩=>QAx (y:=c22) (r:=c22.st) (rz:=⟨some ⟨b52,0,none⟩,1,1⟩) hF hGl h22 h22.st h22.gE (ZU (l:=[([49],[50])]) hs52) (VM wv)) λc53=>QKq 9 I<|QA (wI I XA .here)<|QA (QH I Yx J4)<|QA (Qf I J4 .here (.skip (.skip .h1)))<|QI I (λw F hF ⟨⟨⟨⟨⟨⟨⟨⟨⟨hGl,h22⟩,hs27⟩,_⟩,h28⟩,h35⟩,hs43⟩,_⟩,hs52⟩,h53⟩=>vW (y:=c22) (r:=c22.st) hF hGl h22 h22.st h22.gE) λc60=>wB 3 I<|Qc Wh λb10=>QR (vs:=[_,_,_]) I I I Xz I .here .h3 wU<|QKq 3 I ?_
 refine QG<|JK QJZ mixed wm<|QM I (λ_ _ f k=>FY (s:=[49]) f (by show 1<=1000000;decide)) λc64=>QK (QH I Yx J4)<|QK (Qf I J4 .u1 (.skip (.skip .h1)))<|QM I (λ_ _ f k=>vX (y:=c64) (r:=c22.st) f k.1.1.1.1.1.1.1.1.1.1.1 k.2 k.1.1.1.1.1.1.1.1.1.1.2.st k.1.1.1.1.1.1.1.1.1.1.2.gE) λc67=>QK (QD I)<|QK (QX I I)<|QK (QX I I)<|QK (QF I)<|QK (QF I)<|Q5<|QC<|QKO<|QI I (λ_ _ f k=>FY (s:=[49]) f (by show 1<=1000000;decide)) λc71=>QI I (λ_ _ f k=>Ks f) λ_=>QA (Qx I Zk Xh (wP I I I))<|Qb I (Qz XW) J1 Xh I I λb74=>QI I (λ_ _ f k=>QAy (y:=c71) (r:=⟨some ⟨b74,0,none⟩,1,1⟩) f k.1.1.1.1.1.1.1.1.1.1.1.1.1.1.1 k.1.1.2 (ZU (l:=[([45,51],[50])]) k.2) (VM wv)) λc75=>wB 5 I ?_
 refine QJC<|QKO<|QI rfl (λ_ _ f k=>GZ f) λc79=>QI rfl (λ_ _ f k=>Ks f) λ_=>QA (Qx rfl Zk Xh (wP rfl rfl rfl))<|QA (Qx rfl Zk Xh (wP rfl rfl rfl))<|Qb rfl (Qz XW) J1 Xh rfl rfl λb83=>QI rfl (λ_ _ f k=>QAz (y:=c79) (r:=⟨some ⟨b83,0,none⟩,2,2⟩) f k.1.1.1.1.1.1.1.1.1.1.1.1.1.1.1.1.1.1.1 k.1.1.2 (ZU (l:=[([45,51],[50]),([48],[57])]) k.2) (VM wv)) λ_=>QJD rfl<|QA (QX rfl rfl)<|QA (QX rfl rfl)<|QJE rfl<|wQ rfl<|QKO<|QI rfl (λ_ _ f k=>GZ f) λc88=>Qb rfl (Qz Z6) JR Ow rfl rfl λb89=>QI rfl (λ_ _ f k=>QAw (y:=c88) (q:=some ⟨b89,0,none⟩) (c:=2) f k.1.1.1.1.1.1.1.1.1.1.1.1.1.1.1.1.1.1.1.1.1.1 k.1.2 (Qw.of (n:=2) (sz:=1) (cs:=[[49,47,50],[49]].map tx) k.2 rfl)) λc90=>JN _ (λ_ _ f h=>ay h.2.a.len h.2.d) λhnn=>?_
 obtain⟨l90,d90⟩:=hnn;have n90:c90.1.n=2:=by have:=congrArg aW d90;rw[ae,kG]at this;omega
 refine QKq 9 I<|QI I (λ_ _ f k=>GZ f) λc94=>Qb I (Qz JB) JO Pp I I λb95=>QA (Qx I ER Gi (wP I I I))<|Qb I (Qz JB) JO Pp I I λb97=>QA (Qx I ER Gi (wP I I I))<|Qb I (Qz VR) Kv Gi I I λb99=>QJD I<|QI I (λ_ _ f h=>vZ (y:=c94) (a:=(j5 b99 [LN [49] b95 [0,2,0],LN [49] b97 [0,0,2]])) (c:=c90) f h.1.1.1.1.1.1.1.1.1.1.1.1.1.1.1.1.1.1.1.1.1.1.1.1.1.1.1 h.1.1.1.2 (CY (ts:=[LN [49] b95 [0,2,0],LN [49] b97 [0,0,2]]) h.2) (QFY (Kc (k:=[0,2,0]) h.1.1.2) (QFZ (Kc (k:=[0,0,2]) h.1.2))) (cX PK I wu wu) rfl h.1.1.1.1.2) λ_=>QKq 8 I ?_
 refine wA 4 I<|QA (Qv I I O)<|QJD I<|QA (Qv I I O)<|QJD I<|QA (Qv I I O)<|QJD I<|QA (Qv I I O)<|QJD I<|QA (Qv I I O)<|QJD I<|QA (Qv I I O)<|QJD I<|QA (Qv I I O)<|QJD I<|QA (Qv I I O)<|QA (QU (v:=.bool false) rfl rfl rfl)<|wB 4 I<|QA (QU (v:=.bool false) rfl rfl rfl) ?_
 refine wB 5 I<|QA (XJ I)<|wB 5 I<|QA (XJ I)<|wB 5 I<|QA (Qg I DB)<|QL I I ?_
 rw[n90];refine QA (QU (v:=.bool false) rfl rfl rfl)<|wB 5 I<|QA (QU (v:=.bool false) rfl rfl (QEq _))<|wB 5 I<|Qb I (Qz Z6) JR Ow I I λb145=>QL I I<|QI I (λ_ _ f k=>TC (la:=[(9:Rat)].map Jh) (lb:=[[57]]) (rb:=⟨some ⟨b145,0,none⟩,1,1⟩) f k.1.1.1.1.1.1.1.1.1.1.1.1.1.2.1 (Qw.of (n:=1) (sz:=1) (cs:=[[57]].map tx) k.2 I) k.1.1.1.1.1.1.1.1.1.1.1.1.1.2.2.1.symm I (by rw[k.1.1.1.1.1.1.1.1.1.1.1.1.1.2.2.1];decide) wv) λ_=>QL I I<|QA (XJ I)<|QKq 3 I<|YV I<|QKr 4 I ?_
 refine wA 2 I<|QA (Qg I TB) ?_
 rw[n28];refine QA (QU (v:=.bool false) rfl rfl rfl)<|wB 4 I<|QA (Q6 (n:=c28.1.n) (0) (λF h9=>h9.1.1.1.1.1.1.1.1.1.1.1.1.1.1.1.1.1.1.1.1.1.1.1.1.1.1.2.row) rfl wM TB J4 O)<|QL I I<|QA (JA (n:=c28.1.n) ((0)*1) (λF h9=>h9.1.1.1.1.1.1.1.1.1.1.1.1.1.1.1.1.1.1.1.1.1.1.1.1.1.1.2.row) O rfl J4 (Xa (f:=Sr.v) (l:=c28.2) O))<|QL I I<|QA (Qx I Zk Xh (wP I I I))<|QL I I<|QA (Qx I Zk Xh (wP I I I))<|QL I I<|QA (Qx I Zk Xh (wP I I I))<|QL I I<|Qb I (Qz XW) J1 Xh I I λb159=>QL I I<|QI I (λ_ _ f k=>YD (ra:=el c28.2 0) (rb:=⟨some ⟨b159,0,none⟩,3,3⟩) f (k.1.1.1.1.1.1.1.1.1.1.1.1.1.1.1.1.1.1.1.1.1.1.1.1.1.1.1.2.el 0 wu).Oh (ZU (l:=[([49],[50]),([49],[50]),([49,47,50],[49])]) k.2) ((k.1.1.1.1.1.1.1.1.1.1.1.1.1.1.1.1.1.1.1.1.1.1.1.1.1.1.1.2.el 0 wu).n1 wu) wv) λ_=>QL I I<|QA (XJ I)<|wB 5 I ?_
 refine QA (Qx I Zk Xh (wP I I I))<|QL I I<|Qb I (Qz XW) J1 Xh I I λb166=>QL I I<|QI I (λ_ _ f k=>YD (ra:=c35) (rb:=⟨some ⟨b166,0,none⟩,1,1⟩) f k.1.1.1.1.1.1.1.1.1.1.1.1.1.1.1.1.1.1.1.1.1.1.1.1.1.1.1.1.2.Oh (ZU (l:=[([49],[57,47,52])]) k.2) (k.1.1.1.1.1.1.1.1.1.1.1.1.1.1.1.1.1.1.1.1.1.1.1.1.1.1.1.1.2.n1 wu) wv) λ_=>QL I I<|QA (XJ I)<|QKq 3 I<|YV I<|QKr 5 I<|QA (Qx I Zk Xh (wP I I I))<|Qb I (Qz XW) J1 Xh I I λb172=>QI I (λ_ _ f k=>YD (ra:=c53) (rb:=⟨some ⟨b172,0,none⟩,1,1⟩) f k.1.1.1.1.1.1.1.1.1.1.1.1.1.1.1.1.1.1.1.1.1.1.1.1.1.1.2.Oh (ZU (l:=[([49,51,47,56],[55,47,52])]) k.2) (k.1.1.1.1.1.1.1.1.1.1.1.1.1.1.1.1.1.1.1.1.1.1.1.1.1.1.2.n1 wu) wv) λ_=>wB 2 I<|QA (QH I Dg JR)<|QL I I<|QA (Qf I JR .here .h1)<|QL I I ?_
 refine QA (VD I I)<|wB 3 I<|QA (QH I SR J4)<|QL I I<|QA (Qf I J4 .here (.skip .h1))<|wB 3 I<|QI I (λ_ _ f k=>YD (ra:=c60.1) (rb:=c35) f k.1.1.1.1.1.1.1.1.1.1.1.1.1.1.1.1.1.1.1.1.1.1.1.1.1.1.2.1.Oh k.1.1.1.1.1.1.1.1.1.1.1.1.1.1.1.1.1.1.1.1.1.1.1.1.1.1.1.1.1.1.1.2.Oh (k.1.1.1.1.1.1.1.1.1.1.1.1.1.1.1.1.1.1.1.1.1.1.1.1.1.1.2.1.n1 wu) rfl) λ_=>wB 3 I<|QA (QH I Mz J4)<|QL I I<|QA (Qf I J4 .here (.skip (.skip .h1)))<|QL I I<|QA (Qx I Zk Xh (wP I I I))<|QL I I<|Qb I (Qz XW) J1 Xh I I λb189=>QL I I<|QI I (λ_ _ f k=>YD (ra:=c60.2) (rb:=⟨some ⟨b189,0,none⟩,1,1⟩) f k.1.1.1.1.1.1.1.1.1.1.1.1.1.1.1.1.1.1.1.1.1.1.1.1.1.1.1.1.2.2.Oh (ZU (l:=[([51,47,50],[50])]) k.2) (k.1.1.1.1.1.1.1.1.1.1.1.1.1.1.1.1.1.1.1.1.1.1.1.1.1.1.1.1.2.2.n1 wu) wv) λ_=>wB 2 I ?_
 refine QJC<|QW ?_
 exact QKx I I (rfl) w8
end Go.Proofs.YtpmehagnedbkhaaGreatDoor
