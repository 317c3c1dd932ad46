/- Steps of the proof of the theorem in the last file. -/
import Derived.Test.YtbpmnjieoncbcaaGreatDoorP3
set_option linter.all false
set_option maxHeartbeats 4000000
open Go.Proofs.Tryz
open Nat renaming le_refl → aa,mul_le_mul_right → ae,le_trans → af,mul_le_mul_left → ag,zero_add → ar,add_mul → aA,mul_zero → aF,zero_le → aI,min_le_right → aQ,mul_succ → aS,dvd_of_mod_eq_zero → aT,add_zero → aY,le_add_right → ba,pow_pos → bh,pow_one → bj,not_lt_zero → bw,le_max_left → bz,le_add_left → bA,zero_mul → bF,mul_comm → bG,le_mul_of_pos_left → bH,add_le_add_right → bM,pos_of_ne_zero → bT,mul_le_mul → bX,lt_or_ge → bZ,one_mul → ef,mul_add → ei
open List renaming length_map → ab,cons_append → aj,all_eq_true → ak,nil_append → ao,getElem_of_mem → aq,take_length → au,not_mem_nil → av,mem_cons → aD,length_cons → aE,length_range → aG,mem_map_of_mem → aK,length_append → aO,getElem?_toArray → aU,length → aV,getElem_map → aZ,drop_zero → bB,take_eq_take_min → bI,map → bJ,take_succ_cons → bN,flatMap_append → bO,drop_succ_cons → bP,range → bR,map_append → bV,take_zero → bW
open Rat renaming mul_le_mul_of_nonneg_right → ah,le_trans → ay,divInt → aC,intCast_mul → aJ,le_of_lt → aN,floor_intCast → aP,intCast_lt_intCast → aR,floor_monotone → aW,div_def → bc,intCast_neg → bm,le_refl → bK,divInt_mul_right → bL,sub_eq_add_neg → bS,divInt_eq_div → bU,mul_assoc → bY,mul_one → ee
open Bool renaming and_eq_true → ai
open And renaming intro → ax
open Int renaming toNat_natCast → aB,natCast_pow → aL,natCast_mul → aM,natAbs_natCast → aX,toNat → bD,pow_pos → bQ,neg_mul → ek
open Go.Value renaming bool → aH,int → bC
namespace Go.Proofs.YtbpmnjieoncbcaaGreatDoor
variable{xs:List (Fr×Rat)}{l:List (List UInt8×List UInt8)}{F:Gs}{bs on x:List (Rat×Rat)}{B D L Q S T Z i k m n:Nat}{w:World}{y:X5}{b:Int}{fr t2:Rat}{es:List (List UInt8)}{α:Type}{vb:List J3}{ra rb:Sr}{rl:List Pt}
open Go.RowKit Ig
def Gj(rs:List (List Tm))(bs:List (Rat×Rat)):List Rat:=rs.map λp=>qU (XM bs p)
def nuR(e:Int)(xs:List Rat):Int×List Rat:=if e≠0 then(e,[])else(if xs.any Jt=true then 4 else 0,if xs.any Jt=true then[]else xs)
def cK{e:Int}{xs:List Rat}(h:e≠0):nuR e xs=(e,[]):=by unfold nuR;rw[if_pos h]
def CD(xs:List Rat):nuR 0 xs=(if xs.any Jt=true then 4 else 0,if xs.any Jt=true then[]else xs):=rfl
def NxR(F:Gs)(c:Sr)(xs:List Rat):Prop:=Qx F c.q c.n 1 ((xs.map Js).map tx)/\c.n=xs.length/\c.n<=c.cap
def NxR.nil(F:Gs):NxR F ⟨none,0,0⟩ []:=⟨Qx.nil F none 1,rfl,aa _⟩
def QAr{l:List Rat}(h:xs.map (·.2)=l):zC xs=l.map Js:=by rw[<-h];simp[zC]
def uN{l:List Rat}(h:xs.map (·.2)=l):(xs.any λp=>Jt p.2)=l.any Jt:=by rw[<-h,List.any_map,Function.comp_def]
structure SdJ(vs:List Rat) where
 i:Nat
 v:Value
 ob:List (Nat×Obj)
 xs:List (Fr×Rat)
 le:i<=vs.length
 hr:Q9 118 4 v i (Fo xs) ob
 hx:xs.map (·.2)=vs.take i
def SdJ.len{vs:List Rat}(s:SdJ vs):s.xs.length=s.i:=by
 have h:=congrArg aV s.hx;have h2:=s.le;rw[ab,List.length_take]at h;omega
def qh(xs:List (Fr×Rat))(c:Fr)(x:Rat):Fo (xs++[(c,x)])=Fo xs++Kl c:=by unfold Fo;rw[bO];simp
def R8.snoc{c:Fr}{x:Rat}(h:R8 F xs)(k:JN F c x):R8 F (xs++[(c,x)]):=λp hp=>by
 rcases List.mem_append.1 hp with hp | hp
 ·exact h p hp
 rw[List.mem_singleton.1 hp];exact k
def SdJ.next{vs:List Rat}(s:SdJ vs)(h:s.i<vs.length){v:Value}{ob:List (Nat×Obj)}(c:Fr)(x:Rat)(hr:Q9 118 4 v (s.i+1) (Fo s.xs++Kl c) ob)(hx:x=el vs s.i):SdJ vs:=⟨s.i+1,v,ob,s.xs++[(c,x)],h,by rw[qh];exact hr,by rw[bV,s.hx,XU h,hx];rfl⟩
def pf(c:Fr):∀v∈Kl c,v.oneCell'=true:=λv hv=>by
 simp only[Kl,aD,av,or_false]at hv;rcases hv with rfl | rfl | rfl | rfl<;>rfl
def gm{rs:List (List Tm)}(h:i<rs.length):el (Gj rs bs) i=qU (XM bs (el rs i)):=by rw[JW (by simp[Gj];exact h),JW h];simp[Gj]
def xj(rs:List (List Tm))(bs:List (Rat×Rat)):(Gj rs bs).length=rs.length:=by simp[Gj]
structure QHD(rs:List (List Tm))(bs:List (Rat×Rat)):Prop where
 ev:∀i,i<rs.length->OX bs (el rs i)
 sz:∀i,i<rs.length->XN (XM bs (el rs i)) 100000000
 mg:∀x∈Gj rs bs,JU x<=100000000
theorem xi{t:List UInt8×List UInt8}{r:Sr}(hF:Fits F w)(hGl:JE F)(hy:ZH F y)(ht:Ww y)(htl:t.1.length<=1000000/\t.2.length<=1000000)(hx:KO F r l)(hc:GZ r l)(hok:BE y t l=0->QHD y.rs (Q8 t::lV l)):
  QV prog 46 [y.v,.agg #[tx t.1,tx t.2],r.v] w F (λ(c:Sr)=>.tuple #[c.v,.int .i64 (nuR (BE y t l) (Gj y.rs (Q8 t::lV l))).1]) (λc F=>NxR F c (nuR (BE y t l) (Gj y.rs (Q8 t::lV l))).2):=by
 refine QV.intro (G:=λF=>JE F/\ZH F y/\KO F r l) func46 rfl wy rfl rfl hF (λF' hF'=>⟨hGl.le hF',hy.le hF',hx.le hF'⟩)<|QI7<|Qs rfl (vs:=[_,_,_]) rfl λb3=>Qs rfl (vs:=[_,_]) rfl λb4=>QH1 rfl<|wQ rfl<|QG<|QI7<|QA (wI I J8 .u1)<|QA (wH I Jq .here)<|QH0 rfl<|QI rfl (λ_ _ f k=>El (y:=y) f k.1 k.2.1 ht htl k.2.2 hc) λ_=>wQ rfl<|wR rfl<|QA (QT rfl rfl rfl)<|QE<|QC ?_
 refine QR I (λhc2=>?_) λhc2=>?_
 ·have h17:BE y t l≠0:=bne_iff_ne.1 hc2;refine wA 8 I ?_;exact Jd ((⟨none,0,0⟩:Sr)) I (wO I I) (by rw[cK h17]) λF h9=>by rw[cK h17];exact NxR.nil F
 have h17:BE y t l=0:=bne_eq_false_iff_eq.1 hc2;have hok:=hok h17;have hye:y.e=0:=JA h17 _ (.head _);have hts:=JA h17 (XX t.1 t.2) (.tail _ (.head _));have hbx:YN y.nm.n l=0:=JA h17 _ (.tail _ (.tail _ (.head _)));have ho:=hy.ok hye;have hn1:=ho.n1;have hn0:=ho.n0;have hrn:=ho.rn;have hxl:=(Xs hbx).1;have hrs:y.rs.length=y.nm.n:=by unfold X5.rs;rw[ab,hy.Kx,hrn]
 have hsl:(Gj y.rs (Q8 t::lV l)).length=y.nm.n:=by rw[xj,hrs]
 refine QJL 4 I<|wQ rfl<|QG<|QI7<|QA (wI I J8 .u1)<|QI rfl (λ_ _ f k=>ZX (y:=y) f k.1.1 k.1.2.1 ht ho) λc20=>JM _ (λw F hF ⟨⟨⟨hGl,hy,hx⟩,_⟩,h20⟩=>ax h20.Kx (h20.pn ho.short)) λhnn=>?_
 obtain⟨hn20,hp20⟩:=hnn;refine QA (ZY rfl)<|QA (QH rfl Bi YJ)<|QA (Zr (c:=#[c20.rt.v,c20.st.v]) (T':=151) rfl YJ (λF h9=>h9.2.Hy) rfl)<|QA (Qh rfl YW)<|QH0 rfl<|QHz<|QW<|JV (ι:=SdJ (Gj y.rs (Q8 t::lV l))) [(2,_),(4,_),(23,_),(24,_)] (λi=>[(9,i.v),(25,.int .i64 ((i.i:Nat):Int))]) (λi=>(b4,.cells #[tx t.1,tx t.2] 38 (0,0))::i.ob) (λi F=>R8 F i.xs) (λi=>c20.rt.n-i.i) (⟨0,.slice none 0 0,[],[],aI _,.nil,rfl⟩) wV wT (tE) (λ_ _ p h=>by cases h) λi=>?_
 simp only[aj,ao];have hi:=i.le;refine wA 6 I ?_;refine QR I (λhc2=>?_) λhc2=>?_
 ·have hlt:i.i<c20.rt.n:=wk<|QJG hc2
  have hlr:i.i<y.rs.length:=O;refine XS _ (λw F hF ⟨⟨⟨⟨hGl,hy,hx⟩,_⟩,h20⟩,hS⟩=>ax (h20.at (show i.i<c20.rt.n by omega)).2 h20.len) (λhpp=>?_);obtain⟨heq,hpl⟩:=hpp;refine QJL 6 I<|QA (Q3 (n:=c20.rt.n) i.i (λF h9=>h9.1.2.row) rfl rfl YW YI O)<|QA (Q5 (n:=c20.rt.n) ((i.i)*1) (λF h9=>h9.1.2.row) O rfl YI (XL (f:=λe:WA=>e.1.v) (l:=c20.ps) O))<|QJK 6 I<|QA (wH I Jq .here)<|QI I (λ_ _ f k=>Ro f k.1.1.1.1 hts htl) λc32=>QH0 I<|QI I (λ_ _ f k=>BA f k.1.1.1.1.1 k.1.1.1.1.2.2 hc (Xs hbx).2) λc34=>JM _ (λ_ _ f k=>k.2.nl) λhn34=>?_
  rw[Xc]at hn34;refine QI I (λ_ _ f k=>Dy (pa:=el c20.ps i.i) (x:=c32) (t:=Q8 t) f (k.1.1.1.2.at O).1 k.1.2 k.2 O (by have:=hp20 _ (Qv (show i.i<c20.ps.length by omega));omega) (by rw[heq];exact hok.ev _ hlr)) (λc35=>?_);rw[heq];refine QI I (λ_ _ f k=>kB f k.2 (hok.sz _ hlr)) (λc36=>Qb I (Q4 XZ) QN Jy I I λb37=>?_);refine KB (bs1:=[_]) (ob:=i.ob) (n:=i.i) (k:=1) (sz:=4) (news:=(Kl c36)) I I XZ QN Jy I QB0 i.hr (Src.row (off:=0) tB (λj q hq=>by rw[ar];rw[aU];exact hq) rfl) O O (pf _) (λv38 ob38 hr38=>?_);refine wB 2 I<|Qk<|QC<|QB<|QA (Qw I I O)<|wB 2 I ?_
  exact Qm (i.next O c36 _ hr38 (gm hlr).symm) (by show c20.rt.n-(i.i+1)<c20.rt.n-i.i;omega) wX QIM λF ⟨⟨⟨⟨⟨⟨⟨⟨⟨hGl,hy,hx⟩,_⟩,h20⟩,hS⟩,h32⟩,h34⟩,h35⟩,h36⟩,hs37⟩=>⟨⟨⟨⟨hGl,hy,hx⟩,trivial⟩,h20⟩,hS.snoc h36⟩
 have hge:i.i=(Gj y.rs (Q8 t::lV l)).length:=by have:=QJH hc2;have:=i.le;omega
 have hzx:∀p∈i.xs,JU p.2<=100000000:=λp hp=>hok.mg _ (by have e:=i.hx;rw[hge,au]at e;rw[<-e];exact aK hp);have hxe:i.xs.map (·.2)=(Gj y.rs (Q8 t::lV l)):=by have e:=i.hx;rw[hge,au]at e;exact e
 have hxl2:=i.len;have hany:=uN hxe;refine Qz ?_
 repeat first|refine QZ ?_|refine QQ wy ?_
 refine Qa<|QJM 4 I ?_
 have hxl:=i.len;obtain⟨⟨rq,rn,rc⟩,hv2,hrn,hrc,hfix⟩:=Q9.fix (w0:=w) (F0:=F) (bs1:=[_]) (G:=_) i.hr;dsimp only at hrn hrc hfix;subst hrn;refine YS hfix ?_;rw[hv2];dsimp only[Sr.v];refine QH0 I<|QI I (λw F g k=>kP (f:=87) (c1:=[]) (c2:=[]) (p:=λe:Fr×Rat=>Jt e.2) (G0:=λF=>JE F/\R8 F i.xs) g (λF F' hle h=>⟨h.1.le hle,h.2.le hle⟩) ⟨k.1.1.1.1.1,k.1.2⟩ k.2 hxl2 O λe he w F g hG=>EU g hG.1 (hG.2 e he) (hzx e he)) λ_=>QE<|QC ?_
 refine QR I (λhc2=>?_) λhc2=>?_
 ·have hL:(Gj y.rs (Q8 t::lV l)).any Jt=true:=by rw[<-hany];exact hc2
  refine wA 7 I ?_;exact Jd ((⟨none,0,0⟩:Sr)) I (wO I I) (by rw[h17,CD,if_pos hL]) λF h9=>by rw[h17,CD,if_pos hL,if_pos hL];exact NxR.nil F
 have hL:(Gj y.rs (Q8 t::lV l)).any Jt=false:=by rw[<-hany];exact hc2
 refine QJL 5 I<|QI I (λ_ _ f k=>Lm f k.1.1.1.1.1.1 k.1.2 k.1.1.2 hxl2 O hzx) λc43=>QJK 5 I ?_
 exact Jd (c43) rfl (wO I I) (by rw[h17,CD,hL]<;>rfl) λF h9=>by rw[h17,CD,hL];show NxR F c43 (Gj y.rs (Q8 t::lV l));exact⟨by rw[<-QAr hxe];exact h9.2.1,by rw[h9.2.2.1];exact hge,h9.2.2.2⟩
def Lw(rs:List (List Tm))(bs:List (Rat×Rat))(i:Nat):Nat->Rat
 |0=>((0:Int):Rat)
 |v+1=>Lw rs bs i v+qU (XM bs (Xv (Yz (v+1) (el rs i))))
def Ha(rs:List (List Tm))(bs:List (Rat×Rat))(n:Nat):Nat->Rat
 |0=>((0:Int):Rat)
 |i+1=>N2 (Ha rs bs n i) (Lw rs bs i n)
structure QE5(rs:List (List Tm))(bs:List (Rat×Rat))(n:Nat):Prop where
 pw:∀p∈rs,∀t∈p,PW t.2/\n<t.2.length
 lp:∀p∈rs,p.length<=100000
 sp:∀p∈rs,∀t∈p,JU t.1<=20000000
 der:∀p∈rs,∀v,v<n->KD (Yz (v+1) p)<=40000000
 ln:∀p∈rs,∀v,v<n->(Xv (Yz (v+1) p)).length<=100000
 ev:∀p∈rs,∀v,v<n->OX bs (Xv (Yz (v+1) p))
 sz:∀p∈rs,∀v,v<n->XN (XM bs (Xv (Yz (v+1) p))) 100000000
 mg:∀p∈rs,∀v,v<n->JU (qU (XM bs (Xv (Yz (v+1) p))))<=100000000
 sm:∀i,i<rs.length->∀k,k<=n->JU (Lw rs bs i k)<=100000000
 mo:∀i,i<=rs.length->JU (Ha rs bs n i)<=100000000
structure FrJ(n:Nat) where
 i:Nat
 c:Fr
 le:i<=n
def lpR(e:Int)(x:Rat):Int×List UInt8:=if e≠0 then(e,[])else(if Jt x=true then 4 else 0,if Jt x=true then[]else Js x)
def QEO{e:Int}{x:Rat}(h:e≠0):lpR e x=(e,[]):=by unfold lpR;rw[if_pos h]
def cO(x:Rat):lpR 0 x=(if Jt x=true then 4 else 0,if Jt x=true then[]else Js x):=rfl
theorem FJ{t:List UInt8×List UInt8}{r:Sr}(hF:Fits F w)(hGl:JE F)(hy:ZH F y)(ht:Ww y)(htl:t.1.length<=1000000/\t.2.length<=1000000)(hx:KO F r l)(hc:GZ r l)(hok:BE y t l=0->QE5 y.rs (Q8 t::lV l) l.length):
  Qg prog 47 [y.v,.agg #[tx t.1,tx t.2],r.v] w F (.tuple #[tx (lpR (BE y t l) (Ha y.rs (Q8 t::lV l) l.length y.rs.length)).2,.int .i64 (lpR (BE y t l) (Ha y.rs (Q8 t::lV l) l.length y.rs.length)).1]):=by
 have hxr:=hx.len;refine QV.intro (G:=λF=>JE F/\ZH F y/\KO F r l) func47 rfl wy rfl rfl hF (λF' hF'=>⟨hGl.le hF',hy.le hF',hx.le hF'⟩)<|QI7<|Qs rfl (vs:=[_,_,_]) rfl λb3=>Qs rfl (vs:=[_,_]) rfl λb4=>QH1 rfl<|wQ rfl<|QG<|QI7<|QA (wI I J8 .u1)<|QA (wH I Jq .here)<|QH0 rfl<|QI rfl (λ_ _ f k=>El (y:=y) f k.1 k.2.1 ht htl k.2.2 hc) λ_=>wQ rfl<|wR rfl<|QA (QT rfl rfl rfl)<|QE<|QC ?_
 refine QR I (λhc2=>?_) λhc2=>?_
 ·have TM:BE y t l≠0:=bne_iff_ne.1 hc2;refine wA 8 I ?_;exact Jd (()) I (wO I I) (by rw[QEO TM]) w8
 have TM:BE y t l=0:=bne_eq_false_iff_eq.1 hc2;have hok:=hok TM;have hye:y.e=0:=JA TM _ (.head _);have hts:=JA TM (XX t.1 t.2) (.tail _ (.head _));have hbx:YN y.nm.n l=0:=JA TM _ (.tail _ (.tail _ (.head _)));have ho:=hy.ok hye;have hn1:=ho.n1;have hn0:=ho.n0;have hrn:=ho.rn;have hxl:=(Xs hbx).1;have hrs:y.rs.length=y.nm.n:=by unfold X5.rs;rw[ab,hy.Kx,hrn]
 refine QJL 4 I<|QI rfl (λ_ _ f k=>TO (n:=0) f wu wu) λc21=>Qc Jy λb9=>QU (vs:=[_,_,_,_]) rfl rfl rfl QN rfl .here .h4 wV<|QJK 5 I<|QA (wI I J8 .u2)<|QI rfl (λ_ _ f k=>ZX (y:=y) f k.1.1.1 k.1.1.2.1 ht ho) λc23=>JM _ (λw F hF ⟨⟨⟨⟨hGl,hy,hx⟩,_⟩,h21⟩,h23⟩=>ax h23.Kx (h23.pn ho.short)) λhnn=>?_
 obtain⟨hn23,hp23⟩:=hnn;refine QA (ZY I)<|QA (QH I Bi YJ)<|QA (Zr (c:=#[c23.rt.v,c23.st.v]) (T':=151) rfl YJ (λF h9=>h9.2.Hy) rfl)<|QA (Qh I YW)<|QJK 4 I<|JV (ι:=FrJ y.rs.length) [(2,_),(4,_),(9,_),(26,_),(27,_)] (λi=>[(28,.int .i64 ((i.i:Nat):Int))]) (λi=>[(b9,.cells (Kl i.c).toArray 118 (0,0)),(b4,.cells #[tx t.1,tx t.2] 38 (0,0))]) (λi F=>JN F i.c (Ha y.rs (Q8 t::lV l) l.length i.i)) (λi=>y.rs.length-i.i) (⟨0,c21,aI _⟩) wW wS (tF) (λ_ h=>h.1.2) λi=>?_
 simp only[aj,ao];have hi:=i.le;refine wA 6 I ?_;refine QR I (λhc2=>?_) λhc2=>?_
 ·have hlt:i.i<c23.rt.n:=wk<|QJG hc2
  have hlr:i.i<y.rs.length:=O;have hem:=Qv hlr;refine XS _ (λw F hF ⟨⟨⟨⟨⟨hGl,hy,hx⟩,_⟩,h21⟩,h23⟩,hS⟩=>ax (h23.at (show i.i<c23.rt.n by omega)).2 h23.len) (λhpp=>?_);obtain⟨heq,hpl⟩:=hpp;refine QJL 6 I<|QA (Q3 (n:=c23.rt.n) i.i (λF h9=>h9.1.2.row) rfl rfl YW YI O)<|QA (Q5 (n:=c23.rt.n) ((i.i)*1) (λF h9=>h9.1.2.row) O rfl YI (XL (f:=λe:WA=>e.1.v) (l:=c23.ps) O))<|QJK 5 I<|QI I (λ_ _ f k=>TO (n:=0) f wu wu) λc32=>Qc Jy λb12=>QU (vs:=[_,_,_,_]) I I I QN I .here .h4 wV<|QJK 6 I<|QA (Qh I J9)<|wB 2 I ?_
  refine QC<|QW<|JV (ι:=FrJ l.length) [(2,_),(4,_),(9,_),(11,_),(12,_),(26,_),(27,_),(28,_),(34,_)] (λi2=>[(35,.int .i64 ((i2.i:Nat):Int))]) (λi2=>[(b12,.cells (Kl i2.c).toArray 118 (0,0)),(b9,.cells (Kl i.c).toArray 118 (0,0)),(b4,.cells #[tx t.1,tx t.2] 38 (0,0))]) (λi2 F=>JN F i2.c (Lw y.rs (Q8 t::lV l) i.i i2.i)) (λi2=>l.length-i2.i) (⟨0,c32,aI _⟩) we wS QIM tB λi2=>?_
  simp only[aj,ao];have hi2:=i2.le;refine wA 6 I ?_;refine QR I (λhc2=>?_) λhc2=>?_
  ·have hlt2:i2.i<l.length:=wk<|QJG hc2
   refine QJL 10 I<|Jp 12 QIM mixed wm wm ?_
   simp only[bN,bW,bP,bB];refine QK (wJ I QN .here)<|QK (QD I)<|QK (QD I)<|QK (Qw I I O) ?_
   rw[show(((i2.i:Nat):Int)+1)=((i2.i+1:Nat):Int)from rfl];refine QP I (λ_ _ f k=>Lk (p:=el c23.ps i.i) (v:=i2.i+1) f k.1.1.1.1.1.1.1 (k.1.1.1.2.at O).1 (Od (Q:=λt=>PW t.2/\i2.i+1<t.2.length) heq λt htt=>⟨(hok.pw _ hem t htt).1,wk<|(hok.pw _ hem t htt).2⟩) (by have h1:=congrArg aV heq;rw[Ye]at h1;have:=hok.lp _ hem;omega) (Od (Q:=λt=>JU t.1<=20000000) heq (hok.sp _ hem)) (by rw[heq];exact hok.der _ hem _ hlt2)) (λc42=>YU _ (λ_ _ f h=>ax h.2.eqT (ax h.2.2.2.2.2 h.2.len)) λe42=>?_);obtain⟨e42,l42,m42⟩:=e42;rw[heq]at e42 m42;have n42:=hok.ln _ hem _ hlt2;refine QK (wH I Jq .u2)<|QP I (λ_ _ f k=>Ro f k.1.1.1.1.1.1.1.1 hts htl) λc44=>QK (QD I)<|QP I (λ_ _ f k=>BA f k.1.1.1.1.1.1.1.1.1 k.1.1.1.1.1.1.1.1.2.2 hc (Xs hbx).2) λc46=>YU _ (λ_ _ f k=>k.2.nl) λhn46=>?_
   rw[Xc]at hn46;refine QP I (λ_ _ f k=>Dy (pa:=c42) (x:=c44) (t:=Q8 t) f k.1.1.2.self k.1.2 k.2 O O (by rw[e42];exact hok.ev _ hem _ hlt2)) (λc47=>?_);rw[e42];refine QP I (λ_ _ f k=>kB f k.2 (hok.sz _ hem _ hlt2)) (λc48=>QP I (λ_ _ f k=>Dd (x:=i2.c) (y:=c48) (r:=Lw y.rs (Q8 t::lV l) i.i i2.i) (s:=qU (XM (Q8 t::lV l) (Xv (Yz (i2.i+1) (el y.rs i.i))))) f k.1.1.1.1.1.2 k.2 (hok.sm _ hlr _ O) (hok.mg _ hem _ hlt2)) λc49=>ZV<|QU (vs:=[_,_,_,_]) I I I QN I .here .h4 wV<|QE<|Qk<|QC<|QB<|QA (Qw I I O)<|wB 2 I ?_);exact Qm (⟨i2.i+1,c49,hlt2⟩) (by show l.length-(i2.i+1)<l.length-i2.i;omega) wg QIM λF ⟨⟨⟨⟨⟨⟨⟨⟨⟨⟨⟨⟨⟨hGl,hy,hx⟩,_⟩,h21⟩,h23⟩,hS⟩,h32⟩,hS2⟩,h42⟩,h44⟩,h46⟩,h47⟩,h48⟩,h49⟩=>⟨⟨⟨⟨⟨⟨⟨hGl,hy,hx⟩,trivial⟩,h21⟩,h23⟩,hS⟩,h32⟩,h49⟩
  have hge2:i2.i=l.length:=by have:=QJH hc2;have:=i2.le;omega
  refine Qz ?_
  repeat first|refine QZ ?_|refine QQ wy ?_
  refine Qa<|QC<|QB<|QA (wJ I QN .u1)<|QA (wJ I QN .here)<|Qb I (Q4 XZ) QN Jy I I λb53=>QI I (λ_ _ f k=>Xm (x:=i.c) (r:=Ha y.rs (Q8 t::lV l) l.length i.i) (ps:=[(i2.c,Lw y.rs (Q8 t::lV l) i.i i2.i)]) (n:=1) f k.1.1.1.2 (Qx.of k.2 I) (KS k.1.2) rfl wu ⟨hok.mo _ O,KS (hok.sm _ hlr _ O)⟩) λc54=>QU (vs:=[_,_,_,_]) I I I QN I .u1 .h4 wV<|QE<|Qk<|QC<|QB<|QA (Qw I I O)<|wB 2 I ?_
  exact Qm (⟨i.i+1,c54,hlr⟩) (by show y.rs.length-(i.i+1)<y.rs.length-i.i;omega) wX ((.cons _ QIM)) λF ⟨⟨⟨⟨⟨⟨⟨⟨⟨hGl,hy,hx⟩,_⟩,h21⟩,h23⟩,hS⟩,h32⟩,hS2⟩,hs53⟩,h54⟩=>⟨⟨⟨⟨⟨hGl,hy,hx⟩,trivial⟩,h21⟩,h23⟩,by show JN F c54 (N2 (Ha y.rs (Q8 t::lV l) l.length i.i) (Lw y.rs (Q8 t::lV l) i.i l.length));have e:=h54;rw[hge2]at e;exact e⟩
 have hge:i.i=y.rs.length:=by have:=QJH hc2;have:=i.le;omega
 refine Qz ?_
 repeat first|refine QZ ?_|refine QQ wy ?_
 refine Qa<|QJM 4 I<|QA (wJ I QN .here)<|QI I (λ_ F f k=>EU f k.1.1.1.1.1 (show JN F i.c (Ha y.rs (Q8 t::lV l) l.length y.rs.length) by have e:=k.2;rw[hge]at e;exact e) (hok.mo _ (aa _))) λ_=>QE<|QC ?_
 refine QR I (λhc2=>?_) λhc2=>?_
 ·refine wA 7 I ?_;exact Jd (()) I (wO I I) (by rw[TM,cO,if_pos hc2,if_pos hc2]<;>rfl) w8
 refine QJL 4 I<|QA (wJ I QN .here)<|QI I (λ_ F f k=>N4 f k.1.1.1.1.1.1 (show JN F i.c (Ha y.rs (Q8 t::lV l) l.length y.rs.length) by have e:=k.1.2;rw[hge]at e;exact e) (hok.mo _ (aa _))) λ_=>QJK 5 I ?_
 exact Jd (()) I (wO I I) (by rw[TM,cO,hc2]<;>rfl) w8
structure WW where
 e:List UInt8
 w:Sr
 wl:List (List UInt8×List UInt8)
 l:Sr
 ll:List (List UInt8×List UInt8)
variable{tb:List WW}
instance :Inhabited WW:=⟨⟨[],default,[],default,[]⟩⟩
def uR(b:WW):List Value:=[tx b.e,.slice b.w.q b.w.n b.w.cap,.slice b.l.q b.l.n b.l.cap]
def Cf(b:WW):(uR b).length=3:=rfl
structure IS(F:Gs)(r:Sr)(tb:List WW):Prop where
 row:Qx F r.q r.n 3 (tb.flatMap uR)
 len:tb.length=r.n
 bx:∀b∈tb,KO F b.w b.wl/\KO F b.l b.ll
theorem IS.le{F':Gs}{r:Sr}(h:IS F r tb)(k:Gs.le F F'):IS F' r tb:=⟨h.row.le k,h.len,λb hb=>⟨(h.bx b hb).1.le k,(h.bx b hb).2.le k⟩⟩
structure QB5(r:Sr)(tb:List WW):Prop where
 n:r.n<=1000000
 t:r.n>1000\/∀b∈tb,b.e.length<=1000000/\GZ b.w b.wl/\GZ b.l b.ll
def Hb(tb:List WW)(i:Nat):Rat:=if i=0 then((0:Int):Rat)else Qo (el tb (i-1)).e
def RW(tb:List WW)(i:Nat):Hb tb (i+1)=Qo (el tb i).e:=by unfold Hb;rw[if_neg O,Nat.add_sub_cancel]
def vV(n:Nat)(tb:List WW)(i:Nat):Int:=Qu [Na (Hb tb i) (el tb i).e,YN n (el tb i).wl,YN n (el tb i).ll]
def Dz(n:Nat)(tb:List WW):Int:=if tb.length>1000 then 5 else Qu ((bR tb.length).map (vV n tb))
structure QHB(n:Nat)(tb:List WW) extends ZO (bR tb.length) (vV n tb) where
 c:Fr
 ok:JU (Hb tb i)<=2400
structure QHA(n:Nat)(tb:List WW):Prop where
 len:tb.length<=1000
 e:∀i,i<tb.length->Jk (el tb i).e=0
 la:∀i,i<tb.length->Vb (Hb tb i) (Qo (el tb i).e)=0
 w:∀i,i<tb.length->YN n (el tb i).wl=0
 l:∀i,i<tb.length->YN n (el tb i).ll=0
theorem gO(h:Dz n tb=0):QHA n tb:=by
 unfold Dz at h;by_cases g:tb.length>1000
 ·rw[if_pos g]at h;cases h
 rw[if_neg g]at h;have hz:∀i,i<tb.length->vV n tb i=0:=λi hi=>JA h _ (aK (List.mem_range.2 hi));have h3:=λi hi=>EV (hz i hi);exact⟨O,λi hi=>(G3 (h3 i hi).1).1,λi hi=>(G3 (h3 i hi).1).2,λi hi=>(h3 i hi).2.1,λi hi=>(h3 i hi).2.2⟩
theorem ID{r:Sr}(hF:Fits F w)(hGl:JE F)(hy:ZH F y)(hx:IS F r tb)(hc:QB5 r tb):Qg prog 97 [y.v,r.v] w F (.int .i64 (Dz y.nm.n tb)):=by
 have hxr:=hx.len;have hcn:=hc.n;refine QV.intro (G:=λF=>JE F/\ZH F y/\IS F r tb) func97 rfl wy rfl rfl hF (λF' hF'=>⟨hGl.le hF',hy.le hF',hx.le hF'⟩)<|QI7<|Qs rfl (vs:=[_,_,_]) rfl λb2=>wQ rfl<|QG<|wR rfl<|QA (Qh rfl EA)<|QA (QT rfl rfl rfl)<|QE<|QC ?_
 refine QR I (λhc2=>?_) λhc2=>?_
 ·have h12:=QJG hc2;refine wA 6 I ?_;exact QJO I I (congrArg (bC .i64) (by unfold Dz;rw[if_pos O])) w8
 have h12:=QJH hc2;have hct:∀b∈tb,b.e.length<=1000000/\GZ b.w b.wl/\GZ b.l b.ll:=hc.t.resolve_left O;refine QJL 4 I<|QI I (λ_ _ f k=>TO (n:=0) f wu wu) λc13=>Qc Jy λb5=>QU (vs:=[_,_,_,_]) I I I QN I .here .h4 wV<|QJK 6 I<|QA (Qh I EA)<|QJK 4 I<|JV (ι:=QHB y.nm.n tb) [(2,_),(5,_),(14,_),(15,_)] (λi=>[(16,.int .i64 ((i.i:Nat):Int))]) (λi=>[(b5,.cells (Kl i.c).toArray 118 (0,0)),(b2,.cells #[.slice y.nm.q y.nm.n y.nm.cap,.slice y.rt.q y.rt.n y.rt.cap,.slice y.st.q y.st.n y.st.cap] 26 (0,0))]) (λi F=>JN F i.c (Hb tb i.i)) (λi=>tb.length-i.i) (⟨ZO.start _ _,c13,by show JU ((0:Int):Rat)<=2400;decide⟩) wV wS QIM tB λi=>?_
 simp only[aj,ao];have hi:=i.le;rw[aG]at hi;refine wA 6 I ?_;refine QR I (λhc2=>?_) λhc2=>?_
 ·have hlt:i.i<tb.length:=wk<|QJG hc2
  have hem:=Qv hlt;refine QJL 6 I<|QA (Q3 (n:=r.n) i.i (λF h9=>h9.1.1.2.2.row) rfl rfl EA YO O)<|QA (JK (n:=r.n) (vs:=[tx (el tb i.i).e,.slice (el tb i.i).w.q (el tb i.i).w.n (el tb i.i).w.cap,.slice (el tb i.i).l.q (el tb i.i).l.n (el tb i.i).l.cap]) ((i.i)*3) (λF h9=>h9.1.1.2.2.row) O rfl YO I λj v hv=>JQ (f:=uR) (l:=tb) Cf O hv)<|Qc Du λb7=>QU (vs:=[_,_,_]) I I I YO I .here .h3 wU<|QJK 5 I<|QA (wJ I QN .u1)<|QA (QH I Rj JP)<|QA (Qf I JP .here .h1)<|QI I (λ_ _ f k=>Tc f k.1.1.1 k.2 i.ok (hct _ hem).1) λ_=>QJK 6 I ?_
  refine QJK 3 I ?_;refine QR I (λhc2=>?_) λhc2=>?_
  ·have h25:Na (Hb tb i.i) (el tb i.i).e≠0:=bne_iff_ne.1 hc2;refine wA 7 I ?_
   repeat first|refine Q6 ?_|refine Qy ?_
   exact QJO I I (congrArg (bC .i64) (by unfold Dz;rw[if_neg O];have h9:=i.toZO.hit (by rw[aG];exact hlt) (by rw[ZD hlt];unfold vV;rw[Zl h25];exact h25);rw[ZD hlt]at h9;rw[h9];unfold vV;rw[Zl h25])) w8
  have h25:Na (Hb tb i.i) (el tb i.i).e=0:=bne_eq_false_iff_eq.1 hc2;refine QJL 4 I<|JH QIM mixed wm<|QK (wI I J8 .u2)<|QK (QH I L7 JZ)<|QK (Qf I JZ .here (.skip .h1))<|QP I (λ_ _ f k=>Y9 (y:=y) f k.1.1.1.1 k.1.1.1.2.1 (k.1.1.1.2.2.bx _ hem).1 (hct _ hem).2.1) λ_=>QK (wI I J8 .u2)<|QK (QH I Uf JZ)<|QK (Qf I JZ .here (.skip (.skip .h1)))<|QP I (λ_ _ f k=>Y9 (y:=y) f k.1.1.1.1.1 k.1.1.1.1.2.1 (k.1.1.1.1.2.2.bx _ hem).2 (hct _ hem).2.2) λ_=>?_
  refine Qp I (Q4 ZJ) YV Hz I I (λb35=>?_) (λw h=>h.imp tC λF h=>h.1.1);refine QP I (λ_ _ f k=>YY f (Qx.of (cs:=bJ Jr [_,_]) k.2 I) wu) (λ_=>QK (QF I)<|Q7<|QJM 7 I ?_);refine QR I (λhc2=>?_) λhc2=>?_
  ·have h38:Qu [YN y.nm.n (el tb i.i).wl,YN y.nm.n (el tb i.i).ll]≠0:=bne_iff_ne.1 hc2;have hbx:vV y.nm.n tb i.i=Qu [YN y.nm.n (el tb i.i).wl,YN y.nm.n (el tb i.i).ll]:=by unfold vV;rw[h25,Zm]
   refine wA 7 I ?_
   repeat first|refine Q6 ?_|refine Qy ?_
   exact QJO I I (congrArg (bC .i64) (by unfold Dz;rw[if_neg O];have h9:=i.toZO.hit (by rw[aG];exact hlt) (by rw[ZD hlt,hbx];exact h38);rw[ZD hlt]at h9;rw[h9,hbx])) w8
  have h38:Qu [YN y.nm.n (el tb i.i).wl,YN y.nm.n (el tb i.i).ll]=0:=bne_eq_false_iff_eq.1 hc2;have hbx:vV y.nm.n tb i.i=0:=by unfold vV;rw[h25,Zm];exact h38
  refine QJL 3 I<|QA (QH I Rj JP)<|QA (Qf I JP .here .h1)<|QI I (λ_ _ f k=>Kj f k.1.1.1.1.1.1.1.1 (XH (G3 h25).1).1 (wk<|(hct _ hem).1)) λc42=>QU (vs:=[_,_,_,_]) I I I QN I .u1 .h4 wV<|QE<|Qk<|QC<|QB<|QA (Qw I I O)<|wB 2 I ?_
  exact Qm (⟨i.toZO.next (by rw[aG];exact hlt) (by rw[ZD hlt];exact hbx),c42,by show JU (Hb tb (i.i+1))<=2400;rw[RW];exact Yf (G3 h25).1⟩) (by show tb.length-(i.i+1)<tb.length-i.i;omega) wW ((.cons _ QIM)) λF ⟨⟨⟨⟨⟨⟨⟨⟨⟨hGl,hy,hx⟩,h13⟩,hS⟩,_⟩,_⟩,_⟩,hs35⟩,_⟩,h42⟩=>⟨⟨⟨hGl,hy,hx⟩,h13⟩,by show JN F c42 (Hb tb (i.i+1));rw[RW];exact h42⟩
 have hge:tb.length<=i.i:=wk<|QJH hc2
 refine Qz ?_
 repeat first|refine QZ ?_|refine QQ wy ?_
 refine Qa<|QJM 7 I ?_
 exact QJO I I (congrArg (bC .i64) (by unfold Dz;rw[if_neg O];exact i.toZO.stop (by rw[aG];exact hge))) w8
def Ci{P:Program}{l:List Oper}{Q:Exit->Act->World->Prop}{S0:World->Prop}{A r:List Nat}{N:Nat}{m:Sl}{w0:World}{F0:Gs}{bs:List (Nat×Obj)}{G:Gs->Prop}(p:Prop)(hp:∀w F,Fits F w->G F->p)(k:p->KT P l Q S0 A r N m w0 F0 bs G):KT P l Q S0 A r N m w0 F0 bs G:=λu β a w hu ha hx hw=>k (hw.pure hp) u β a w hu ha hx hw
def pL(x:Rat×Rat)(P:List Tm)(b:WW):Bool:=!(decide (Yb x.2 (XM ((Qo b.e,Qo b.e)::lV b.ll) P).1<0)||decide (Yb (XM ((Qo b.e,Qo b.e)::lV b.ll) P).2 x.1<0))
def NX(y:X5)(p:Pt)(tb:List WW):Int:=Qu [y.e,HZ p (y.nm.n:Int),Dz y.nm.n tb]
def yZ(y:X5)(p:Pt):Rat×Rat:=XM ((((0:Int):Rat),((0:Int):Rat))::y.vs) (X9 p)
def pK(y:X5)(p:Pt):Bool:=decide (Uo y.rs (X9 p) y.rs.length=[])
def cR(y:X5)(p:Pt)(tb:List WW):Bool×Int:=if NX y p tb≠0 then(false,NX y p tb)else if pK y p=true then(tb.all (pL (yZ y p) (X9 p)),0)else(false,7)
def cQ{p:Pt}{e:Int}(h:e≠0)(he:NX y p tb=e):cR y p tb=(false,e):=by unfold cR;rw[he,if_pos h]
def QEP{p:Pt}(he:NX y p tb=0)(h:pK y p=false):cR y p tb=(false,7):=by unfold cR;rw[he,if_neg wu,h];rfl
def ya{p:Pt}(he:NX y p tb=0)(h:pK y p=true):cR y p tb=(tb.all (pL (yZ y p) (X9 p)),0):=by unfold cR;rw[he,if_neg wu,if_pos h]
structure QHH(y:X5)(p:Pt)(tb:List WW):Prop where
 al:Ck y.rs (X9 p) (y.nm.n+1)
 e0:OX ((((0:Int):Rat),((0:Int):Rat))::y.vs) (X9 p)
 z0:XN (yZ y p) 100000000
 ev:∀b∈tb,OX ((Qo b.e,Qo b.e)::lV b.ll) (X9 p)
 zs:∀b∈tb,XN (XM ((Qo b.e,Qo b.e)::lV b.ll) (X9 p)) 100000000
def zc{p:Pt}{n:Nat}(hn:n<=24)(h:HZ p (n:Int)=0):Za p (n:Int)=0:=by
 unfold HZ at h;rwa [if_pos ((Bp _).2 O)]at h
theorem pM{a:SD}{r:Sr}(hF:Fits F w)(hGl:JE F)(hy:ZH F y)(ht:Ww y)(hR:Qx F a.1.q a.1.n 2 (a.2.flatMap DM))(hA:VT F a.2)(hta:Uq a)(hx:IS F r tb)(hc:QB5 r tb)(hok:NX y (YG a.2) tb=0->QHH y (YG a.2) tb):Qg prog 49 [y.v,a.1.v,r.v] w F (.tuple #[.bool (cR y (YG a.2) tb).1,.int .i64 (cR y (YG a.2) tb).2]):=by
 have hxr:=hx.len;have hcn:=hc.n;refine QV.intro (G:=λF=>JE F/\ZH F y/\Qx F a.1.q a.1.n 2 (a.2.flatMap DM)/\VT F a.2/\IS F r tb) func49 rfl wy rfl rfl hF (λF' hF'=>⟨hGl.le hF',hy.le hF',hR.le hF',hA.le hF',hx.le hF'⟩)<|QI7<|Qs rfl (vs:=[_,_,_]) rfl λb3=>QH1 rfl<|wQ rfl<|QG<|QI7<|QA (wI I J8 .here)<|QI rfl (λ_ _ f k=>Zt (y:=y) f k.1 k.2.1 ht) λ_=>wQ rfl<|wR rfl<|QA (QT rfl rfl rfl)<|QE<|QC ?_
 refine QR I (λhc2=>?_) λhc2=>?_
 ·have h20:y.e≠0:=bne_iff_ne.1 hc2;have hke:NX y (YG a.2) tb=y.e:=by unfold NX;rw[Zl h20]
  refine wA 8 I ?_;exact Jd (()) I (wO I I) (by rw[cQ h20 hke]) w8
 have h20:y.e=0:=bne_eq_false_iff_eq.1 hc2;have hke:NX y (YG a.2) tb=Qu [HZ (YG a.2) y.nm.n,Dz y.nm.n tb]:=by unfold NX;rw[h20,Zm]
 have ho:=hy.ok h20;have hn1:=ho.n1;have hn0:=ho.n0;have hsn:=ho.sn;have hsl:=hy.P3;refine QJL 4 I<|JH QIM mixed wm<|QK (QD I)<|QK (QH I Hl VG)<|QK (Qf I VG .here .h1)<|QK (Qh I Ku)<|QP I (λ_ _ f k=>Gy f k.1.1 k.1.2.2.1 k.1.2.2.2.1 hta.1 hta.2.1 hta.2.2) λ_=>QK (wI I J8 .here)<|QK (QD I)<|QP I (λ_ _ f k=>ID (y:=y) f k.1.1.1 k.1.1.2.1 k.1.1.2.2.2.2 hc) λ_=>?_
 refine Qp I (Q4 ZJ) YV Hz I I (λb30=>?_) (λw h=>h.imp tC λF h=>h.1.1);refine QP I (λ_ _ f k=>YY f (Qx.of (cs:=bJ Jr [_,_]) k.2 I) wu) (λ_=>QK (QF I)<|Q7<|QJM 7 I ?_);refine QR I (λhc2=>?_) λhc2=>?_
 ·have h33:Qu [HZ (YG a.2) y.nm.n,Dz y.nm.n tb]≠0:=bne_iff_ne.1 hc2;refine wA 8 I ?_;exact Jd (()) I (wO I I) (by rw[cQ h33 hke]) w8
 have h33:Qu [HZ (YG a.2) y.nm.n,Dz y.nm.n tb]=0:=bne_eq_false_iff_eq.1 hc2;rw[h33]at hke;have hok:=hok hke;have hpe:=zc hn1 (JA h33 _ (.head _));have opk:=H9 hpe;have hto:=gO (JA h33 (Dz y.nm.n tb) (.tail _ (.head _)));have hct:∀b∈tb,b.e.length<=1000000/\GZ b.w b.wl/\GZ b.l b.ll:=hc.t.resolve_left (wk hto.len);refine QJL 5 I<|QA (wI I J8 .here)<|QH0 I<|QI I (λw F hF ⟨⟨⟨⟨⟨⟨hGl,hy,hR,hA,hx⟩,_⟩,_⟩,_⟩,hs30⟩,_⟩=>UU (y:=y) hF hGl hy ht h20 hR hA hta hpe hok.al) λ_=>QJK 15 I<|QA (XB I)<|wB 1 I ?_
 refine QE<|QC ?_
 refine QR I (λhc2=>?_) λhc2=>?_
 ·have hki:pK y (YG a.2)=false:=by unfold pK;simpa using hc2
  refine wR I<|Qb I (Q4 ZJ) YV Hz I I λb48=>QI I (λ_ _ f k=>YY f (Qx.of (cs:=bJ Jr [0,7]) k.2 I) wu) λ_=>QJK 5 I ?_
  exact Jd (()) I (wO I I) (by rw[QEP hke hki]<;>rfl) w8
 have hki:pK y (YG a.2)=true:=by unfold pK;simpa using hc2
 refine QO<|QC<|wR rfl<|QI rfl (λ_ _ f k=>Nr f k.1.1.1.1.1.1.1 (a:=a) k.1.1.1.1.1.1.2.2.1 k.1.1.1.1.1.1.2.2.2.1 hta (H9 hpe) O) λc51=>JM _ (λ_ _ f h=>ax h.2.eqT (ax h.2.2.2.2.2 h.2.len)) λe51=>?_
 obtain⟨e51,l51,m51⟩:=e51;have hp51:c51.1.n<=64:=by have:=opk.len;unfold X9 at m51;rw[ab]at m51;omega
 refine wQ I<|QG<|Kr (r:=[0,1,2,3,4,5,6,7,8]) tC mixed wm rfl<|Jl 0 wm rfl rfl<|QK (QD I)<|JB<|Jl 3 wm rfl rfl<|QK (QH I YL JZ)<|JB<|Jl 4 wm rfl rfl<|QK (Qf I JZ .here (.skip (.skip .h1)))<|JB<|Kq (A:=[7]) (r:=[1,2,5,6,8]) wm<|XJ 1 wm wm wy tC w9 rfl rfl rfl (λ_=>rfl) (λ_ _ f k=>TO (n:=0) f wu wu) λc53=>XJ 2 wm wm wy tC tA rfl rfl rfl (λ_=>rfl) (λ_ _ f k=>Kd (x:=c53) (r:=((0:Int):Rat)) f k.2) λc54=>XJ 5 wm wm wy tC (λ_ h=>h.1.1) rfl rfl rfl (λ_=>rfl) (λ_ _ f k=>BN f k.1.1.1.1.1.1.1.1.1.1 k.1.1.1.1.1.1.1.1.1.2.1.st k.1.1.1.1.1.1.1.1.1.2.1.P3 O λs hs=>⟨ho.st s hs,ht.st s hs⟩) λc57=>Ci _ (λ_ _ f k=>k.2.nl) λhn57=>?_
 rw[ab,hsl]at hn57;refine XJ 6 wm wm wy tC (λ_ h=>h.1.1.1) rfl rfl rfl (λ_=>rfl) (λ_ _ f k=>Dy (pa:=c51) (x:=c54) (t:=(((0:Int):Rat),((0:Int):Rat))) (vb:=y.vs) f k.1.1.1.2.self k.1.2 k.2 O O (by rw[e51];exact hok.e0)) (λc58=>?_);rw[e51];refine K9 7 (d:=13) (T:=120) wm wm wy tC (λ_ h=>h.1.1.1.1) wm wm Jh (λb13=>Zw (vs:=[_,_,_,_,_,_,_,_]) 8 wm wm wy (.cons _ tC) (λ_ h=>h.1.1.1.1) rfl rfl (λ_=>rfl) (λ_=>rfl) rfl Qj I .here tC .h8 wZ ?_);refine V4 ?_ wm;refine QJM 5 I<|QA (Qh I EA)<|QJK 4 I<|JV (ι:=W9 tb (pL (yZ y (YG a.2)) (X9 (YG a.2)))) [(12,_),(13,_),(59,_),(60,_)] (λi=>[(61,.int .i64 ((i.i:Nat):Int))]) (λi=>[(b13,.cells (Xp c58).toArray 120 (0,0))]) (λi F=>True) (λi=>tb.length-i.i) (W9.start _ _) wV wS (tE) w8 λi=>?_
 simp only[aj,ao];have hi:=i.le;refine wA 6 I ?_;refine QR I (λhc2=>?_) λhc2=>?_
 ·have hlt:i.i<tb.length:=wk<|QJG hc2
  have hem:=Qv hlt;refine QJL 6 I<|QA (Q3 (n:=r.n) i.i (λF h9=>h9.1.1.1.1.1.1.1.1.1.1.1.1.2.2.2.2.row) rfl rfl EA YO O)<|QA (JK (n:=r.n) (vs:=[tx (el tb i.i).e,.slice (el tb i.i).w.q (el tb i.i).w.n (el tb i.i).w.cap,.slice (el tb i.i).l.q (el tb i.i).l.n (el tb i.i).l.cap]) ((i.i)*3) (λF h9=>h9.1.1.1.1.1.1.1.1.1.1.1.1.2.2.2.2.row) O rfl YO I λj v hv=>JQ (f:=uR) (l:=tb) Cf O hv)<|Qc Du λb15=>QU (vs:=[_,_,_]) I I I YO I .here .h3 wU<|QHz<|QG<|Kr (r:=[0,1,2,3,4,5,6,7,8,9,10]) tC mixed wm rfl<|Jl 0 wm rfl rfl<|QK (QD I)<|JB<|Jl 1 wm rfl rfl<|QK (QH I Rj JP)<|JB<|Jl 2 wm rfl rfl<|QK (Qf I JP .here .h1)<|JB<|Jl 5 wm rfl rfl<|QK (QH I Uf JZ) ?_
  refine JB<|Jl 6 wm rfl rfl<|QK (Qf I JZ .here (.skip (.skip .h1)))<|JB<|Kq (A:=[9]) (r:=[3,4,7,8,10]) wm<|XJ 3 wm wm wy tC w9 rfl rfl rfl (λ_=>rfl) (λ_ _ f k=>Kj f k.1.1.1.1.1.1.1.1.1.1.1.1.1 (XH (hto.e _ hlt)).1 (wk<|(hct _ hem).1)) λc68=>XJ 4 wm wm wy tC tA rfl rfl rfl (λ_=>rfl) (λ_ _ f k=>Kd (x:=c68) (r:=Qo (el tb i.i).e) f k.2) λc69=>XJ 7 wm wm wy tC (λ_ h=>h.1.1) rfl rfl rfl (λ_=>rfl) (λ_ _ f k=>BA f k.1.1.1.1.1.1.1.1.1.1.1.1.1.1.1 (k.1.1.1.1.1.1.1.1.1.1.1.1.1.1.2.2.2.2.bx _ hem).2 (hct _ hem).2.2 (Xs (hto.l _ hlt)).2) λc72=>Ci _ (λ_ _ f k=>k.2.nl) λhn72=>?_
  rw[Xc,(Xs (hto.l _ hlt)).1]at hn72;refine XJ 8 wm wm wy tC (λ_ h=>h.1.1.1) rfl rfl rfl (λ_=>rfl) (λ_ _ f k=>Dy (pa:=c51) (x:=c69) (t:=(Qo (el tb i.i).e,Qo (el tb i.i).e)) f k.1.1.1.1.1.1.1.1.2.self k.1.2 k.2 O O (by rw[e51];exact hok.ev _ hem)) (λc73=>?_);rw[e51];refine K9 9 (d:=16) (T:=120) wm wm wy tC (λ_ h=>h.1.1.1.1) wm wm Jh (λb16=>Zw (vs:=[_,_,_,_,_,_,_,_]) 10 wm wm wy (.cons _ tC) (λ_ h=>h.1.1.1.1) rfl rfl (λ_=>rfl) (λ_=>rfl) rfl Qj I .here tC .h8 wZ ?_);refine V4 ?_ wm;refine QC ?_;refine Zc [(12,_),(13,_),(59,_),(60,_),(61,_)] [(87,.bool ((!pL (yZ y (YG a.2)) (X9 (YG a.2)) (el tb i.i))))] wW ?_ ?_
  ·refine QB<|QA (QH I Xq QN)<|QA (wL I QN .u2)<|QA (QH I Xr QN)<|QA (wJ I QN .here)<|QI I (λ_ _ f k=>Gv (x:=c58.hi) (y:=c73.lo) (r:=(yZ y (YG a.2)).2) (s:=(XM ((Qo (el tb i.i).e,Qo (el tb i.i).e)::lV (el tb i.i).ll) (X9 (YG a.2))).1) f k.1.1.1.1.1.2.2 k.2.1 hok.z0.2 (hok.zs _ hem).1) λ_=>wB 2 I ?_
   refine Ql (t:=80) rfl (λhb80=>?_) λhb80=>?_
   ·refine wB 8 I ?_;exact JY ⟨rfl,rfl,rfl,rfl,rfl,(congrArg (λb=>some (aH b)) (by unfold pL;rw[hb80];rfl)),trivial⟩ QIM tA
   refine QM I I<|QA (QH I Xq QN)<|QM I I<|QA (wL I QN .here)<|QM I I<|QA (QH I Xr QN)<|QM I I<|QA (wJ I QN .u2)<|QM I I<|QI I (λ_ _ f k=>Gv (x:=c73.hi) (y:=c58.lo) (r:=(XM ((Qo (el tb i.i).e,Qo (el tb i.i).e)::lV (el tb i.i).ll) (X9 (YG a.2))).2) (s:=(yZ y (YG a.2)).1) f k.1.2.2 k.1.1.1.1.1.1.2.1 (hok.zs _ hem).2 hok.z0.1) λ_=>wB 4 I ?_
   exact JY ⟨rfl,rfl,rfl,rfl,rfl,(congrArg (λb=>some (aH b)) (by unfold pL;rw[hb80,Bool.false_or,Bool.not_not])),trivial⟩ QIM λ_ h=>h.1.1
  simp only[aj,ao];refine QR I (λhc2=>?_) λhc2=>?_
  ·have hkb:pL (yZ y (YG a.2)) (X9 (YG a.2)) (el tb i.i)=false:=by simpa using hc2
   refine wA 7 I ?_
   repeat first|refine Q6 ?_|refine Qy ?_
   exact Jd (()) I (wO I I) (by rw[ya hke hki,i.hit hlt hkb]) w8
  have hkb:pL (yZ y (YG a.2)) (X9 (YG a.2)) (el tb i.i)=true:=by simpa using hc2
  refine QO<|Qk<|QC<|QB<|QA (Qw I I O)<|wB 2 I ?_
  exact Qm (i.next hlt hkb) (by show tb.length-(i.i+1)<tb.length-i.i;omega) wW ((.cons _ (.cons _ QIM))) λF h=>⟨h.1.1.1.1.1,trivial⟩
 have hge:tb.length<=i.i:=wk<|QJH hc2
 refine Qz ?_
 repeat first|refine QZ ?_|refine QQ wy ?_
 refine Qa<|QJM 8 I ?_
 exact Jd (()) I (wO I I) (by rw[ya hke hki,i.stop hge]) w8
def He(v:List (Rat×Rat)):List (List UInt8×List UInt8):=v.map λa=>(Js a.1,Js a.2)
def Mm(v:List (Rat×Rat)):(He v).length=v.length:=by simp[He]
def Wf.U4{c:Sr}{v:List (Rat×Rat)}(h:Wf F c v):KO F c (He v):=⟨by
 have e:(He v).flatMap Pc=v.flatMap QAT:=by unfold He;rw[List.flatMap_map];rfl
 rw[e];exact h.1,by rw[Mm];exact h.2.1.symm⟩
abbrev OQ:=Rat×List (Rat×Rat)×List (Rat×Rat)
instance :Inhabited OQ:=⟨(0,[],[])⟩
def Tp(t:List OQ):List (List UInt8×List (List UInt8×List UInt8)×List (List UInt8×List UInt8)):=t.map λp=>(Js p.1,He p.2.1,He p.2.2)
def WW.d(b:WW):List UInt8×List (List UInt8×List UInt8)×List (List UInt8×List UInt8):=(b.e,b.wl,b.ll)
structure IQ(F:Gs)(c:Sr×List WW)(t:List OQ):Prop where
 a:IS F c.1 c.2
 d:c.2.map WW.d=Tp t
 cap:c.1.n<=c.1.cap
def IQ.nil(F:Gs):IQ F (⟨none,0,0⟩,[]) []:=⟨⟨Qx.nil F none 3,rfl,λb h=>by cases h⟩,rfl,aa _⟩
def LK(p:OQ):Bool:=Jv p.2.1||Jv p.2.2
def tuR(e:Int)(o:Option (List OQ)):Int×List OQ:=if e≠0 then(e,[])else match o with
 |none=>(25,[])
 |some t=>(if t.any LK=true then 4 else 0,if t.any LK=true then[]else t)
def uf{e:Int}{o:Option (List OQ)}(h:e≠0):tuR e o=(e,[]):=by unfold tuR;rw[if_pos h]
def AL:tuR 0 none=(25,[]):=rfl
def H5(t:List OQ):tuR 0 (some t)=(if t.any LK=true then 4 else 0,if t.any LK=true then[]else t):=rfl
def uS(rs:List (List Tm))(n:Nat)(b:Int):Rat->List (Rat×Rat)->List Rat->Prop
 |_,_,[]=>True
 |fr,x,e::es=>kz rs fr e x n b/\∀p,KP rs fr e x n b=some p->uS rs n b e p.2 es
def Cu{rs:List (List Tm)}{e:Rat}{es:List Rat}(h:KP rs fr e x n b=none):Gf rs n b fr x (e::es)=none:=by unfold Gf;rw[h]
def Ct{rs:List (List Tm)}{e:Rat}{es:List Rat}{p:List (Rat×Rat)×List (Rat×Rat)}(h:KP rs fr e x n b=some p):Gf rs n b fr x (e::es)=(Gf rs n b e p.2 es).map λr=>(e,p.1,p.2)::r:=by rw[Gf,h]
def dh(m:vd):List Value:=[.slice m.1.1.q m.1.1.n m.1.1.cap,.slice m.2.1.q m.2.1.n m.2.1.cap]
def de(m:vd):(dh m).length=2:=rfl
instance :Inhabited vd:=⟨((default,[]),(default,[]))⟩
structure TuJ(rs:List (List Tm))(n:Nat)(b:Int)(vs:List (Rat×Rat))(es:List (List UInt8)) where
 i:Nat
 f0:Value
 f1:Value
 f2:Value
 f3:Value
 tt:Fr
 bx:Sr
 bl:List Ys
 cur:List (Rat×Rat)
 v:Value
 ob:List (Nat×Obj)
 ms:List vd
 acc:List OQ
 le:i<=es.length
 hr:Q9 154 2 v i (ms.flatMap dh) ob
 len:ms.length=i
 h:Gf rs n b ((0:Int):Rat) vs (es.map Qo)=(Gf rs n b (Yy es i) cur ((es.map Qo).drop i)).map λr=>acc++r
 ok:uS rs n b (Yy es i) cur ((es.map Qo).drop i)
 jG:acc.length=i
 uI:cur.length=vs.length
 sz:∀p∈acc,(p.2.1.length=vs.length/\p.2.2.length=vs.length)/\(∀a∈p.2.1,XN a 100000000)/\∀a∈p.2.2,XN a 100000000
 he:∀j,j<i->(el acc j).1=Qo (el es j)
structure TuH(rs:List (List Tm))(n:Nat)(b:Int)(vs:List (Rat×Rat))(es:List (List UInt8))(F:Gs)(i:TuJ rs n b vs es):Prop where
 tt:JN F i.tt (Yy es i.i)
 bx:J7 F i.bx i.bl i.cur
 ms:∀j,j<i.i->J7 F (el i.ms j).1.1 (el i.ms j).1.2 (el i.acc j).2.1/\J7 F (el i.ms j).2.1 (el i.ms j).2.2 (el i.acc j).2.2
def GR(h:i<es.length):(es.map Qo).drop i=Qo (el es i)::(es.map Qo).drop (i+1):=by
 rw[Bo (by rw[ab];exact h)];congr 1;rw[JW (by rw[ab];exact h),aZ,JW h]
def It{β:Type}(l:List α)(x:α)(f:α->List β):(l++[x]).flatMap f=l.flatMap f++f x:=by rw[bO];simp
def Dh[Inhabited α]{l:List α}{x:α}{j i:Nat}(hl:l.length=i)(h:j<i):el (l++[x]) j=el l j:=by subst hl;exact SK h
def W6[Inhabited α]{l:List α}{x:α}{i:Nat}(hl:l.length=i):el (l++[x]) i=x:=by subst hl;exact CX l x
def AW{o:Option (List (Rat×Rat)×List (Rat×Rat))}{c:vd}{p:List (Rat×Rat)×List (Rat×Rat)}(h:stF F o c)(e:o=some p):J7 F c.1.1 c.1.2 p.1/\J7 F c.2.1 c.2.2 p.2:=by rw[e]at h;exact h
def TuJ.next{rs:List (List Tm)}{n:Nat}{b:Int}{vs:List (Rat×Rat)}{es:List (List UInt8)}(s:TuJ rs n b vs es)(hb:b<=64)(hlt:s.i<es.length){p:List (Rat×Rat)×List (Rat×Rat)}(hv:KP rs (Yy es s.i) (Qo (el es s.i)) s.cur n b=some p)(cf:Fr)(c:vd){v:Value}{ob:List (Nat×Obj)}(hr:Q9 154 2 v (s.i+1) (s.ms.flatMap dh++dh c) ob):TuJ rs n b vs es :=
 ⟨s.i+1,.int .i64 s.tt.n.s,.slice s.tt.n.q s.tt.n.n s.tt.n.cap,.int .i64 s.tt.d.s,.slice s.tt.d.q s.tt.d.n s.tt.d.cap,cf,c.2.1,c.2.2,p.2,v,ob,s.ms++[c],s.acc++[(Qo (el es s.i),p.1,p.2)],hlt,by rw[It];exact hr,by rw[aO,s.len];rfl,by
  rw[s.h,GR hlt,Ct hv,WO,Option.map_map];congr 1;funext r;simp,by
  have h1:=s.ok;rw[GR hlt]at h1;rw[WO];exact h1.2 p hv,by rw[aO,s.jG];rfl,by
  have h1:=s.ok;rw[GR hlt]at h1;exact(D9 hb h1.1 hv).1.2.trans s.uI,λq hq=>by
  have h1:=s.ok;rw[GR hlt]at h1;have h2:=D9 hb h1.1 hv;rcases List.mem_append.1 hq with hq | hq
  ·exact s.sz q hq
  ·rw[List.mem_singleton.1 hq];exact⟨⟨h2.1.1.trans s.uI,h2.1.2.trans s.uI⟩,h2.2.1,h2.2.2⟩,λj hj=>by
  rcases Nat.lt_succ_iff_lt_or_eq.1 hj with h | h
  ·rw[Dh s.jG h];exact s.he j h
  rw[h,W6 s.jG]⟩
def TuH.next{rs:List (List Tm)}{vs:List (Rat×Rat)}{s:TuJ rs n b vs es}(hb:b<=64)(hlt:s.i<es.length){p:List (Rat×Rat)×List (Rat×Rat)}(hv:KP rs (Yy es s.i) (Qo (el es s.i)) s.cur n b=some p){cf:Fr}{c:vd}{v:Value}{ob:List (Nat×Obj)}(hr:Q9 154 2 v (s.i+1) (s.ms.flatMap dh++dh c) ob)(h:TuH rs n b vs es F s)(h1:JN F cf (Qo (el es s.i)))(h2:stF F (KP rs (Yy es s.i) (Qo (el es s.i)) s.cur n b) c):TuH rs n b vs es F (s.next hb hlt hv cf c hr) :=
 ⟨by show JN F cf (Yy es (s.i+1));rw[WO];exact h1,(AW h2 hv).2,λj hj=>by
  rcases Nat.lt_succ_iff_lt_or_eq.1 hj with g | g
  ·show J7 F (el (s.ms++[c]) j).1.1 (el (s.ms++[c]) j).1.2 (el (s.acc++[_]) j).2.1/\J7 F (el (s.ms++[c]) j).2.1 (el (s.ms++[c]) j).2.2 (el (s.acc++[_]) j).2.2;rw[Dh s.len g,Dh s.jG g];exact h.ms j g
  show J7 F (el (s.ms++[c]) j).1.1 (el (s.ms++[c]) j).1.2 (el (s.acc++[_]) j).2.1/\J7 F (el (s.ms++[c]) j).2.1 (el (s.ms++[c]) j).2.2 (el (s.acc++[_]) j).2.2;rw[g,W6 s.len,W6 s.jG];exact AW h2 hv⟩
structure TbJ(acc:List OQ) where
 i:Nat
 v:Value
 ob:List (Nat×Obj)
 bs:List WW
 le:i<=acc.length
 hr:Q9 78 3 v i (bs.flatMap uR) ob
 len:bs.length=i
 no:∀j,j<i->LK (el acc j)=false
 d:bs.map WW.d=Tp (acc.take i)
def ka{tt:List OQ}(h:i<tt.length)(k:LK (el tt i)=true):tt.any LK=true:=List.any_eq_true.2 ⟨_,Qv h,k⟩
theorem jE{tt:List OQ}(h:∀j,j<tt.length->LK (el tt j)=false):tt.any LK=false:=by
 cases e:tt.any LK with
 |false=>rfl
 |true =>
  obtain⟨x,hx,k⟩:=List.any_eq_true.1 e;obtain⟨j,hj,rfl⟩:=aq hx;have:=h j hj;rw[JW hj,k]at this;cases this
def Cs{acc:List OQ}(h:i<acc.length):Tp (acc.take (i+1))=Tp (acc.take i)++[(Js (el acc i).1,He (el acc i).2.1,He (el acc i).2.2)]:=by rw[XU h];simp[Tp]
def TbJ.next{acc:List OQ}(s:TbJ acc)(h:s.i<acc.length)(be:WW){v:Value}{ob:List (Nat×Obj)}(hr:Q9 78 3 v (s.i+1) (s.bs.flatMap uR++uR be) ob)(hno:LK (el acc s.i)=false)(hd:be.d=(Js (el acc s.i).1,He (el acc s.i).2.1,He (el acc s.i).2.2)):TbJ acc :=
 ⟨s.i+1,v,ob,s.bs++[be],h,by rw[It];exact hr,by rw[aO,s.len];rfl,λj hj=>by
  rcases Nat.lt_succ_iff_lt_or_eq.1 hj with g | g
  ·exact s.no j g
  rw[g];exact hno,by rw[bV,s.d,Cs h,<-hd];rfl⟩
def tuE(y:X5)(es:List (List UInt8))(o b:Int):Int:=Qu [y.e,NC es,BF o,VM b]
def kA(h:NC es=0):es.length<=1000/\(∀i,i<es.length->Jk (el es i)=0):=by
 unfold NC at h;by_cases g:es.length>1000
 ·rw[if_pos g]at h;cases h
 rw[if_neg g]at h;exact⟨O,λi hi=>(G3 (JA h _ (aK (f:=λi=>Na (Yy es i) (el es i)) (List.mem_range.2 hi)))).1⟩
theorem QAU{qe:Option Addr}{ne ce:Nat}{o:Int}(hF:Fits F w)(hGl:JE F)(hy:ZH F y)(ht:Ww y)(hR:Qx F qe ne 1 (es.map tx))(hne:es.length=ne)(hel:ne>1000\/∀s∈es,s.length<=1000000)(hok:tuE y es o b=0->uS y.rs o.toNat b ((0:Int):Rat) y.vs (es.map Qo)):
  QV prog 25 [y.v,.slice qe ne ce,.int .i64 o,.int .i64 b] w F (λ(c:Sr×List WW)=>.tuple #[c.1.v,.int .i64 (tuR (tuE y es o b) (Gf y.rs o.toNat b ((0:Int):Rat) y.vs (es.map Qo))).1]) (λc F=>IQ F c (tuR (tuE y es o b) (Gf y.rs o.toNat b ((0:Int):Rat) y.vs (es.map Qo))).2):=by
 refine QV.intro (G:=λF=>JE F/\ZH F y/\Qx F qe ne 1 (es.map tx)) func25 rfl wy rfl rfl hF (λF' hF'=>⟨hGl.le hF',hy.le hF',hR.le hF'⟩)<|QI7<|Qs rfl (vs:=[_,_,_]) rfl λb4=>QH1 rfl<|wQ rfl<|QG<|QI7<|QA (wI I J8 .here)<|QI rfl (λ_ _ f k=>Zt (y:=y) f k.1 k.2.1 ht) λ_=>QH0 rfl<|QI rfl (λ_ _ f k=>IF f k.1.1 k.1.2.2 hne hel) λ_=>QH0 rfl<|QI rfl (λ_ _ f k=>Vs f) λ_=>QH0 rfl<|QI rfl (λ_ _ f k=>BQ f) λ_=>Qb rfl (Q4 ZJ) YV Hz rfl rfl λb31=>QI rfl (λ_ _ f k=>YY f (Qx.of (cs:=bJ Jr [_,_,_,_]) k.2 rfl) wu) λ_=>wQ rfl<|QG ?_
 refine QJL 5 I ?_;refine QR I (λhc2=>?_) λhc2=>?_
 ·have h34:tuE y es o b≠0:=bne_iff_ne.1 hc2;refine wA 8 I ?_;exact Jd (((⟨none,0,0⟩,[]):Sr×List WW)) I (wO I I) (by rw[uf h34]<;>rfl) λF h9=>by rw[uf h34];exact IQ.nil F
 have h34:tuE y es o b=0:=bne_eq_false_iff_eq.1 hc2;have hok:=hok h34;have hye:y.e=0:=JA h34 _ (.head _);have hen:=kA (JA h34 (NC es) (.tail _ (.head _)));have hor:=Nw (JA h34 (BF o) (.tail _ (.tail _ (.head _))));have hbt:=Ry (JA h34 (VM b) (.tail _ (.tail _ (.tail _ (.head _)))));have ho:=hy.ok hye;have hn1:=ho.n1;have hn0:=ho.n0;have hrn:=ho.rn;have hsn:=ho.sn;have hsl:=hy.P3;have hrs:y.rs.length=y.nm.n:=by unfold X5.rs;rw[ab,hy.Kx,hrn]
 have hvs:y.vs.length=y.nm.n:=by unfold X5.vs;rw[ab,hsl,hsn]
 have hel2:∀s∈es,s.length<=1000000:=hel.resolve_left O;obtain⟨n,rfl⟩:∃n:Nat,o=(n:Int):=⟨o.toNat,O⟩;rw[aB]at hok;refine QJL 4 I<|QA (wI I J8 .here)<|QI rfl (λ_ _ f k=>ZX (y:=y) f k.1.1.1.1.1.1.1 k.1.1.1.1.1.1.2.1 ht ho) λc37=>JM _ (λw F hF ⟨⟨⟨⟨⟨⟨⟨⟨hGl,hy,hR⟩,_⟩,_⟩,_⟩,_⟩,hs31⟩,_⟩,h37⟩=>ax h37.Kx (ax (h37.pn ho.short) h37.box.nl)) λhnn=>?_
 obtain⟨hn37,hp37,hb37⟩:=hnn;refine wQ I<|QG<|Kr (r:=[0,1,2,3,4,5,6,7]) tE mixed wm rfl<|Jl 1 wm rfl rfl<|QK (QD I)<|JB<|Jl 2 wm rfl rfl<|QK (ZY I)<|JB<|Jl 3 wm rfl rfl<|QK (QH I pv JF)<|JB<|Jl 4 wm rfl rfl<|QK (Zr (c:=#[c37.rt.v,c37.st.v]) (T':=151) rfl JF (λF h9=>h9.2.Hy) rfl)<|JB<|Kq (A:=[6]) (r:=[0,5,7]) wm<|XJ 0 wm wm wy tE w9 rfl rfl rfl (λ_=>rfl) (λ_ _ f k=>TO (n:=0) f wu wu) λc38=>jO 5 wm wm wy tE tA rfl wy (λ_=>Q2 I zi OY (.cons (vs:=[_,_,_,_]) I I I (.skip (.skip (.skip (.skip .h4)))) (.cons (vs:=[_]) I I I (.skip (.skip (.skip (.skip (.skip (.skip (.skip (.skip .h1)))))))) .nil)))<|K9 6 (d:=12) (T:=131) wm wm wy tE tA wm wm OY λb12=>Zw (vs:=[_,_,_,_,_,_,_,_,_]) 7 wm wm wy (.cons _ tE) tA rfl rfl (λ_=>rfl) (λ_=>rfl) rfl H4 I .here tE .h9 we ?_
 refine V4 ?_ wm;refine QJM 10 I<|QA (Qh I KE)<|QJK 4 I<|JV (ι:=TuJ y.rs n b y.vs es) [(1,_),(2,_),(3,_),(11,_),(12,_),(44,_),(45,_)] (λi=>[(13,i.v),(46,.int .i64 ((i.i:Nat):Int))]) (λi=>(b12,.cells #[i.f0,i.f1,i.f2,i.f3,.int .i64 i.tt.n.s,.slice i.tt.n.q i.tt.n.n i.tt.n.cap,.int .i64 i.tt.d.s,.slice i.tt.d.q i.tt.d.n i.tt.d.cap,.slice i.bx.q i.bx.n i.bx.cap] 131 (0,0))::i.ob) (λi F=>TuH y.rs n b y.vs es F i) (λi=>es.length-i.i) (⟨0,.int .i64 0,.slice none 0 0,.int .i64 0,.slice none 0 0,c38,c37.st,c37.sl,y.vs,.slice none 0 0,[],[],[],aI _,.nil,rfl,(by show Gf y.rs n b _ _ _=Option.map _ (Gf y.rs n b ((0:Int):Rat) _ _);rw[bB];simp),hok,rfl,rfl,(λp h=>by cases h),λj h=>absurd h (bw _)⟩) wY wT (tE) (λF h=>⟨h.2,h.1.2.box,λj h=>absurd h (bw _)⟩) λi=>?_
 simp only[aj,ao];have hi:=i.le;refine wA 6 I ?_;refine QR I (λhc2=>?_) λhc2=>?_
 ·have hlt:i.i<es.length:=wk<|QJG hc2
  have hem:=Qv hlt;have hce:=hen.2 _ hlt;have hcl:=hel2 _ hem;have hde:=GR hlt;have hok1:=i.ok;rw[hde]at hok1;have hsp:=hok1.1;refine XS _ (λ_ _ f k=>k.2.bx.nl) (λhnb=>?_);have hcn:=i.uI;refine QJL 6 I<|QA (Q3 (n:=ne) i.i (λF h9=>h9.1.1.1.1.1.1.1.1.1.2.2) rfl rfl KE JP O)<|QA (Q5 (n:=ne) ((i.i)*1) (λF h9=>h9.1.1.1.1.1.1.1.1.1.2.2) O rfl JP (XL (f:=tx) (l:=es) O))<|wQ I<|QG<|Jp 5 QIM mixed wm wm ?_
  simp only[bN,bW,bP,bB];refine QK (QH I Bk QN)<|QK (wL I QN .here)<|QK (QD I)<|QP I (λ_ _ f k=>Kj f k.1.1.1.1.1.1.1.1.1.1 (XH hce).1 O) λc53=>QK (QH I Bl QN)<|ZV<|QU (vs:=[_,_,_,_]) I I I QN I .here .h4 wV<|QA (QH I Bk QN)<|QU (vs:=[_,_,_,_]) I I I QN I .here (.skip (.skip (.skip (.skip .h4)))) wV<|QJK 5 I<|QA (QJ (vs:=[_,_,_,_,_,_,_,_,_]) I H4 .here .h9 rfl)<|wB 2 I<|QI I (λ_ _ f k=>xg (n:=n) (x:=⟨i.tt,c53,i.bx,i.bl⟩) (vx:=i.cur) (fr:=Yy es i.i) (t2:=Qo (el es i.i)) f k.1.1.1.1.1.1.1.1.1.1.1 k.1.1.1.2 ⟨k.1.2.tt,k.2,k.1.2.bx⟩ (by dsimp only;omega) (by dsimp only;omega) (by dsimp only;omega) (λe he=>wk<|hp37 e he) O hbt hsp) λc61=>wB 3 I<|Qc Mr λb16=>QU (vs:=[_,_]) I I I KU I .here .h2 wT<|wB 2 I ?_
  refine QJM 5 I<|QA (XB I)<|QE<|QC ?_
  refine QR I (λhc2=>?_) λhc2=>?_
  ·have hv:(KP y.rs (Yy es i.i) (Qo (el es i.i)) i.cur n b)=none:=by cases hv:(KP y.rs (Yy es i.i) (Qo (el es i.i)) i.cur n b)with
    |none=>rfl
    |some v=>rw[hv]at hc2;cases hc2
   have hnone:(Gf y.rs n b ((0:Int):Rat) y.vs (es.map Qo))=none:=by rw[i.h,hde,Cu hv];rfl
   refine wA 7 I ?_
   repeat first|refine Q6 ?_|refine Qy ?_
   exact Jd (((⟨none,0,0⟩,[]):Sr×List WW)) I (wO I I) (by rw[h34,aB,hnone,AL]<;>rfl) λF h9=>by rw[h34,aB,hnone,AL];exact IQ.nil F
  obtain⟨p,hv⟩:∃p,(KP y.rs (Yy es i.i) (Qo (el es i.i)) i.cur n b)=some p:=by cases hv:(KP y.rs (Yy es i.i) (Qo (el es i.i)) i.cur n b)with
   |none=>rw[hv]at hc2;cases hc2
   |some v=>exact⟨v,rfl⟩
  have hpz:=D9 hbt.2 hsp hv;refine QJL 4 I<|QA (QH I CT JF)<|QA (Qf I JF .here (.skip .h1))<|QA (QH I Bj JF)<|QU (vs:=[_]) I I I JF I .u1 (.skip (.skip (.skip (.skip (.skip (.skip (.skip (.skip .h1)))))))) wS<|QJK 4 I<|QA (wH I KU .here)<|Qb I (Q4 Ts) KU Mr I I λb71=>?_
  refine KB (bs1:=[_,_]) (ob:=i.ob) (n:=i.i) (k:=1) (sz:=2) (news:=(dh c61)) I I Ts KU Mr I QBy i.hr (Src.row (off:=0) tB (λj q hq=>by rw[ar];rw[aU];exact hq) rfl) O O (λv hv=>by simp only[dh,aD,av,or_false]at hv;rcases hv with rfl | rfl<;>rfl) (λv72 ob72 hr72=>?_);refine wB 2 I<|Qk<|QC<|QB<|QA (Qw I I O)<|wB 2 I ?_
  exact Qm (i.next hbt.2 hlt hv c53 c61 hr72) (by show es.length-(i.i+1)<es.length-i.i;omega) we ((.cons _ QIM)) λF ⟨⟨⟨⟨⟨⟨⟨⟨⟨⟨⟨⟨⟨hGl,hy,hR⟩,_⟩,_⟩,_⟩,_⟩,hs31⟩,_⟩,h37⟩,h38⟩,hS⟩,h53⟩,h61⟩,hs71⟩=>⟨⟨⟨⟨⟨⟨⟨⟨⟨⟨hGl,hy,hR⟩,trivial⟩,trivial⟩,trivial⟩,trivial⟩,hs31⟩,trivial⟩,h37⟩,h38⟩,hS.next hbt.2 hlt hv hr72 h53 h61⟩
 have hge:i.i=es.length:=by have:=QJH hc2;have:=i.le;omega
 have hend:(Gf y.rs n b ((0:Int):Rat) y.vs (es.map Qo))=some i.acc:=by
  rw[i.h,List.drop_of_length_le (by rw[ab];omega)];show some (i.acc++[])=_;rw[List.append_nil]
 have hal:=i.jG;refine Qz ?_
 repeat first|refine QZ ?_|refine QQ wy ?_
 refine Qa<|QJM 9 I ?_
 have hxl:=i.len;obtain⟨⟨rq,rn,rc⟩,hv2,hrn,hrc,hfix⟩:=Q9.fix (w0:=w) (F0:=F) (bs1:=[_]) (G:=_) i.hr;dsimp only at hrn hrc hfix;subst hrn;refine YS hfix ?_;rw[hv2];dsimp only[Sr.v];refine QH0 rfl<|QA (Qh rfl Ts)<|QH0 rfl<|QHz<|QW<|JV (ι:=TbJ i.acc) [(1,_),(74,_),(75,_)] (λi2=>[(18,i2.v),(76,.int .i64 ((i2.i:Nat):Int))]) (λi2=>i2.ob) (λi2 F=>∀bx∈i2.bs,KO F bx.w bx.wl/\KO F bx.l bx.ll) (λi2=>es.length-i2.i) (⟨0,.slice none 0 0,[],[],aI _,.nil,rfl,λj h=>absurd h (bw _),rfl⟩) wU wT (tD) (λ_ _ bx h=>by cases h) λi2=>?_
 simp only[aj,ao];have hi2:=i2.le;refine wA 6 I ?_;refine QR I (λhc2=>?_) λhc2=>?_
 ·have hlt2:i2.i<i.acc.length:=wk<|QJG hc2
  have hsz:=i.sz _ (Qv hlt2);have hej:=i.he i2.i O;have hce:=hen.2 i2.i O;refine QJL 7 I<|QA (Q3 (n:=i.i) (i2.i) (λF h9=>h9.1.2) rfl rfl Ts KU O)<|QA (JK (n:=i.i) (vs:=[.slice (el i.ms (i2.i)).1.1.q (el i.ms (i2.i)).1.1.n (el i.ms (i2.i)).1.1.cap,.slice (el i.ms (i2.i)).2.1.q (el i.ms (i2.i)).2.1.n (el i.ms (i2.i)).2.1.cap]) ((i2.i)*2) (λF h9=>h9.1.2) O rfl KU I λj v hv=>JQ (f:=dh) (l:=i.ms) de O hv)<|Qc Mr λb20=>QH1 I<|QU (vs:=[_,_]) I I I KU I .here .h2 wT<|QHz<|QG<|Kr (r:=[0,1,2,3,4,5,6,7,8,9,10,11]) tE mixed wm rfl<|Jl 0 wm rfl rfl<|QK (wH I KU .here)<|JB<|Jl 1 wm rfl rfl<|QK (QD I)<|JB<|Jl 2 wm rfl rfl<|QK (QD I)<|JB ?_
  refine Jl 3 wm rfl rfl<|QK (Q3 (n:=ne) (i2.i) (λF h9=>h9.1.1.1.1.1.1.1.1.1.1.1.2.2) rfl rfl KE JP O)<|JB<|Jl 4 wm rfl rfl<|QK (Q5 (n:=ne) ((i2.i)*1) (λF h9=>h9.1.1.1.1.1.1.1.1.1.1.1.2.2) O rfl JP (XL (f:=tx) (l:=es) O))<|JB<|Kq (A:=[9]) (r:=[5,6,7,8,10,11]) wm<|XJ 5 wm wm wy tE w9 rfl rfl rfl (λ_=>rfl) (λ_ _ f k=>yO (c:=el i.ms i2.i) (v:=(el i.acc i2.i).2.1) (u:=(el i.acc i2.i).2.2) (s:=el es i2.i) f k.1.1.1.1.1.1.1.1.1.1.1.1 (k.1.1.2.ms _ O).1 (k.1.1.2.ms _ O).2 O O hsz.2.1 hsz.2.2) λc87=>jO 6 wm wm wy tE tA rfl wy (λ_=>QD I)<|jO 7 wm wm wy tE tA rfl wy (λ_=>QX I I)<|jO 8 wm wm wy tE tA rfl wy (λ_=>QX I I)<|K9 9 (d:=21) (T:=78) wm wm wy tE tA wm wm Du λb21=>Zw (vs:=[_,_,_]) 10 wm wm wy (.cons _ tE) tA rfl rfl (λ_=>rfl) (λ_=>rfl) rfl YO I .here tE .h3 wU<|jO 11 wm wm wy (.cons _ tE) tA rfl wy (λ_=>QF I) ?_
  refine V4 ?_ wm;refine QJM 8 I ?_;refine QR I (λhc2=>?_) λhc2=>?_
  ·have hL:LK (el i.acc i2.i)=true:=by
    cases e:LK (el i.acc i2.i)with
    |true=>rfl
    |false=>rw[show(Jv (el i.acc i2.i).2.1||Jv (el i.acc i2.i).2.2)=false from e]at hc2;cases hc2
   have hany:=ka hlt2 hL;refine wA 8 I ?_
   repeat first|refine Q6 ?_|refine Qy ?_
   exact Jd (((⟨none,0,0⟩,[]):Sr×List WW)) I (wO I I) (by rw[h34,aB,hend,H5,if_pos hany,show(Jv (el i.acc i2.i).2.1||Jv (el i.acc i2.i).2.2)=true from hL]<;>rfl) λF h9=>by rw[h34,aB,hend,H5,if_pos hany,if_pos hany];exact IQ.nil F
  have hL:(Jv (el i.acc i2.i).2.1||Jv (el i.acc i2.i).2.2)=false:=by
   cases e:(Jv (el i.acc i2.i).2.1||Jv (el i.acc i2.i).2.2)with
   |false=>rfl
   |true=>rw[e]at hc2;cases hc2
  rw[hL];refine QJL 4 I<|QA (wI I YO .here)<|Qb I (Q4 EA) YO Du I I λb95=>?_
  refine KB (bs1:=[_,_]) (ob:=i2.ob) (n:=i2.i) (k:=1) (sz:=3) (news:=(uR ⟨el es i2.i,c87.1,He (el i.acc i2.i).2.1,c87.2,He (el i.acc i2.i).2.2⟩)) I I EA YO Du I QEm i2.hr (Src.row (off:=0) tB (λj q hq=>by rw[ar];rw[aU];exact hq) rfl) O O (λv hv=>by simp only[uR,aD,av,or_false]at hv;rcases hv with rfl | rfl | rfl<;>rfl) (λv96 ob96 hr96=>?_);refine wB 2 I<|Qk<|QC<|QB<|QA (Qw I I O)<|wB 2 I ?_
  exact Qm (i2.next hlt2 ⟨el es i2.i,c87.1,He (el i.acc i2.i).2.1,c87.2,He (el i.acc i2.i).2.2⟩ hr96 hL (by show(el es i2.i,_,_)=(Js (el i.acc i2.i).1,_,_);rw[hej,<-(XH hce).1])) (by show es.length-(i2.i+1)<es.length-i2.i;omega) wW ((.cons _ (.cons _ QIM))) (λF ⟨⟨⟨⟨⟨⟨⟨⟨⟨⟨⟨⟨⟨⟨hGl,hy,hR⟩,_⟩,_⟩,_⟩,_⟩,hs31⟩,_⟩,h37⟩,h38⟩,hS⟩,hrow⟩,hW⟩,h87⟩,hs95⟩=>⟨⟨⟨⟨⟨⟨⟨⟨⟨⟨⟨⟨hGl,hy,hR⟩,trivial⟩,trivial⟩,trivial⟩,trivial⟩,hs31⟩,trivial⟩,h37⟩,h38⟩,hS⟩,hrow⟩,λbx hb=>by
     rcases List.mem_append.1 hb with hb | hb
     ·exact hW bx hb
     rw[List.mem_singleton.1 hb];exact⟨Wf.U4 h87.1,Wf.U4 h87.2⟩⟩)
 have hge2:i2.i=i.acc.length:=by have:=QJH hc2;have:=i2.le;omega
 have hno:i.acc.any LK=false:=jE λj hj=>i2.no j O;refine Qz ?_
 repeat first|refine QZ ?_|refine QQ wy ?_
 refine Qa<|QJM 3 I ?_
 have hxl2:=i2.len;obtain⟨⟨rq2,rn2,rc2⟩,hv3,hrn2,hrc2,hfix2⟩:=Q9.fix (w0:=w) (F0:=F) (bs1:=[]) (G:=_) i2.hr;dsimp only at hrn2 hrc2 hfix2;subst hrn2;refine YS hfix2 ?_;rw[hv3];dsimp only[Sr.v];refine QJK 6 I ?_;exact Jd (((⟨rq2,i2.i,rc2⟩,i2.bs):Sr×List WW)) I (wO I I) (by rw[h34,aB,hend,H5,hno]<;>rfl) λF h9=>by rw[h34,aB,hend,H5,hno];exact⟨⟨h9.2,hxl2,h9.1.2⟩,by have e:=i2.d;rw[hge2,au]at e;exact e,hrc2⟩
def Cl.zero(d b:Nat):Cl Q d b 0:=⟨0,by rw[Rat.zero_divInt],wz⟩
theorem Cl.one(d b:Nat)(h0:0<Q):Cl Q d b 1:=⟨((Q^d:Nat):Int),by
 have hq:((Q^d:Nat):Int)≠0:=wk (bh (n:=d) h0);rw[Rat.divInt_self' hq],by rw[aX];exact bH _ (bh wu)⟩
theorem Pa{P:Rat->Prop}:∀(l:List Rat) (s:Rat×Rat),P s.1->P s.2->(∀x∈l,P x)->P (l.foldl ZI s).1/\P (l.foldl ZI s).2
 |[],s,h1,h2,_=>⟨h1,h2⟩
 |x::l,s,h1,h2,h=>by
  have hx:=h x wz;exact Pa l (ZI s x) (by unfold ZI;dsimp only;split<;>assumption) (by unfold ZI;dsimp only;split<;>assumption) λy hy=>h y (by simp[hy])
def YQ(Q d b:Nat)(x:Rat×Rat):Prop:=Cl Q d b x.1/\Cl Q d b x.2
section
variable{Q d b e c:Nat}{x y:Rat×Rat}(h0:0<Q)
include h0
theorem YQ.mono(h:YQ Q d b x)(hd:d<=e)(hb:b<=c):YQ Q e c x:=⟨h.1.mono h0 hd hb,h.2.mono h0 hd hb⟩
theorem YQ.add(h:YQ Q d b x)(k:YQ Q d b y):YQ Q d (b+1) (Vv x y):=⟨h.1.add h0 k.1,h.2.add h0 k.2⟩
theorem YQ.times(h:YQ Q d b x)(k:YQ Q e c y):YQ Q (d+e) (b+c) (Jg x y):=by
 have h11:=h.1.mul h0 k.1;have h12:=h.1.mul h0 k.2;have h21:=h.2.mul h0 k.1;have h22:=h.2.mul h0 k.2;exact Pa (P:=Cl Q (d+e) (b+c)) _ _ h11 h11 λz hz=>by
  simp only[aD,av,or_false]at hz;rcases hz with rfl | rfl | rfl<;>assumption
theorem YQ.Sm(h:YQ Q d b x):XN x (b+d*sz (Q:Int)+2):=⟨h.1.JU h0,h.2.JU h0⟩
theorem YQ.zero:YQ Q d b (0,0):=⟨.zero d b,.zero d b⟩
def E9(Q al be d b:Nat)(a:List J3):Prop:=∀k,k<a.length->YQ Q (al*k+d) (be*k+b) (el a k)
variable{al be:Nat}{a a':List J3}
theorem E9.mono{d' b':Nat}(h:E9 Q al be d b a)(hd:d<=d')(hb:b<=b'):E9 Q al be d' b' a:=λk hk=>(h k hk).mono h0 O O
theorem Iv(ha:E9 Q al be d b a)(hb:E9 Q al be e c a'){k:Nat}(hk:k<a.length)(hl:a.length<=a'.length):∀i,i<=k+1->YQ Q (al*k+(d+e)) (be*k+(b+c)+i) (Gc a a' k i):=by
 intro i
 induction i with
 |zero=>intro _;exact YQ.zero h0
 |succ i ih =>
  intro hi;rw[Mb];have h1:=ih O;have h2:=YQ.times h0 (ha i O) (hb (k-i) O);have e1:al*i+al*(k-i)=al*k:=by rw[<-ei];congr 1;omega
  have e2:be*i+be*(k-i)=be*k:=by rw[<-ei];congr 1;omega
  exact YQ.add h0 h1 (h2.mono h0 (c:=be*k+(b+c)+i) O O)
theorem xQ(ha:E9 Q al be d b a)(hb:E9 Q al be e c a')(hl:a.length<=a'.length)(hL:a.length<=L):E9 Q al be (d+e) (b+c+L) (WD a a'):=λk hk=>by
 rw[MD]at hk;unfold WD;rw[Yj _ hk];exact(Iv h0 ha hb hk hl (k+1) (aa _)).mono h0 (aa _) O
theorem dP(ha:E9 Q al be d b a)(hb:E9 Q al be d b a')(hl:a.length<=a'.length):E9 Q al be d (b+1) (Hq a a'):=λk hk=>by
 rw[MK]at hk;unfold Hq;rw[Yj _ hk];exact YQ.add h0 (ha k hk) (hb k O)
theorem kN{r:Rat}(h:Cl Q 1 b r):E9 Q al be 1 b (Hx r n):=λk hk=>by
 rw[GS]at hk
 match k,hk with
 |0,_=>show YQ Q (al*0+1) (be*0+b) (r,r);rw[aF,ar,aF,ar];exact⟨h,h⟩
 |k+1,hk =>
  have e1:el (Hx r n) (k+1)=(0,0):=by rw[JW (by rw[GS];exact hk)];simp[Hx]
  rw[e1];exact YQ.zero h0
theorem kU{t:J3}(h:YQ Q 1 b t):E9 Q al be 1 b (Zy t n):=λk hk=>by
 rw[GV]at hk
 match n,k,hk with
 |0,0,_=>show YQ Q (al*0+1) (be*0+b) t;rw[aF,ar,aF,ar];exact h
 |n+1,0,_=>show YQ Q (al*0+1) (be*0+b) t;rw[aF,ar,aF,ar];exact h
 |n+1,1,_=>exact⟨.one _ _ h0,.one _ _ h0⟩
 |n+1,k+2,hk =>
  have e1:el (Zy t (n+1)) (k+2)=(0,0):=by rw[JW (by rw[GV];exact hk)];simp[Zy]
  rw[e1];exact YQ.zero h0
theorem qG{y z:List J3}(hy:E9 Q al be d b y)(hz:E9 Q al be 1 B z)(hl:y.length<=z.length)(hL:y.length<=L):∀i,E9 Q al be (d+i) (b+i*(B+L)) (DE y z i):=by
 intro i
 induction i with
 |zero=>rw[aY,bF,aY];exact hy
 |succ i ih =>
  rw[Pd];have h1:=xQ h0 (L:=L) ih hz (by rw[WI];exact hl) (by rw[WI];exact hL);refine h1.mono h0 O ?_;rw[aA];omega
def Z6(ks:List Int):Nat->Nat
 |0=>0
 |v+1=>Z6 ks v+(Qn ks v).toNat
omit h0 in
theorem Dm(ks:List Int){v w:Nat}(h:v<=w):Z6 ks v<=Z6 ks w:=by
 induction w with
 |zero=>rw[Nat.le_zero.1 h];exact aa _
 |succ w ih =>
  rcases bZ v (w+1)with g | g
  ·exact af (ih O) (ba _ _)
  rw[Nat.le_antisymm h g];exact aa _
theorem qQ{r:Rat}{ks:List Int}{all:List (List J3)}(hr:Cl Q 1 B r)(ha:∀v,v<all.length->E9 Q al be 1 B (el all v)/\(el all v).length=n+1)(hL:n+1<=L):∀v,v<=all.length->E9 Q al be (1+Z6 ks v) (B+Z6 ks v*(B+L)) (Wl r ks all n v):=by
 intro v
 induction v with
 |zero=>intro _;show E9 Q al be (1+0) (B+0*(B+L)) (Hx r n);rw[aY,bF,aY];exact kN h0 hr
 |succ v ih =>
  intro hv;have h1:=ha v hv;rw[Pf];have h2:=qG h0 (L:=L) (ih O) h1.1 (by rw[Zg,h1.2];exact aa _) (by rw[Zg];exact hL) (Qn ks v).toNat;refine h2.mono h0 (by show 1+Z6 ks v+_<=1+(Z6 ks v+_);omega) ?_;show B+Z6 ks v*(B+L)+_<=B+(Z6 ks v+_)*(B+L);rw[aA];omega
theorem Nt{p:List Tm}{all:List (List J3)}(hp:∀u∈p,Cl Q 1 B u.1/\Z6 u.2 all.length<=D)(ha:∀v,v<all.length->E9 Q al be 1 B (el all v)/\(el all v).length=n+1)(hL:n+1<=L):∀j,j<=p.length->E9 Q al be (1+D) (B+D*(B+L)+j) (Kc (p.take j) all n):=by
 intro j
 induction j with
 |zero=>intro _;exact(kN h0 (b:=0) (.zero 1 0)).mono h0 O O
 |succ j ih =>
  intro hj;have hu:=hp _ (Qv hj);rw[MJ hj];have h1:=qQ h0 (ks:=(el p j).2) hu.1 ha hL all.length (aa _);have h2:Z6 (el p j).2 all.length*(B+L)<=D*(B+L):=ae _ hu.2;exact dP h0 (ih O) (h1.mono h0 (b':=B+D*(B+L)+j) O O) (by rw[Zq,Zg];exact aa _)
theorem E9.Sm(h:E9 Q al be d b a)(hl:a.length<=n+1){M:Nat}(hM:be*n+b+(al*n+d)*sz (Q:Int)+2<=M):∀x∈a,XN x M:=λx hx=>by
 obtain⟨k,hk,rfl⟩:=aq hx;rw[<-JW hk];have h1:=YQ.Sm h0 (h k hk);have h2:be*k<=be*n:=ag _ O;have h3:(al*k+d)*sz (Q:Int)<=(al*n+d)*sz (Q:Int):=ae _ (by have:al*k<=al*n:=ag _ O;omega);exact h1.mono O
end
structure OO(Q B D T n:Nat)(rs:List (List Tm))(t:J3)(vb:List J3):Prop where
 q0:0<Q
 inv:∀k,k<n->Cl Q 1 0 ((((k+1:Nat):Int):Rat)⁻¹)
 Dt:∀i,i<rs.length->∀u∈el rs i,Cl Q 1 B u.1/\Z6 u.2 (vb.length+1)<=D/\u.2.length=vb.length+1/\∀k∈u.2,0<=k/\k<=1000
 len:∀i,i<rs.length->(el rs i).length<=T
 tm:YQ Q 1 B t
 box:∀x∈vb,YQ Q 1 B x
 hn:rs.length=vb.length
def Yu{rs:List (List Tm)}{t:J3}(k:Nat):(Zy t k::Jb rs t vb k).length=vb.length+1:=by rw[aE,Zp]
theorem P7{rs:List (List Tm)}{t:J3}(h:OO Q B D T n rs t vb):∀k,k<=n->∀i,i<vb.length->E9 Q (D+1) (D*(B+(n+1))+T) 1 B (el (Jb rs t vb k) i):=by
 intro k
 induction k with
 |zero =>
  intro _ i hi;have e1:el (Jb rs t vb 0) i=[el vb i]:=by
   show el (vb.map λx=>[x]) i=_;rw[JW (by rw[ab];exact hi),aZ,JW hi]
  rw[e1];intro j hj;have hj0:j=0:=by simpa using hj
  subst hj0;rw[aF,ar,aF,ar];exact h.box _ (Qv hi)
 |succ k ih =>
  intro hk i hi;have ih:=ih O;have e1:el (Jb rs t vb (k+1)) i=el (Jb rs t vb k) i++[Jg (el (Kc (el rs i) (Zy t k::Jb rs t vb k) k) k) ((((k+1:Nat):Int):Rat)⁻¹,(((k+1:Nat):Int):Rat)⁻¹)]:=by
   rw[Jb,Yj _ hi]
  have hl:(el (Jb rs t vb k) i).length=k+1:=Zj rs t vb k hi;have ha:∀v,v<(Zy t k::Jb rs t vb k).length->E9 Q (D+1) (D*(B+(n+1))+T) 1 B (el (Zy t k::Jb rs t vb k) v)/\(el (Zy t k::Jb rs t vb k) v).length=k+1:=λv hv=>by
   rw[Yu]at hv
   match v,hv with
   |0,_=>exact⟨kU h.q0 h.tm,GV t k⟩
   |v+1,hv=>exact⟨ih v O,Zj rs t vb k O⟩
  rw[e1];intro j hj;rw[aO,hl]at hj;rcases bZ j (k+1)with g | g
  ·rw[SK O];exact ih i hi j O
  have hjk:j=k+1:=by simp at hj;omega
  subst hjk;rw[W6 hl];have hir:i<rs.length:=by rw[h.hn];exact hi
  have h1:=Nt h.q0 (L:=n+1) (D:=D) (p:=el rs i) (λu hu=>⟨(h.Dt i hir u hu).1,by rw[Yu];exact(h.Dt i hir u hu).2.1⟩) ha O (el rs i).length (aa _);rw[au]at h1;have h2:=h1 k (by rw[Zq];omega);have hT:=h.len i hir;have h3:=YQ.times h.q0 h2 (y:=((((k+1:Nat):Int):Rat)⁻¹,(((k+1:Nat):Int):Rat)⁻¹)) ⟨h.inv k O,h.inv k O⟩;refine h3.mono h.q0 ?_ ?_
  ·rw[aS];omega
  rw[aS];omega
def Em{rs:List (List Tm)}{t:J3}(h:OO Q B D T n rs t vb){k:Nat}(hk:k<=n):∀v,v<(Zy t k::Jb rs t vb k).length->E9 Q (D+1) (D*(B+(n+1))+T) 1 B (el (Zy t k::Jb rs t vb k) v)/\(el (Zy t k::Jb rs t vb k) v).length=k+1:=λv hv=>by
 rw[Yu]at hv
 match v,hv with
 |0,_=>exact⟨kU h.q0 h.tm,GV t k⟩
 |v+1,hv=>exact⟨P7 h k hk v O,Zj rs t vb k O⟩
def vL(Q B D T n:Nat):Nat:=(D*(B+(n+1))+T)*n+(2*B+D*(B+(n+1))+T+n+1)+((D+1)*n+(D+2))*sz (Q:Int)+2
theorem OO.ok{rs:List (List Tm)}{t:J3}(h:OO Q B D T n rs t vb)(hM:vL Q B D T n<=20000000):SB rs t vb n:=by
 unfold vL at hM;have hq:∀u w:Nat,u<=w->u*sz (Q:Int)<=w*sz (Q:Int):=λu w g=>ae _ g;have hm:∀k,k<n->∀i,i<rs.length->∀u∈el rs i,∀v,v<=vb.length+1->E9 Q (D+1) (D*(B+(n+1))+T) (1+Z6 u.2 v) (B+Z6 u.2 v*(B+(n+1))) (Wl u.1 u.2 (Zy t k::Jb rs t vb k) k v):=λk hk i hi u hu v hv =>
  qQ h.q0 (L:=n+1) (h.Dt i hi u hu).1 (Em h O) O v (by rw[Yu];exact hv)
 have hs:∀i,i<rs.length->∀u∈el rs i,∀v,v<=vb.length+1->Z6 u.2 v<=D/\Z6 u.2 v*(B+(n+1))<=D*(B+(n+1)):=λi hi u hu v hv=>by
  have h1:=af (Dm u.2 hv) (h.Dt i hi u hu).2.1;exact⟨h1,ae _ h1⟩
 refine⟨λk hk i hi u hu=>⟨⟨by rw[Yu];exact(h.Dt i hi u hu).2.2.1,(h.Dt i hi u hu).2.2.2⟩,λv hv j hj=>?_⟩,λk hk i hi u hu=>?_,λk hk i hi j=>?_,λk hk i hi=>?_⟩
 ·rw[(h.Dt i hi u hu).2.2.1]at hv;have h1:=hm k hk i hi u hu v O;have h2:=Em h (k:=k) O v (by rw[Yu];exact hv);have h3:=qG h.q0 (L:=n+1) h1 h2.1 (by rw[Zg,h2.2];exact aa _) (by rw[Zg];omega) j;have h4:=hs i hi u hu (v+1) hv;have h5:Z6 u.2 v+j<=Z6 u.2 (v+1):=by show _<=Z6 u.2 v+_;omega
  have h6:Z6 u.2 v*(B+(n+1))+j*(B+(n+1))<=D*(B+(n+1)):=by rw[<-aA];exact ae _ O
  have h7:=h3.mono h.q0 (d':=1+D) (b':=B+D*(B+(n+1))) O O;have hlen:(DE (Wl u.1 u.2 (Zy t k::Jb rs t vb k) k v) (el (Zy t k::Jb rs t vb k) v) j).length=k+1:=by rw[WI,Zg]
  have q1:=hq ((D+1)*n+(1+D)) ((D+1)*n+(D+2)) O;have q2:=hq ((D+1)*n+1) ((D+1)*n+(D+2)) O;have q3:=hq ((D+1)*n+(1+D+1)) ((D+1)*n+(D+2)) O;refine⟨λm hmk=>⟨?_,?_⟩,λm hmk i2 hi2=>?_⟩
  ·exact h7.Sm h.q0 (n:=n) O O _ (Qv hmk)
  ·exact h2.1.Sm h.q0 (n:=n) O O _ (Qv O)
  have h8:=YQ.Sm h.q0 (Iv h.q0 h7 h2.1 hmk O i2 hi2);refine h8.mono ?_;have g1:(D*(B+(n+1))+T)*m<=(D*(B+(n+1))+T)*n:=ag _ O;have g2:((D+1)*m+(1+D+1))*sz (Q:Int)<=((D+1)*n+(1+D+1))*sz (Q:Int):=hq _ _ (by have:(D+1)*m<=(D+1)*n:=ag _ O;omega);omega
 ·have h1:=hm k hk i hi u hu (vb.length+1) (aa _);have h4:=hs i hi u hu (vb.length+1) (aa _);have q1:=hq ((D+1)*n+(1+D)) ((D+1)*n+(D+2)) O;exact(h1.mono h.q0 (d':=1+D) (b':=B+D*(B+(n+1))) O O).Sm h.q0 (n:=n) (by rw[Zg];omega) O
 ·have q1:=hq ((D+1)*n+(1+D)) ((D+1)*n+(D+2)) O;have hT:=h.len i hi;have hj:(el rs i).take j=(el rs i).take (min j (el rs i).length):=by rw[bI]
  rw[hj];have h1:=Nt h.q0 (L:=n+1) (D:=D) (p:=el rs i) (n:=k) (λu hu=>⟨(h.Dt i hi u hu).1,by rw[Yu];exact(h.Dt i hi u hu).2.1⟩) (Em h O) O (min j (el rs i).length) (aQ _ _);exact h1.Sm h.q0 (n:=n) (by rw[Zq];omega) (wk<|aQ j (el rs i).length)
 have q1:=hq ((D+1)*n+(1+D)) ((D+1)*n+(D+2)) O;have hT:=h.len i hi;have h1:=Nt h.q0 (L:=n+1) (D:=D) (p:=el rs i) (n:=k) (λu hu=>⟨(h.Dt i hi u hu).1,by rw[Yu];exact(h.Dt i hi u hu).2.1⟩) (Em h O) O (el rs i).length (aa _);rw[au]at h1;exact h1.Sm h.q0 (n:=n) (by rw[Zq];omega) O _ (Qv (by rw[Zq];omega))
def ui:JU 0<=2:=wu
theorem Ao{a:Rat×Rat}{n:Int}(ha:XN a m):XN (Vm a n) (n.toNat*m+1):=by
 have h1:JU (a.1^n.toNat)<=n.toNat*m+1:=af (Wj _ _) (bM (ag _ ha.1) _);have h2:JU (a.2^n.toNat)<=n.toNat*m+1:=af (Wj _ _) (bM (ag _ ha.2) _);have h3:=NI (r:=a.1^n.toNat) (l:=[a.2^n.toNat]) h1 (λx hx=>by rw[List.mem_singleton.1 hx];exact h2);refine⟨?_,h3.2⟩;unfold Vm;dsimp only;split
 ·exact af (show JU 0<=1 by decide) (bA _ _)
 exact h3.1
structure gJ(Z D T m:Nat)(p:List Tm):Prop where
 len:p.length<=T
 Dt:∀u∈p,JU u.1<=Z
 sum:∀u∈p,Z6 u.2 m<=D
 pl:∀u∈p,u.2.length=m
 pw:∀u∈p,∀k∈u.2,0<=k/\k<=12
theorem xK{p:List Tm}(h:gJ Z D T m p)(hb:bs.length=m)(hS:∀x∈bs,XN x S){u:Tm}(hu:u∈p):∀i,i<=m->XN (WX (u.1,u.1) bs u.2 i) (Z+Z6 u.2 i*(S+1)):=by
 intro i
 induction i with
 |zero=>intro _;show XN (u.1,u.1) (Z+0*(S+1));exact⟨af (h.Dt u hu) O,af (h.Dt u hu) O⟩
 |succ i ih =>
  intro hi;have ih:=ih O;rw[GF];show XN _ (Z+(Z6 u.2 i+(Qn u.2 i).toNat)*(S+1));rw[aA];split
  ·rename_i hg;have h1:=Ao (n:=Qn u.2 i) (hS _ (Qv (show i<bs.length by omega)));have h2:=KV ih h1;refine h2.mono ?_;have h3:1<=(Qn u.2 i).toNat:=O;rw[aS (Qn u.2 i).toNat];omega
  exact ih.mono O
def CU{p:List Tm}(h:gJ Z D T m p)(hb:bs.length=m)(hS:∀x∈bs,XN x S):∀k,k<=p.length->XN (XM bs (p.take k)) (2+k*(Z+D*(S+1)+2)):=by
 intro k
 induction k with
 |zero=>intro _;exact⟨af ui (ba _ _),af ui (ba _ _)⟩
 |succ k ih =>
  intro hk;have ih:=ih O;have hu:=Qv (show k<p.length by omega);have h1:=xK h hb hS hu (el p k).2.length (by rw[h.pl _ hu];exact aa _);have h2:Z6 (el p k).2 (el p k).2.length*(S+1)<=D*(S+1):=ae _ (by rw[h.pl _ hu];exact h.sum _ hu);rw[Rm hk];have h3:=KW (XM bs (p.take k)).1 (WX ((el p k).1,(el p k).1) bs (el p k).2 (el p k).2.length).1;have h4:=KW (XM bs (p.take k)).2 (WX ((el p k).1,(el p k).1) bs (el p k).2 (el p k).2.length).2;rw[aA];exact⟨by show JU (_+_)<=_;have:=ih.1;have:=h1.1;omega,by show JU (_+_)<=_;have:=ih.2;have:=h1.2;omega⟩
def ql(Z D T S:Nat):Nat:=2+T*(Z+D*(S+1)+2)
def GP{p:List Tm}(h:gJ Z D T m p)(hb:bs.length=m)(hS:∀x∈bs,XN x S):XN (XM bs p) (ql Z D T S):=by
 have h1:=CU h hb hS p.length (aa _);rw[au]at h1;have h2:p.length*(Z+D*(S+1)+2)<=T*(Z+D*(S+1)+2):=ae _ h.len;exact h1.mono (by unfold ql;omega)
def gi(ks:List Int){j m:Nat}(h:j<m):(Qn ks j).toNat<=Z6 ks m:=af (show _<=Z6 ks (j+1)from bA _ _) (Dm ks h)
theorem Ea{p:List Tm}(h:gJ Z D T m p)(hb:bs.length=m)(hm:m<=1000)(hS:∀x∈bs,XN x S)(hS1:S<=1000000)(hZ:Z<=1000000)(hM:ql Z D T S<=10000000)(hD:Z+D*(S+1)+1<=10000000):OX bs p:=by
 refine⟨λx hx=>(hS x hx).mono hS1,λu hu=>af (h.Dt u hu) hZ,λu hu=>⟨by rw[h.pl u hu,hb];exact aa _,by rw[h.pl u hu];exact hm,h.pw u hu⟩,λu hu i hi=>?_,λu hu i hi=>?_,λk=>?_⟩
 ·rw[h.pl u hu]at hi;have h1:=xK h hb hS hu i hi;have h2:Z6 u.2 i*(S+1)<=D*(S+1):=ae _ (af (Dm u.2 hi) (h.sum u hu));exact h1.mono O
 ·rw[h.pl u hu]at hi;have h1:=Ao (n:=Qn u.2 i) (hS _ (Qv (show i<bs.length by omega)));have h2:(Qn u.2 i).toNat*S<=D*(S+1):=bX (af (gi u.2 hi) (h.sum u hu)) O;exact h1.mono O
 rw[bI];have h1:=CU h hb hS (min k p.length) (aQ _ _);have h2:min k p.length*(Z+D*(S+1)+2)<=T*(Z+D*(S+1)+2):=ae _ (af (aQ _ _) h.len);unfold ql at hM;exact h1.mono O
def yJ{rs:List (List Tm)}(h:i<x.length):el (Z4 rs fr t2 x on) i=Vv (el x i) (Jg (0,t2-fr) (XM ((fr,t2)::on) (el rs i))):=by unfold Z4;rw[Yj _ h]
structure MvC(Z D T m St:Nat)(rs:List (List Tm))(fr t2:Rat):Prop where
 po:∀i,i<rs.length->gJ Z D T (m+1) (el rs i)
 hn:rs.length=m
 f:JU fr<=St
 t:JU t2<=St
theorem FD{St X:Nat}{rs:List (List Tm)}(h:MvC Z D T m St rs fr t2)(hx:x.length=m)(ho:on.length=m)(hX:∀v∈x,XN v X)(hS:∀v∈on,XN v S)(hSt:St<=S):∀v∈Z4 rs fr t2 x on,XN v (X+(2*St+1+ql Z D T S)+1):=λv hv=>by
 obtain⟨i,hi,rfl⟩:=aq hv;rw[Z3]at hi;rw[<-JW (by rw[Z3];exact hi),yJ hi];have hir:i<rs.length:=by rw[h.hn];omega
 have h1:=GP (h.po i hir) (bs:=(fr,t2)::on) (by rw[aE,ho]) (λy hy=>by
  rcases List.mem_cons.1 hy with rfl | hy
  ·exact⟨af h.f hSt,af h.t hSt⟩
  exact hS y hy)
 have h2:=Hp t2 fr;have hf:=h.f;have ht:=h.t;have h3:XN ((0:Rat),t2-fr) (2*St+1):=⟨af (show JU 0<=1 by decide) (bA _ _),by show JU (t2-fr)<=_;omega⟩;have h4:=KV h3 h1;have h5:=hX _ (Qv hi);have h6:=KW (el x i).1 (Jg (0,t2-fr) (XM ((fr,t2)::on) (el rs i))).1;have h7:=KW (el x i).2 (Jg (0,t2-fr) (XM ((fr,t2)::on) (el rs i))).2;exact⟨by show JU (_+_)<=_;have:=h4.1;have:=h5.1;omega,by show JU (_+_)<=_;have:=h4.2;have:=h5.2;omega⟩
theorem SH{St X:Nat}{rs:List (List Tm)}(h:MvC Z D T m St rs fr t2)(hx:x.length=m)(ho:on.length=m)(hX:∀v∈x,XN v X)(hS:∀v∈on,XN v S)(hSt:St<=S)(hm:m<=900)(hS1:S<=1000000)(hX1:X<=10000000)(hZ:Z<=1000000)(hM:ql Z D T S<=10000000)(hD:Z+D*(S+1)+1<=10000000):jv rs fr t2 x on:=by
 have hb:∀y∈(fr,t2)::on,XN y S:=λy hy=>by
  rcases List.mem_cons.1 hy with rfl | hy
  ·exact⟨af h.f hSt,af h.t hSt⟩
  exact hS y hy
 exact⟨λi hi=>Ea (h.po i hi) (by rw[aE,ho]) O hb hS1 hZ hM hD,λi hi=>(GP (h.po i hi) (by rw[aE,ho]) hb).mono hM,⟨af h.f O,af h.t O⟩,λa ha=>(hX a ha).mono hX1⟩
def gQ{St X:Nat}{rs:List (List Tm)}(h:MvC Z D T m St rs fr t2)(hx:x.length=m)(hX:∀v∈x,XN v X)(hSt:St<=X)(hSt2:St<=2400)(hm:m<=900)(hX1:X<=900000)(hZ:Z<=900000)(hM:ql Z D T X<=900000)(hM2:ql Z D T 2400<=900000)(hD:Z+D*(X+1)+1<=10000000)(hD2:Z+D*(2400+1)+1<=10000000):OP rs fr t2 x:=by
 refine⟨λa ha=>(hX a ha).mono O,SH h hx hx hX hX hSt hm O O O O hD,λa ha=>(FD h hx hx hX hX hSt a ha).mono O,λv hv hs=>SH h hx O hX hs hSt2 hm O O O O hD2,λv hv hs a ha=>(FD h hx O hX hs hSt2 a ha).mono O⟩
theorem SB.less{rs:List (List Tm)}{t:Rat×Rat}{vb:List (Rat×Rat)}(h:SB rs t vb n)(hm:m<=n):SB rs t vb m :=
 ⟨λk hk=>h.tm k O,λk hk=>h.mn k O,λk hk=>h.sm k O,λk hk=>h.cf k O⟩
def Cl.pow{b:Nat}{x:Rat}(h0:0<Q)(h:Cl Q 1 b x):∀k,Cl Q k (k*b) (x^k)
 |0=>by rw[Rat.pow_zero,bF];exact .one 0 0 h0
 |k+1=>by
  rw[Rat.pow_succ,aA,ef];exact(Cl.pow h0 h k).mul h0 h
def YQ.pt{d b:Nat}{x:Rat}(h:Cl Q d b x):YQ Q d b (x,x):=⟨h,h⟩
def bE(B D T n:Nat):Nat:=D*(B+(n+1+1))+T+(B+1)
def Cy{rs:List (List Tm)}{h:Rat}(hc:OO Q B D T (n+1) rs (fr,fr) x)(hh:Cl Q 1 (B+1) h){i:Nat}(hi:i<x.length):∀k,k<=n+1->YQ Q ((D+2)*n+1) (bE B D T n*n+B+k) (G8 (el (Jb rs (fr,fr) x n) i) h k):=by
 intro k
 induction k with
 |zero=>intro _;exact YQ.zero hc.q0
 |succ k ih =>
  intro hk;have ih:=ih O;have h1:=P7 hc n O i hi k (by rw[Zj rs _ x n hi];exact hk);have h2:=YQ.times hc.q0 h1 (.pt (hh.pow hc.q0 k));rw[Dl];refine YQ.add hc.q0 ih (h2.mono hc.q0 (e:=(D+2)*n+1) (c:=bE B D T n*n+B+k) ?_ ?_)
  ·have e:(D+1)*k+1+k=(D+2)*k+1:=by rw[show D+2=D+1+1 from rfl,aA (D+1) 1];omega
   rw[e];have:(D+2)*k<=(D+2)*n:=ag _ O;omega
  have e:(D*(B+(n+1+1))+T)*k+B+k*(B+1)=bE B D T n*k+B:=by unfold bE;rw[aA (D*(B+(n+1+1))+T),bG k];omega
  have:bE B D T n*k<=bE B D T n*n:=ag _ O;show(D*(B+(n+1+1))+T)*k+B+k*(B+1)<=_;omega
def jx(D n:Nat):Nat:=(D+2)*(n+1)+1
def jW(B D T n:Nat):Nat:=bE B D T n*(n+1)+B+(n+1)
def pJ{rs:List (List Tm)}{t:Rat×Rat}{h:Rat}(hc:OO Q B D T (n+1) rs t on)(hh:Cl Q 1 (B+1) h){i:Nat}(hi:i<on.length):YQ Q (jx D n) (jW B D T n) (Jg (el (el (Jb rs t on (n+1)) i) (n+1)) (h^(n+1),h^(n+1))):=by
 have h1:=P7 hc (n+1) (aa _) i hi (n+1) (by rw[Zj rs _ on (n+1) hi];omega);have h2:=YQ.times hc.q0 h1 (.pt (hh.pow hc.q0 (n+1)));refine h2.mono hc.q0 ?_ ?_
 ·unfold jx;rw[show D+2=D+1+1 from rfl,aA (D+1) 1];omega
 unfold jW bE;rw[aA (D*(B+(n+1+1))+T),bG (n+1) (B+1)];omega
def Cw{rs:List (List Tm)}(h:i<x.length):el (Xy rs fr t2 x on n) i=Vv (G8 (el (Jb rs (fr,fr) x n) i) (t2-fr) (n+1)) (Jg (el (el (Jb rs (fr,t2) on (n+1)) i) (n+1)) ((t2-fr)^(n+1),(t2-fr)^(n+1))):=by unfold Xy;rw[Yj _ h]
theorem Cx{rs:List (List Tm)}(hx:OO Q B D T (n+1) rs (fr,fr) x)(ho:OO Q B D T (n+1) rs (fr,t2) on)(hh:Cl Q 1 (B+1) (t2-fr))(hl:on.length=x.length):∀s∈Xy rs fr t2 x on n,YQ Q (jx D n) (jW B D T n+1) s:=λs hs=>by
 have hlen:(Xy rs fr t2 x on n).length=x.length:=by simp[Xy]
 obtain⟨i,hi,rfl⟩:=aq hs;rw[<-JW hi];rw[hlen]at hi;rw[Cw hi];have h1:=Cy hx hh hi (n+1) (aa _);have h2:=pJ ho hh (i:=i) O;refine YQ.add hx.q0 (h1.mono hx.q0 ?_ ?_) h2
 ·unfold jx;rw[aS];omega
 unfold jW;rw[aS];omega
def Im(Q B D T n:Nat):Nat:=jW B D T n+1+jx D n*sz (Q:Int)+2
theorem Il{Q:Nat}{rs:List (List Tm)}(hx:OO Q B D T (n+1) rs (fr,fr) x)(ho:OO Q B D T (n+1) rs (fr,t2) on)(hh:Cl Q 1 (B+1) (t2-fr))(hl:on.length=x.length)(hM:vL Q B D T (n+1)<=10000000)(hT:Im Q B D T n<=10000000)(hB:B+sz (Q:Int)<=900000):Cg rs fr t2 x on n/\∀s∈Xy rs fr t2 x on n,XN s 10000000:=by
 have hM0:=hM;unfold vL at hM0;have hs:=hx.q0;have q1:((D+1)*(n+1)+1)*sz (Q:Int)<=((D+1)*(n+1)+(D+2))*sz (Q:Int):=ae _ O;have sz1:∀(t:Rat×Rat) (y:List (Rat×Rat)),OO Q B D T (n+1) rs t y->∀m,m<=n+1->∀i,i<y.length->∀k,k<=m->XN (el (el (Jb rs t y m) i) k) 10000000:=λt y hy m hm i hi k hk =>
  (P7 hy m hm i hi).Sm hs (n:=n+1) (by rw[Zj rs _ y m hi];omega) O _ (Qv (by rw[Zj rs _ y m hi];omega))
 refine⟨⟨(hx.ok O).less O,ho.ok O,λi hi k hk=>sz1 _ x hx n O i hi k hk,λi hi=>sz1 _ on ho (n+1) (aa _) i O (n+1) (aa _),λi hi k hk=>?_,λk hk=>?_,?_,?_⟩,λs hs2=>?_⟩
 ·have h1:=(Cy hx hh hi k hk).Sm hs;refine h1.mono ?_;unfold Im jW jx at hT;have g1:bE B D T n*n<=bE B D T n*(n+1):=ag _ O;have g2:((D+2)*n+1)*sz (Q:Int)<=((D+2)*(n+1)+1)*sz (Q:Int):=ae _ (by have:(D+2)*n<=(D+2)*(n+1):=ag _ O;omega);omega
 ·have h1:=(hh.pow hs k).JU hs;unfold Im jW jx bE at hT;have g1:k*(B+1)<=(D*(B+(n+1+1))+T+(B+1))*(n+1):=by rw[bG k];exact bX O hk
  have g2:k*sz (Q:Int)<=((D+2)*(n+1)+1)*sz (Q:Int):=ae _ (by rw[aA];omega);omega
 ·have h1:=hh.JU hs;omega
 ·have h1:=hx.tm.1.JU hs;have h2:=ho.tm.2.JU hs;dsimp only at h1 h2;exact⟨O,O⟩
 have h1:=(Cx hx ho hh hl s hs2).Sm hs;refine h1.mono ?_;unfold Im at hT;omega
theorem Fa(a b:J3):L0 a b=true↔b.1<=a.1/\a.2<=b.2:=by
 unfold L0;rw[ai,decide_eq_true_eq,decide_eq_true_eq];have h:∀x y:Rat,Yb x y<=0↔x<=y:=λx y=>by unfold Yb;split<;>(try split)<;>grind
 rw[h,h]
def N0(a b:List J3):U7 a b=true↔∀i,i<a.length->(el b i).1<=(el a i).1/\(el a i).2<=(el b i).2:=by
 unfold U7;rw[ak];exact⟨λh i hi=>(Fa _ _).1 (h i (List.mem_range.2 hi)),λh i hi=>(Fa _ _).2 (h i (List.mem_range.1 hi))⟩
theorem j4{a b c:List J3}(h:YR a b)(k:U7 b c=true):U7 a c=true:=by
 rw[N0]at k ⊢;intro i hi;obtain⟨h1,h2,h3⟩:=h.2 i hi;obtain⟨k1,k2⟩:=k i (h.1 ▸ hi);exact⟨ay k1 h1,ay h3 k2⟩
def M9{x y:Rat}(h:x<=y)(i:Nat):YK x i<=YK y i:=by
 have hp:=Fj i;unfold YK;refine ah ?_ (aN hp);refine Rat.intCast_le_intCast.2 (aW ?_);rw[bc,bc];exact ah h (aN (Rat.inv_pos.2 hp))
def TA(a:J3)(b:Int):Z7 (Z7 a b) b=Z7 a b:=by
 rw[RL,RL];dsimp only;rw[Rat.neg_neg];unfold YK;rw[FC,FC,aP,aP]
theorem yA{a:J3}(h:a.1<=a.2)(b:Int):ZK a (Z7 a b):=by
 rw[RL];have h1:=(Da a.1 b.toNat).1;have h2:=(Ta a.2 b.toNat).1;exact⟨by show YK _ _<=_;grind,h,by show _<=-YK _ _;grind⟩
theorem S9{a c:J3}(h:ZK a c)(b:Int):ZK (Z7 a b) (Z7 c b):=by
 rw[RL,RL];obtain⟨h1,h2,h3⟩:=h;refine⟨M9 h1 _,QBB h2 _,?_⟩;have:=M9 (show -c.2<=-a.2 by grind) b.toNat;show -YK _ _<=-YK _ _
 grind
def E2(l:List J3):Prop:=∀i,i<l.length->(el l i).1<=(el l i).2
theorem E2.sub{l:List J3}(h:E2 l):YR l l:=⟨rfl,λi hi=>ZK.self (h i hi)⟩
theorem YR.ord{a b:List J3}(h:YR a b):E2 a:=λi hi=>(h.2 i hi).2.1
def BI(rs:List (List Tm))(fr t2:Rat)(x on:List J3):(Z4 rs fr t2 x on).length=x.length:=by simp[Z4]
def GM(f:J3->J3->J3)(a b:List J3):(DK f a b).length=a.length:=by simp[DK]
def Eb(f:J3->J3->J3)(a b:List J3){i:Nat}(h:i<a.length):el (DK f a b) i=f (el a i) (el b i):=by unfold DK;rw[Yj _ h]
def DQ{β:Type}[Inhabited α][Inhabited β](f:α->β){l:List α}{i:Nat}(h:i<l.length):el (l.map f) i=f (el l i):=by
 rw[JW (by simpa using h),JW h,aZ]
def jk(rs:List (List Tm))(n:Nat):Prop:=∀i,i<n->∀t∈el rs i,t.2.length<=n+1/\∀k∈t.2,0<=k
theorem TG{rs:List (List Tm)}{x on o2:List J3}(hx:E2 x)(ho:YR on o2)(hl:on.length=x.length)(ht:fr<=t2)(hr:jk rs x.length):YR (Z4 rs fr t2 x on) (Z4 rs fr t2 x o2):=by
 unfold Z4;refine YR.of λi hi=>SN (ZK.self (hx i hi)) (Hg (ZK.self (by show(0:Rat)<=t2-fr;grind)) ?_);exact Pg (rs:=(fr,t2)::on) (bs:=(fr,t2)::o2) (by simpa[hl]using hr i hi) λj hj=>by
  cases j with
  |zero=>exact ZK.self ht
  |succ j=>exact ho.2 j (by simpa using hj)
theorem Fc{a b:J3}(h:a.1<=a.2):(XA a b).1<=a.1/\a.2<=(XA a b).2/\(XA a b).1<=b.1/\b.2<=(XA a b).2:=by
 have c:∀x y:Rat,Yb x y<=0↔x<=y:=λx y=>by unfold Yb;split<;>(try split)<;>grind
 have c2:∀x y:Rat,Yb x y>=0↔y<=x:=λx y=>by unfold Yb;split<;>(try split)<;>grind
 unfold XA qR qT;dsimp only;simp only[c,c2];refine⟨?_,?_,?_,?_⟩<;>(split<;>grind)
def onG(l:List J3)(b:Int):Prop:=E2 l/\∀i,i<l.length->Z7 (el l i) b=el l i
def RM{a:J3}(h:a.1<=a.2)(b:Int):(Z7 a b).1<=(Z7 a b).2:=(S9 (ZK.self h) b).2.1
def AK(b:Int):0<=(((two b:Int):Rat))⁻¹:=aN (Rat.inv_pos.2 (by
 have:0<two b:=bQ wu;exact Rat.intCast_lt_intCast.2 this))
theorem xH{v n:J3}(h:v.1<=v.2):(SU b v n).1<=(SU b v n).2:=by
 unfold SU;refine RM ?_ b;dsimp only;have h1:=Fc (a:=v) (b:=n) h;have h2:=AK b;have h3:0<=((XA v n).2-(XA v n).1)*aC 1 4:=Rat.mul_nonneg (by grind) wv
 grind
theorem AN{rs:List (List Tm)}{x W:List J3}(hx:E2 x)(ht:fr<=t2)(hr:jk rs x.length):∀(k:Nat) (v:List J3),v.length=x.length->onG v b->D1 rs fr t2 x b k v=some W ->
  ∃v,v.length=x.length/\onG v b/\Jv v=false/\YR W v/\U7 (Z4 rs fr t2 x W) W=true
 |0,_,_,_,h=>by simp[D1]at h
 |k+1,v,hl,hg,h=>by
  unfold D1 at h;by_cases h1:Jv v=true
  ·rw[if_pos h1]at h;cases h
  rw[if_neg h1]at h;by_cases h2:U7 (Z4 rs fr t2 x v) v=true
  ·rw[if_pos h2]at h;obtain rfl:(Z4 rs fr t2 x v).map (Z7 · b)=W:=by simpa using h
   have hn:=TG hx hg.1.sub hl ht hr;have hWv:YR ((Z4 rs fr t2 x v).map (Z7 · b)) v:=⟨by rw[ab,BI,hl],λi hi=>by
    rw[ab]at hi;rw[DQ _ hi];rw[N0]at h2;obtain⟨k1,k2⟩:=h2 i hi;have:=S9 (b:=b) (show ZK (el (Z4 rs fr t2 x v) i) (el v i)from⟨k1,hn.ord i hi,k2⟩)
    rwa [hg.2 i (by rw[hl,<-BI rs fr t2 x v];exact hi)]at this⟩
   refine⟨v,hl,hg,by simpa using h1,hWv,?_⟩;have h3:=TG hx hWv (by rw[ab,BI]) ht hr;refine j4 h3 ((N0 _ _).2 λi hi=>?_);rw[DQ _ hi];have:=yA (hn.ord i hi) b;exact⟨this.1,this.2.2⟩
  rw[if_neg h2]at h;refine AN hx ht hr k _ (by rw[GM,hl]) ⟨λi hi=>?_,λi hi=>?_⟩ h
  ·rw[GM]at hi;rw[Eb _ _ _ hi];exact xH (hg.1 i hi)
  rw[GM]at hi;rw[Eb _ _ _ hi];unfold SU;exact TA _ _
theorem zo{rs:List (List Tm)}{x W:List J3}(hx:E2 x)(ht:fr<=t2)(hr:jk rs x.length)(h:Yq rs fr t2 x b=some W):
  ∃v,v.length=x.length/\onG v b/\Jv v=false/\YR W v/\U7 (Z4 rs fr t2 x W) W=true:=by
 refine AN hx ht hr 12 _ (by rw[GM]) ⟨λi hi=>?_,λi hi=>?_⟩ h
 ·rw[GM]at hi;rw[Eb _ _ _ hi];exact RM (by have:=Fc (b:=el (Z4 rs fr t2 x x) i) (hx i hi);have:=hx i hi;grind) b
 rw[GM]at hi;rw[Eb _ _ _ hi];exact TA _ _
def Fq{x:Rat}{c:Int}(h : -(c:Rat)<=x/\x<=(c:Rat)): -c<=x.floor/\x.floor<=c:=by
 have h1:=aW h.2;have h2:=aW h.1;rw[aP]at h1;rw[<-bm,aP]at h2;exact⟨h2,h1⟩
def QBM{Q z:Int}(hq:Q≠0):aC z Q*(Q:Rat)=(z:Rat):=by
 have hq':(Q:Rat)≠0:=λh=>hq (Rat.intCast_inj.1 (by simpa using h));rw[bU,bc,bY,Rat.inv_mul_cancel _ hq',ee]
theorem mgQ{Q z c:Int}(hq:0<Q)(h : -(c:Rat)<=aC z Q/\aC z Q<=(c:Rat)): -(c*Q)<=z/\z<=c*Q:=by
 have hq':(0:Rat)<=(Q:Rat):=aN ((aR (a:=0) (b:=Q)).2 hq);have h1:=ah h.1 hq';have h2:=ah h.2 hq';rw[QBM O]at h1 h2;rw[<-bm,<-aJ]at h1;rw[<-aJ]at h2;have g1:=Rat.intCast_le_intCast.1 h1;have g2:=Rat.intCast_le_intCast.1 h2;rw[ek]at g1;exact⟨g1,g2⟩
theorem yN{Q z c:Int}(hq:0<Q)(h : -(c*Q)<=z/\z<=c*Q): -(c:Rat)<=aC z Q/\aC z Q<=(c:Rat):=by
 have hq':(0:Rat)<(Q:Rat):=(aR (a:=0) (b:=Q)).2 hq;have e:∀x:Rat,x=x*(Q:Rat)*(Q:Rat)⁻¹:=λx=>by rw[bY,Rat.mul_inv_cancel _ (by grind),ee]
 have hi:(0:Rat)<=(Q:Rat)⁻¹:=aN (Rat.inv_pos.2 hq');constructor
 ·rw[e (aC z Q),QBM O,e (-(c:Rat))];refine ah ?_ hi;rw[<-bm,<-aJ];exact Rat.intCast_le_intCast.2 (by rw[ek];exact h.1)
 rw[e (aC z Q),QBM O,e (c:Rat)];refine ah ?_ hi;rw[<-aJ];exact Rat.intCast_le_intCast.2 h.2
def FE(k:Nat)(r:Rat):Prop:=-(((2^k:Int)):Rat)<=r/\r<=((2^k:Int):Rat)
def zZ(k:Nat):(0:Int)<2^k:=bQ wu
theorem Cl.mg{d:Nat}{r:Rat}(h0:0<Q)(h:Cl Q d k r):FE k r:=by
 obtain⟨z,rfl,hz⟩:=h;have hq:0<((Q^d:Nat):Int):=wk (bh (n:=d) h0);refine yN hq ?_;have e:(2^k:Int)*((Q^d:Nat):Int)=((2^k*Q^d:Nat):Int):=by rw[aM,aL 2 k];rfl
 rw[e];omega
theorem Cl.small{d:Nat}{r:Rat}(h0:0<Q)(h:Cl Q 1 d r)(hm:FE k r):Cl Q 1 k r:=by
 obtain⟨z,rfl,hz⟩:=h;have hq:0<((Q^1:Nat):Int):=wk (bh (n:=1) h0);refine⟨z,rfl,?_⟩;have h1:=mgQ hq hm;have e:(2^k:Int)*((Q^1:Nat):Int)=((2^k*Q^1:Nat):Int):=by rw[aM,aL 2 k];rfl
 rw[e]at h1;omega
theorem UI{r:Rat}(h:JU r<=k):FE k r:=by
 have h1:sz r.num<=k:=af (bz _ _) h;rw[XO]at h1;have h2:=yN (Q:=(r.den:Int)) (z:=r.num) (c:=2^k) (wk r.den_pos) (by
  have e:(2^k:Int)=((2^k:Nat):Int):=by rw[aL];rfl
  have h3:(2^k:Int)*1<=2^k*(r.den:Int):=Int.mul_le_mul_of_nonneg_left (wk r.den_pos) (Int.le_of_lt (zZ k));rw[e]at h3 ⊢;omega)
 rw[Rat.num_divInt_den]at h2;exact h2
def Gq{a b r:Rat}(ha:FE k a)(hb:FE k b)(h1:a<=r)(h2:r<=b):FE k r:=⟨ay ha.1 h1,ay h2 hb.2⟩
theorem z8{a:Rat×Rat}(h0:0<Q)(hd:2^b.toNat ∣ Q)(h:FE k a.1/\FE k a.2):YQ Q 1 k (Z7 a b):=by
 obtain⟨q,rfl⟩:=hd;have hq:0<q:=bT (by rintro rfl;simp at h0);have e:two b=((2^b.toNat:Nat):Int):=by unfold two;rw[aL];rfl
 have hT:0<two b:=bQ wu;have key:∀p:Int,(-(2^k*two b)<=p/\p<=2^k*two b)->Cl (2^b.toNat*q) 1 k (aC p (two b)):=λp hp=>by
  refine⟨p*q,?_,?_⟩
  ·rw[bj,aM,<-e,bL O]
  rw[bj,Int.natAbs_mul,aX,<-Nat.mul_assoc];refine ae _ ?_;have e2:(2:Int)^k*two b=((2^k*2^b.toNat:Nat):Int):=by rw[e,aM,aL 2 k];rfl
  rw[e2]at hp;omega
 have hTq:(0:Rat)<=((two b:Int):Rat):=aN ((aR (a:=0) (b:=two b)).2 hT);have mul:∀x:Rat,FE k x->-(((2^k*two b:Int)):Rat)<=x*((two b:Int):Rat)/\x*((two b:Int):Rat)<=((2^k*two b:Int):Rat):=λx hx=>by
  rw[aJ];have m1:=ah hx.1 hTq;have m2:=ah hx.2 hTq;rw[Rat.neg_mul]at m1;exact⟨m1,m2⟩
 refine⟨key _ (Fq (mul _ h.1)),key _ ?_⟩;have:=Fq (c:=2^k*two b) (x:=-(a.2*((two b:Int):Rat))) (by have:=mul _ h.2;constructor<;>grind);omega
def Tq{rs:List (List Tm)}{x:List J3}:∀(k:Nat) (v W:List J3),D1 rs fr t2 x b k v=some W->W.length=x.length/\∀a∈W,∃c,a=Z7 c b
 |0,v,W,h=>by cases h
 |k+1,v,W,h=>by
  unfold D1 at h;by_cases h1:Jv v=true
  ·rw[if_pos h1]at h;cases h
  rw[if_neg h1]at h;by_cases h2:U7 (Z4 rs fr t2 x v) v=true
  ·rw[if_pos h2]at h;cases h;refine⟨by rw[ab,BI],λa ha=>?_⟩;obtain⟨c,_,rfl⟩:=List.mem_map.1 ha;exact⟨c,rfl⟩
  rw[if_neg h2]at h;exact Tq k _ W h
def QBC(c:Rat×Rat){b:Int}(h0:0<Q)(hd:2^b.toNat ∣ Q):∃k,YQ Q 1 k (Z7 c b):=by
 have h1:FE (max (JU c.1) (JU c.2)) c.1:=UI (bz _ _);have h2:FE (max (JU c.1) (JU c.2)) c.2:=UI (Nat.le_max_right _ _);exact⟨_,z8 h0 hd ⟨h1,h2⟩⟩
theorem y6{bs:List J3}{l:List Tm}(hl:∀t∈l,t.2.length<=bs.length/\∀k∈t.2,0<=k)(hb:E2 bs):(XM bs l).1<=(XM bs l).2 :=
 (Pg hl λi hi=>ZK.self (hb i hi)).2.1
structure jo(Q Z D T m n:Nat)(b:Int)(rs:List (List Tm)):Prop where
 q0:0<Q
 hb:0<=b/\b<=64
 dy:2^b.toNat ∣ Q
 inv:∀k,k<n+1->Cl Q 1 0 ((((k+1:Nat):Int):Rat)⁻¹)
 po:∀i,i<rs.length->gJ Z D T (m+1) (el rs i)
 fd:∀i,i<rs.length->∀u∈el rs i,u.1.den ∣ Q
 hn:rs.length=m
 hm:m<=900
 hZ:Z<=2400
 n1:vL Q 2400 D T (n+1)<=10000000
 n2:Im Q 2400 D T n<=850000
 n3:2400+sz (Q:Int)<=800000
 n4:ql Z D T (Im Q 2400 D T n)<=900000
 n5:Z+D*(Im Q 2400 D T n+1)+1<=10000000
def y7{S':Nat}(h:S<=S'):ql Z D T S<=ql Z D T S':=by
 unfold ql;have h1:D*(S+1)<=D*(S'+1):=ag _ O;have h2:T*(Z+D*(S+1)+2)<=T*(Z+D*(S'+1)+2):=ag _ O;omega
structure XOk(Q D T m n:Nat)(x:List J3):Prop where
 len:x.length=m
 ord:E2 x
 cl:∀a∈x,YQ Q 1 (jW 2400 D T n+1) a
structure TmC(Q:Nat)(t:Rat):Prop where
 cl:Cl Q 1 2400 t
 sz:JU t<=2400
theorem jo.fit{rs:List (List Tm)}(h:jo Q Z D T m n b rs):jk rs m:=λi hi t ht=>by
 have hp:=h.po i (by rw[h.hn];exact hi);exact⟨by rw[hp.pl t ht];exact aa _,λk hk=>(hp.pw t ht k hk).1⟩
theorem jo.ty{rs:List (List Tm)}(h:jo Q Z D T m n b rs){t:J3}{y:List J3}(ht:YQ Q 1 2400 t)(hl:y.length=m)(hy:∀a∈y,YQ Q 1 2400 a):OO Q 2400 D T (n+1) rs t y where
 q0:=h.q0
 inv:=h.inv
 Dt:=λi hi u hu=>by
  have hp:=h.po i hi;refine⟨Cl.of u.1 h.q0 (h.fd i hi u hu) (af (af (bz _ _) (hp.Dt u hu)) h.hZ),by rw[hl];exact hp.sum u hu,by rw[hl];exact hp.pl u hu,λk hk=>⟨(hp.pw u hu k hk).1,wk<|(hp.pw u hu k hk).2⟩⟩
 len:=λi hi=>(h.po i hi).len
 tm:=ht
 box:=hy
 hn:=by rw[h.hn,hl]
def QAg(Q B D T n:Nat):B+1+1*sz (Q:Int)+2<=Im Q B D T n:=by
 unfold Im jW jx;have h1:1*sz (Q:Int)<=((D+2)*(n+1)+1)*sz (Q:Int):=ae _ O;omega
theorem dc{rs:List (List Tm)}{x W:List J3}(hx:x.length=m)(hW:W.length=m)(hi:i<m)(hr:jk rs m)(hxo:E2 x)(hWo:E2 W)(ht:fr<=t2):Wx (el x i).1 (el (Z4 rs fr t2 x W) i)/\Wx (el x i).2 (el (Z4 rs fr t2 x W) i):=by
 rw[yJ O];have ho:(XM ((fr,t2)::W) (el rs i)).1<=(XM ((fr,t2)::W) (el rs i)).2:=y6 (by rw[aE,hW];exact hr i hi) λj hj=>by
  cases j with
  |zero=>exact ht
  |succ j=>exact hWo j (by simpa using hj)
 have h0:=GG (x:=0) (y:=(XM ((fr,t2)::W) (el rs i)).1) (a:=(0,t2-fr)) (b:=XM ((fr,t2)::W) (el rs i)) ⟨bK,by show(0:Rat)<=t2-fr;grind⟩ ⟨bK,ho⟩;rw[Rat.zero_mul]at h0;have hxi:=hxo i O;unfold Wx Vv at *
 dsimp only;obtain⟨a1,a2⟩:=h0;refine⟨⟨?_,?_⟩,?_,?_⟩<;>grind
theorem gT(rs:List (List Tm))(fr t2:Rat)(x on:List J3)(n:Nat):∀s∈Xy rs fr t2 x on n,s.1<=s.2:=λs hs=>by
 have hlen:(Xy rs fr t2 x on n).length=x.length:=by simp[Xy]
 obtain⟨i,hi,rfl⟩:=aq hs;rw[<-JW hi];rw[hlen]at hi;rw[Cw hi];have h1:∀k,(G8 (el (Jb rs (fr,fr) x n) i) (t2-fr) k).1<=(G8 (el (Jb rs (fr,fr) x n) i) (t2-fr) k).2:=by
  intro k
  induction k with
  |zero=>exact bK
  |succ k ih =>
   rw[Dl];have:=MC (el (el (Jb rs (fr,fr) x n) i) k) ((t2-fr)^k,(t2-fr)^k);show _+_<=_+_
   grind
 have h2:=h1 (n+1);have h3:=MC (el (el (Jb rs (fr,t2) on (n+1)) i) (n+1)) ((t2-fr)^(n+1),(t2-fr)^(n+1));show _+_<=_+_
 grind
theorem Nq{rs:List (List Tm)}{x:List J3}(h:jo Q Z D T m n b rs)(hx:XOk Q D T m n x)(hf:TmC Q fr)(ht:TmC Q t2)(hle:fr<=t2):kz rs fr t2 x n b/\∀p,KP rs fr t2 x n b=some p->XOk Q D T m n p.2:=by
 have hlt:=QAg Q 2400 D T n;have mv:MvC Z D T m 2400 rs fr t2:=⟨h.po,h.hn,hf.sz,ht.sz⟩;have n1:=h.n1;have n2:=h.n2;have n3:=h.n3;have n4:=h.n4;have n5:=h.n5;have hZ:=h.hZ;have hm:=h.hm;have hb:=h.hb;have hX:∀v∈x,XN v (Im Q 2400 D T n):=λv hv=>(YQ.Sm h.q0 (hx.cl v hv)).mono (by
  unfold Im jx;have h1:1*sz (Q:Int)<=((D+2)*(n+1)+1)*sz (Q:Int):=ae _ O;omega)
 have hD2:D*(2400+1)<=D*(Im Q 2400 D T n+1):=ag _ O;have htr:OP rs fr t2 x:=gQ mv hx.len hX O (aa _) hm O O n4 (af (y7 O) n4) n5 O;have key:∀W,Yq rs fr t2 x b=some W->W.length=x.length/\(∀a∈W,YQ Q 1 2400 a)/\∀a∈x,YQ Q 1 2400 a:=λW hW=>by
  obtain⟨v,hvl,hvg,hvs,hWv,hg⟩:=zo hx.ord hle (by rw[hx.len];exact h.fit) hW;have hWl:=(Tq 12 _ W hW).1;have hWd:=(Tq 12 _ W hW).2;have hsm:=DY (v:=v) (by rw[hvs];simp);have hv:∀i,i<x.length->FE 2400 (el v i).1/\FE 2400 (el v i).2:=λi hi=>by
   have h1:=hsm _ (Qv (show i<v.length by omega));exact⟨UI h1.1,UI h1.2⟩
  have hWm:∀i,i<x.length->FE 2400 (el W i).1/\FE 2400 (el W i).2:=λi hi=>by
   have h1:=hWv.2 i O;have h2:=hv i hi;exact⟨Gq h2.1 h2.2 h1.1 (ay h1.2.1 h1.2.2),Gq h2.1 h2.2 (ay h1.1 h1.2.1) h1.2.2⟩
  refine⟨hWl,λa ha=>?_,λa ha=>?_⟩
  ·obtain⟨c,hc⟩:=hWd a ha;obtain⟨i,hi,rfl⟩:=aq ha;rw[<-JW hi]at hc ⊢;have h1:=hWm i O;obtain⟨k,hk⟩:=QBC c h.q0 h.dy;rw[<-hc]at hk;exact⟨hk.1.small h.q0 h1.1,hk.2.small h.q0 h1.2⟩
  have ha':=hx.cl a ha;obtain⟨i,hi,rfl⟩:=aq ha;rw[<-JW hi]at ha' ⊢;have h1:=hWm i hi;have h2:=dc (rs:=rs) (fr:=fr) (t2:=t2) (i:=i) hx.len (hWl.trans hx.len) (by rw[<-hx.len];exact hi) h.fit hx.ord hWv.ord hle;have h3:=(N0 _ _).1 hg i (by rw[BI];exact hi);unfold Wx at h2;have m1:FE 2400 (el x i).1:=Gq h1.1 h1.2 (ay h3.1 h2.1.1) (ay h2.1.2 h3.2);have m2:FE 2400 (el x i).2:=Gq h1.1 h1.2 (ay h3.1 h2.2.1) (ay h2.2.2 h3.2);exact⟨ha'.1.small h.q0 m1,ha'.2.small h.q0 m2⟩
 have hh:Cl Q 1 (2400+1) (t2-fr):=by rw[bS];exact ht.cl.add h.q0 hf.cl.neg
 have tb:∀W,Yq rs fr t2 x b=some W->(Cg rs fr t2 x W n/\∀s∈Xy rs fr t2 x W n,XN s 10000000)/\∀s∈Xy rs fr t2 x W n,YQ Q (jx D n) (jW 2400 D T n+1) s:=λW hW=>by
  obtain⟨k1,k2,k3⟩:=key W hW;have y1:=h.ty (t:=(fr,fr)) (.pt hf.cl) hx.len k3;have y2:=h.ty (t:=(fr,t2)) ⟨hf.cl,ht.cl⟩ (k1.trans hx.len) k2;exact⟨Il y1 y2 hh k1 O O O,Cx y1 y2 hh k1⟩
 refine⟨⟨htr,λW hW=>(tb W hW).1⟩,λp hp=>?_⟩;cases hv:Yq rs fr t2 x b with
 |none=>rw[Bb hv]at hp;cases hp
 |some W =>
  rw[Ba hv]at hp;cases hp;have hlen:(Xy rs fr t2 x W n).length=x.length:=by simp[Xy]
  refine⟨by show((Xy rs fr t2 x W n).map _).length=m;rw[ab,hlen,hx.len],λi hi=>?_,λa ha=>?_⟩
  ·have hi:i<((Xy rs fr t2 x W n).map (Z7 · b)).length:=hi;rw[ab]at hi;show(el ((Xy rs fr t2 x W n).map (Z7 · b)) i).1<=(el ((Xy rs fr t2 x W n).map (Z7 · b)) i).2;rw[DQ _ hi];exact RM (gT rs fr t2 x W n _ (Qv hi)) b
  obtain⟨s,hs,rfl⟩:=List.mem_map.1 ha;have h1:=(tb W hv).2 s hs;exact z8 h.q0 h.dy ⟨h1.1.mg h.q0,h1.2.mg h.q0⟩
def QFB(Q:Nat):Rat->List Rat->Prop
 |_,[]=>True
 |fr,e::es=>(TmC Q e/\fr<=e)/\QFB Q e es
def Oa{rs:List (List Tm)}(h:jo Q Z D T m n b rs):∀(es:List Rat) (fr:Rat) (x:List J3),XOk Q D T m n x->TmC Q fr->QFB Q fr es->uS rs n b fr x es
 |[],fr,x,_,_,_=>trivial
 |e::es,fr,x,hx,hf,ha=>by
  have h1:=Nq h hx hf ha.1.1 ha.1.2;exact⟨h1.1,λp hp=>Oa h es e p.2 (h1.2 p hp) ha.1.1 ha.2⟩
structure SmI{α:Type}(a b:List α) where
 i:Nat
 le:i<=a.length
 h:a.take i=b.take i
def SmI.step[Inhabited α]{a b:List α}(s:SmI a b)(h1:s.i<a.length)(h2:s.i<b.length)(e:el a s.i=el b s.i):a.take (s.i+1)=b.take (s.i+1):=by rw[XU h1,XU h2,s.h,e]
def SmI.done{a b:List α}(s:SmI a b)(hl:a.length=b.length)(h:s.i=a.length):a=b:=by
 have e:=s.h;rw[h,au,hl,au]at e;exact e
instance :Inhabited (List UInt8×List UInt8):=⟨([],[])⟩
theorem C5{la lb:List (List UInt8×List UInt8)}(hF:Fits F w)(ha:KO F ra la)(hb:KO F rb lb)(hn:ra.n<=1000000):Qg prog 35 [ra.v,rb.v] w F (.bool (decide (la=lb))):=by
 have hal:=ha.len;have hbl:=hb.len;refine QV.intro (G:=λF=>KO F ra la/\KO F rb lb) func35 rfl wy rfl rfl hF (λF' hF'=>⟨ha.le hF',hb.le hF'⟩)<|QI7<|wQ rfl<|QG<|wR rfl<|QA (Qh rfl J9)<|QH0 rfl<|QA (Qh rfl J9)<|QA (QT rfl rfl rfl)<|QE<|QC ?_
 refine QR I (λhc=>?_) λhc=>?_
 ·have h10:=bne_iff_ne.1 hc;refine wA 6 I ?_;exact QJO I I (congrArg aH (decide_eq_false λe=>h10 (by rw[<-hal,<-hbl,e]))) w8
 have h10:=bne_eq_false_iff_eq.1 hc;refine QJL 9 I<|XK (ι:=SmI la lb) [(0,_),(1,_)] (λi=>[(5,.int .i64 ((i.i:Nat):Int))]) (λi=>la.length-i.i) (⟨0,aI _,rfl⟩) wT wS λi=>?_
 simp only[aj,ao];have hi:=i.le;refine wA 5 I<|QA (Qh I J9)<|QJK 3 I ?_
 refine QR I (λhc=>?_) λhc=>?_
 ·have hlt:i.i<la.length:=wk<|QJG hc
  have hlt2:i.i<lb.length:=O;refine QJL 5 I<|JH QIM mixed wm<|QK (QD I)<|QK (QD I)<|QK (Q3 (n:=ra.n) i.i (λF h9=>h9.1.row) rfl rfl J9 Jq O)<|QK (JK (n:=ra.n) (vs:=[tx (el la i.i).1,tx (el la i.i).2]) ((i.i)*2) (λF h9=>h9.1.row) O rfl Jq I λj v hv=>JQ (f:=Pc) (l:=la) KZ O hv)<|QK (QD I)<|QK (QD I)<|QK (Q3 (n:=rb.n) i.i (λF h9=>h9.2.row) rfl rfl J9 Jq O)<|QK (JK (n:=rb.n) (vs:=[tx (el lb i.i).1,tx (el lb i.i).2]) ((i.i)*2) (λF h9=>h9.2.row) O rfl Jq I λj v hv=>JQ (f:=Pc) (l:=lb) KZ O hv)<|QK (zN I I)<|Q7<|QC ?_
  refine QR I (λhc=>?_) λhc=>?_
  ·have hne:¬(el la i.i)=(el lb i.i):=λe=>by rw[e]at hc;simp at hc
   refine wA 6 I ?_
   repeat first|refine Q6 ?_|refine Qy ?_
   exact QJO I I (congrArg aH (decide_eq_false λe=>hne (congrArg (λl=>el l i.i) e))) w8
  have heq:(el la i.i)=(el lb i.i):=by simp at hc;exact Prod.ext hc.1 hc.2
  refine QO<|Qk<|QJM 3 I<|QA (Qw I I O)<|wB 2 I ?_
  exact Qm (⟨i.i+1,hlt,i.step hlt hlt2 heq⟩) (by show la.length-(i.i+1)<la.length-i.i;omega) wU QIM w9
 have hge:i.i=la.length:=by have:=QJH hc;have:=i.le;omega
 refine Qz ?_
 repeat first|refine QZ ?_|refine QQ wy ?_
 refine Qa<|QJM 7 I ?_
 exact QJO I I (congrArg aH (decide_eq_true (i.done O hge))) w8
theorem LW{la lb:List (List UInt8)}(hF:Fits F w)(ha:Qx F ra.q ra.n 1 (la.map tx))(hb:Qx F rb.q rb.n 1 (lb.map tx))(hal:la.length=ra.n)(hbl:lb.length=rb.n)(hn:ra.n<=1000000):Qg prog 50 [ra.v,rb.v] w F (.bool (decide (la=lb))):=by
 refine QV.intro (G:=λF=>Qx F ra.q ra.n 1 (la.map tx)/\Qx F rb.q rb.n 1 (lb.map tx)) func50 rfl wy rfl rfl hF (λF' hF'=>⟨ha.le hF',hb.le hF'⟩)<|QI7<|wQ rfl<|QG<|wR rfl<|QA (Qh rfl KE)<|QH0 rfl<|QA (Qh rfl KE)<|QA (QT rfl rfl rfl)<|QE<|QC ?_
 refine QR I (λhc=>?_) λhc=>?_
 ·have h10:=bne_iff_ne.1 hc;refine wA 6 I ?_;exact QJO I I (congrArg aH (decide_eq_false λe=>h10 (by rw[<-hal,<-hbl,e]))) w8
 have h10:=bne_eq_false_iff_eq.1 hc;refine QJL 9 I<|XK (ι:=SmI la lb) [(0,_),(1,_)] (λi=>[(5,.int .i64 ((i.i:Nat):Int))]) (λi=>la.length-i.i) (⟨0,aI _,rfl⟩) wT wS λi=>?_
 simp only[aj,ao];have hi:=i.le;refine wA 5 I<|QA (Qh I KE)<|QJK 3 I ?_
 refine QR I (λhc=>?_) λhc=>?_
 ·have hlt:i.i<la.length:=wk<|QJG hc
  have hlt2:i.i<lb.length:=O;refine QJL 5 I<|JH QIM mixed wm<|QK (QD I)<|QK (QD I)<|QK (Q3 (n:=ra.n) i.i tA rfl rfl KE JP O)<|QK (Q5 (n:=ra.n) ((i.i)*1) tA O rfl JP (XL (f:=tx) (l:=la) O))<|QK (QD I)<|QK (QD I)<|QK (Q3 (n:=rb.n) i.i tB rfl rfl KE JP O)<|QK (Q5 (n:=rb.n) ((i.i)*1) tB O rfl JP (XL (f:=tx) (l:=lb) O))<|QK (zM I I)<|Q7<|QC ?_
  refine QR I (λhc=>?_) λhc=>?_
  ·have hne:¬(el la i.i)=(el lb i.i):=bne_iff_ne.1 hc;refine wA 6 I ?_
   repeat first|refine Q6 ?_|refine Qy ?_
   exact QJO I I (congrArg aH (decide_eq_false λe=>hne (congrArg (λl=>el l i.i) e))) w8
  have heq:(el la i.i)=(el lb i.i):=bne_eq_false_iff_eq.1 hc;refine QO<|Qk<|QJM 3 I<|QA (Qw I I O)<|wB 2 I ?_
  exact Qm (⟨i.i+1,hlt,i.step hlt hlt2 heq⟩) (by show la.length-(i.i+1)<la.length-i.i;omega) wU QIM w9
 have hge:i.i=la.length:=by have:=QJH hc;have:=i.le;omega
 refine Qz ?_
 repeat first|refine QZ ?_|refine QQ wy ?_
 refine Qa<|QJM 7 I ?_
 exact QJO I I (congrArg aH (decide_eq_true (i.done O hge))) w8
structure PZ(F:Gs)(y:X5)(nl:List (List UInt8))(rl:List Pt)(sl:List (List UInt8×List UInt8)):Prop where
 r:ZH F y
 t:Ww y
 n:y.nl=nl
 p:y.rl.map (λe=>YG e.2)=rl
 s:y.sl=sl
theorem PZ.e{nl:List (List UInt8)}{sl:List (List UInt8×List UInt8)}(h:PZ F y nl rl sl):y.e=By nl rl sl:=by unfold X5.e;rw[h.n,h.p,h.s]
def PZ.rs{nl:List (List UInt8)}{sl:List (List UInt8×List UInt8)}(h:PZ F y nl rl sl):y.rs=rl.map X9:=by unfold X5.rs;rw[<-h.p,List.map_map];rfl
def PZ.vs{nl:List (List UInt8)}{sl:List (List UInt8×List UInt8)}(h:PZ F y nl rl sl):y.vs=sl.map Q8:=by unfold X5.vs;rw[h.s]
def PZ.nn{nl:List (List UInt8)}{sl:List (List UInt8×List UInt8)}(h:PZ F y nl rl sl):y.nm.n=nl.length:=by rw[<-h.r.jg,h.n]
theorem Au{p:Int}{s:List UInt8}(hF:Fits F w)(hs:s.length<=1000000):QV prog 43 [.int .i64 p,tx s] w F (λ(c:X5)=>c.v) (λc F=>PZ F c [[120]] [[([49],[0,p])]] [(s,s)]):=by
 refine QV.intro (G:=λF=>True) func43 rfl wy rfl rfl hF w8<|QI7<|Qc xD λb4=>QHz<|QI7<|Qb rfl (Q4 Ku) Dq z_9 rfl rfl λb5=>QH0 rfl<|Qb rfl (Q4 JC) JO SP rfl rfl λb7=>QA (Q2 rfl RH Dv (wP rfl rfl rfl))<|Qb rfl (Q4 Kz) VA Dv rfl rfl λb9=>Qb rfl (Q4 V7) Wh QDS rfl rfl λb10=>QH0 rfl<|QH0 rfl<|QA (Q2 rfl ZZ Xe (wP rfl rfl rfl))<|Qb rfl (Q4 J9) Jq Xe rfl rfl λb14=>QA (Q2 rfl cA xD (.cons (vs:=[_]) rfl rfl rfl .h1 (.cons (vs:=[_]) rfl rfl rfl (.skip .h1) (.cons (vs:=[_]) rfl rfl rfl (.skip (.skip .h1)) .nil))))<|QU (vs:=[_,_,_]) rfl rfl rfl J8 rfl .here .h3 wU<|QHz<|QY ?_
 exact QS ((⟨⟨some ⟨b5,0,none⟩,1,1⟩,[[120]],⟨some ⟨b10,0,none⟩,1,1⟩,[vP b9 [yK [49] b7 [0,p]]],⟨some ⟨b14,0,none⟩,1,1⟩,[(s,s)]⟩:X5)) I (.JX (c:=[_,_,_]) I J8 .here .nil) (rfl) λF h9=>⟨⟨Qx.of h9.1.1.1.1.2 I,Qx.of h9.1.2 I,λe he=>by rw[List.mem_singleton.1 he];exact⟨Qx.of h9.1.1.2 I,λt ht=>by rw[List.mem_singleton.1 ht];exact WG (k:=[0,p]) h9.1.1.1.2⟩,Qx.of h9.2 I,rfl,rfl,rfl⟩,⟨(by show 1<=1000000;decide),aa _,λs hs=>by rw[List.mem_singleton.1 hs];decide,(by show 1<=1000000;decide),λe he=>by rw[List.mem_singleton.1 he];exact⟨rfl,λt ht=>by rw[List.mem_singleton.1 ht];exact⟨(by show 1<=1000000;decide),(by show 2<=1000000;decide)⟩,(by show 1<=1000000;decide)⟩,(by show 1<=1000000;decide),λs2 hs2=>by rw[List.mem_singleton.1 hs2];exact⟨hs,hs⟩⟩,rfl,rfl,rfl⟩
theorem GW(hF:Fits F w):QV prog 48 [] w F (λ(c:X5)=>c.v) (λc F=>PZ F c [[120],[118]] [[([49],[0,0,1])],[([45,49],[0,1,0])]] [([49],[49]),([48],[48])]):=by
 refine QV.intro (G:=λF=>True) func48 rfl wy rfl rfl hF w8<|QI7<|Qc xD λb0=>QHz<|QI7<|Qb rfl (Q4 Ku) Dq z_9 rfl rfl λb1=>Qb rfl (Q4 JC) JO SP rfl rfl λb2=>QA (Q2 rfl RH Dv (wP rfl rfl rfl))<|Qb rfl (Q4 Kz) VA Dv rfl rfl λb4=>Qb rfl (Q4 JC) JO SP rfl rfl λb5=>QA (Q2 rfl RH Dv (wP rfl rfl rfl))<|Qb rfl (Q4 Kz) VA Dv rfl rfl λb7=>Qb rfl (Q4 V7) Wh QDS rfl rfl λb8=>QA (Q2 rfl ZZ Xe (wP rfl rfl rfl))<|QA (Q2 rfl ZZ Xe (wP rfl rfl rfl))<|Qb rfl (Q4 J9) Jq Xe rfl rfl λb11=>QA (Q2 rfl cA xD (.cons (vs:=[_]) rfl rfl rfl .h1 (.cons (vs:=[_]) rfl rfl rfl (.skip .h1) (.cons (vs:=[_]) rfl rfl rfl (.skip (.skip .h1)) .nil))))<|QU (vs:=[_,_,_]) rfl rfl rfl J8 rfl .here .h3 wU<|QHz<|QY ?_
 exact QS ((⟨⟨some ⟨b1,0,none⟩,2,2⟩,[[120],[118]],⟨some ⟨b8,0,none⟩,2,2⟩,[vP b4 [yK [49] b2 [0,0,1]],vP b7 [yK [45,49] b5 [0,1,0]]],⟨some ⟨b11,0,none⟩,2,2⟩,[([49],[49]),([48],[48])]⟩:X5)) I (.JX (c:=[_,_,_]) I J8 .here .nil) (rfl) (λF ⟨⟨⟨⟨⟨⟨⟨hT,hs1⟩,hs2⟩,hs4⟩,hs5⟩,hs7⟩,hs8⟩,hs11⟩=>⟨⟨Qx.of hs1 rfl,Qx.of hs8 rfl,λe he=>by
    simp only[aD,av,or_false]at he;rcases he with rfl | rfl
    ·exact⟨Qx.of hs4 rfl,λt ht=>by rw[List.mem_singleton.1 ht];exact WG (k:=[0,0,1]) hs2⟩
    ·exact⟨Qx.of hs7 rfl,λt ht=>by rw[List.mem_singleton.1 ht];exact WG (k:=[0,1,0]) hs5⟩,Qx.of hs11 rfl,rfl,rfl,rfl⟩,⟨(by show 2<=1000000;decide),aa _,λs hs=>by
    simp only[aD,av,or_false]at hs;rcases hs with rfl | rfl<;>decide,(by show 2<=1000000;decide),λe he=>by
    simp only[aD,av,or_false]at he;rcases he with rfl | rfl
    ·exact⟨rfl,λt ht=>by rw[List.mem_singleton.1 ht];exact⟨(by show 1<=1000000;decide),(by show 3<=1000000;decide)⟩,(by show 1<=1000000;decide)⟩
    ·exact⟨rfl,λt ht=>by rw[List.mem_singleton.1 ht];exact⟨(by show 2<=1000000;decide),(by show 3<=1000000;decide)⟩,(by show 1<=1000000;decide)⟩,(by show 2<=1000000;decide),λs hs=>by
    simp only[aD,av,or_false]at hs;rcases hs with rfl | rfl<;>decide⟩,rfl,rfl,rfl⟩)
def dO(Z D T m:Nat)(p:List Tm):Bool:=decide (p.length<=T)&&p.all λu=>decide (JU u.1<=Z)&&decide (Z6 u.2 m<=D)&&decide (u.2.length=m)&&u.2.all λk=>decide (0<=k)&&decide (k<=12)
theorem Lj{p:List Tm}(h:dO Z D T m p=true):gJ Z D T m p:=by
 unfold dO at h;simp only[ai,decide_eq_true_eq,ak]at h;exact⟨h.1,λu hu=>(h.2 u hu).1.1.1,λu hu=>(h.2 u hu).1.1.2,λu hu=>(h.2 u hu).1.2,λu hu k hk=>(h.2 u hu).2 k hk⟩
def yo(h0:0<Q)(hd:(k+1) ∣ Q):Cl Q 1 0 ((((k+1:Nat):Int):Rat)⁻¹):=by
 obtain⟨q,rfl⟩:=hd;have hq:0<q:=bT (by rintro rfl;simp at h0);refine⟨q,?_,?_⟩
 ·rw[bj,aM];have e:aC (q:Int) (((k+1:Nat):Int)*(q:Int))=aC (1*(q:Int)) (((k+1:Nat):Int)*(q:Int)):=by rw[Int.one_mul]
  rw[e,bL O,bU,bc,Rat.intCast_one,Rat.one_mul]
 rw[bj,aX,Nat.pow_zero,ef];exact bH _ O
def Q0:Nat:=2^64*720720
def Dj:0<Q0:=wv
def clB(x:Rat)(b:Nat):Bool:=decide (Q0%x.den=0)&&decide (sz x.num<=b)
def kV{x:Rat}{b:Nat}(h:clB x b=true):Cl Q0 1 b x:=by
 unfold clB at h;simp only[ai,decide_eq_true_eq]at h;exact Cl.of x Dj (aT h.1) h.2
def R1:List (List Tm):=([[([49],[0,1])]]:List Pt).map X9
def R2:List (List Tm):=([[([49],[0,2])]]:List Pt).map X9
def RC:List (List Tm):=([[([49],[0,0,1])],[([45,49],[0,1,0])]]:List Pt).map X9
def QBj:∀k,k<16->Cl Q0 1 0 ((((k+1:Nat):Int):Rat)⁻¹):=λk hk=>yo Dj (aT ((by decide +kernel:∀k,k<16->Q0%(k+1)=0) k hk))
def kc{rs:List (List Tm)}{P:List Tm->Prop}(h:∀p∈rs,P p):∀i,i<rs.length->P (el rs i):=λi hi=>h _ (Qv hi)
def tuB(D T m n:Nat)(rs:List (List Tm)):Bool:=decide (rs.length=m)&&(rs.all (dO 8 D T (m+1))&&(rs.all (λp=>p.all λu=>decide (Q0%u.1.den=0))&&(decide (vL Q0 2400 D T (n+1)<=10000000)&&(decide (Im Q0 2400 D T n<=850000)&&(decide (ql 8 D T (Im Q0 2400 D T n)<=900000)&&decide (8+D*(Im Q0 2400 D T n+1)+1<=10000000))))))
def QE2:2400+sz (Q0:Int)<=800000:=wv
theorem tuK{rs:List (List Tm)}(hb:0<=b/\b<=64)(hn:n<=14)(hm:m<=900)(h:tuB D T m n rs=true):jo Q0 8 D T m n b rs:=by
 unfold tuB at h;simp only[ai,decide_eq_true_eq,ak]at h;obtain⟨h1,h2,h3,k1,k2,k3,k4⟩:=h;exact⟨Dj,hb,Nat.dvd_trans (Nat.pow_dvd_pow 2 (show b.toNat<=64 by omega)) (Nat.dvd_mul_right _ _),λk hk=>QBj k O,kc λp hp=>Lj (h2 p hp),kc λp hp u hu=>aT (h3 p hp u hu),h1,hm,wu,k1,k2,QE2,k3,k4⟩
def uF(b:Nat)(x:Rat×Rat):Bool:=clB x.1 b&&clB x.2 b
def OK{x:Rat×Rat}{b c:Nat}(hc:b<=c)(h:uF b x=true):YQ Q0 1 c x:=by
 unfold uF at h;rw[ai]at h;exact⟨(kV h.1).mono Dj (aa _) hc,(kV h.2).mono Dj (aa _) hc⟩
def QDX(m:Nat)(x:List (Rat×Rat)):Bool:=decide (x.length=m)&&(x.all (uF 100)&&x.all λa=>decide (a.1<=a.2))
def Tl(h:QDX m x=true):XOk Q0 D T m n x:=by
 unfold QDX at h;simp only[ai,decide_eq_true_eq,ak]at h;refine⟨h.1,λi hi=>h.2.2 _ (Qv hi),λa ha=>OK ?_ (h.2.1 a ha)⟩;unfold jW;omega
def tmB(t:Rat):Bool:=clB t 100&&decide (JU t<=100)
def H8{t:Rat}(h:tmB t=true):TmC Q0 t:=by
 unfold tmB at h;rw[ai,decide_eq_true_eq]at h;exact⟨(kV h.1).mono Dj (aa _) wu,af h.2 wu⟩
def jo.QGL{rs:List (List Tm)}(h:jo Q Z D T m n b rs){t:J3}{y:List J3}(ht:YQ Q 1 2400 t)(hl:y.length=m)(hy:∀a∈y,YQ Q 1 2400 a):SB rs t y (n+1):=(h.ty ht hl hy).ok (wk h.n1)
def QEq(m:Nat)(y:List (Rat×Rat)):Bool:=decide (y.length=m)&&y.all λa=>uF 100 a&&(decide (JU a.1<=100)&&decide (JU a.2<=100))
def Di{y:List (Rat×Rat)}(h:QEq m y=true):y.length=m/\(∀a∈y,YQ Q0 1 2400 a)/\∀a∈y,XN a 100:=by
 unfold QEq at h;simp only[ai,decide_eq_true_eq,ak]at h;exact⟨h.1,λa ha=>OK wu (h.2 a ha).1,λa ha=>(h.2 a ha).2⟩
def QAk(k:Nat)(l:List (Rat×Rat)):Bool:=l.all λa=>decide (JU a.1<=k)&&decide (JU a.2<=k)
def LL{l:List (Rat×Rat)}(h:QAk k l=true):∀a∈l,XN a k:=λa ha=>by
 unfold QAk at h;have:=List.all_eq_true.1 h a ha;rw[ai,decide_eq_true_eq,decide_eq_true_eq]at this;exact this
def e_c:By [[120],[118]] [[([49],[0,0,1])],[([45,49],[0,1,0])]] [([49],[49]),([48],[48])]=0:=wv
def v_1:Jb R1 (Q8 ([48],[48])) (lV [([49],[50])]) 2=[[(1,2),(1,2),(1/2,1)]]:=wv
def v_2:Yq R1 (Qo [48]) (Qo [49,47,50]) (lV [([49],[49])]) 2=some [(1,9/4)]:=wv
def v_3:U7 (Z4 R1 (Qo [48]) (Qo [49,47,50]) (lV [([49],[49])]) (lV [([49],[50])])) (lV [([49],[50])])=true:=wv
def v_4:Xy R1 (Qo [48]) (Qo [49,47,50]) (lV [([49],[49])]) (lV [([49],[50])]) 1=[(13/8,7/4)]:=wv
def v_5:KP R1 (Qo [48]) (Qo [49,47,50]) (lV [([49],[49])]) 1 2=some ([(1,9/4)],[(3/2,2)]):=wv
def v_6:Yq R2 (Qo [48]) (Qo [50]) (lV [([49],[49])]) 4=none:=wv
def v_7:Gj R2 (Q8 ([48],[48])::lV [([45,51],[50])])=[9]:=wv
def v_8:Ha RC (Q8 ([48],[48])::lV [([45,51],[50]),([48],[57])]) 2 2=1:=wv
def T0:List OQ:=(Gf RC 2 10 ((0:Int):Rat) ([([49],[49]),([48],[48])].map Q8) ([[49,47,50],[49]].map Qo)).getD []
def v_9:Gf RC 2 10 ((0:Int):Rat) ([([49],[49]),([48],[48])].map Q8) ([[49,47,50],[49]].map Qo)=some T0:=by
 have h:(Gf RC 2 10 ((0:Int):Rat) ([([49],[49]),([48],[48])].map Q8) ([[49,47,50],[49]].map Qo)).isSome=true:=wv;unfold T0;cases e:Gf RC 2 10 ((0:Int):Rat) ([([49],[49]),([48],[48])].map Q8) ([[49,47,50],[49]].map Qo)with
 |none=>rw[e]at h;cases h
 |some t=>rfl
def QGH:T0.length=2/\T0.any LK=false:=wv
def xN(hb:0<=b/\b<=64):jo Q0 8 2 2 1 1 b R1:=tuK hb wu wu wv
def QDc(hb:0<=b/\b<=64):jo Q0 8 2 2 1 1 b R2:=tuK hb wu wu wv
def QGM(hb:0<=b/\b<=64):jo Q0 8 2 2 2 2 b RC:=tuK hb wu wu wv
def s_1:seR 0 (Jb R1 (Q8 ([48],[48])) (lV [([49],[50])]) 2)=(0,[[(1,2),(1,2),(1/2,1)]]):=by rw[v_1];decide +kernel
def s_2:O9 0 (Yq R1 (Qo [48]) (Qo [49,47,50]) (lV [([49],[49])]) 2)=(0,[(1,9/4)]):=by rw[v_2];decide +kernel
def s_4:O9 0 (some (Xy R1 (Qo [48]) (Qo [49,47,50]) (lV [([49],[49])]) (lV [([49],[50])]) 1))=(0,[(13/8,7/4)]):=by rw[v_4];decide +kernel
def s_5:vW 0 (KP R1 (Qo [48]) (Qo [49,47,50]) (lV [([49],[49])]) 1 2) [49,47,50]=(([49,47,50],[(1,9/4)],[(3/2,2)]),0):=by rw[v_5];decide +kernel
def s_6:O9 0 (Yq R2 (Qo [48]) (Qo [50]) (lV [([49],[49])]) 4)=(25,[]):=by rw[v_6];rfl
def s_7:nuR 0 (Gj R2 (Q8 ([48],[48])::lV [([45,51],[50])]))=(0,[9]):=by rw[v_7];decide +kernel
def s_8:lpR 0 (Ha RC (Q8 ([48],[48])::lV [([45,51],[50]),([48],[57])]) 2 2)=(0,[49]):=by rw[v_8];decide +kernel
def s_9:tuR 0 (some T0)=(0,T0):=by rw[H5,QGH.2];rfl
section
variable{w:World}{F:Gs}{y:X5}{r rz:Sr}(hF:Fits F w)(hGl:JE F)
include hF hGl
theorem IP(hy:PZ F y [[120]] [[([49],[0,1])]] [([49],[49])])(hx:KO F r [([49],[50])])(hc:GZ r [([49],[50])]):
  QV prog 16 [y.v,.agg #[tx [48],tx [48]],r.v,.int .i64 2] w F (λ(c:Sr×List Sr)=>.tuple #[c.1.v,.int .i64 0]) (λc F=>I2 F c [[(1,2),(1,2),(1/2,1)]]):=by
 have hb:=Di (m:=1) (y:=lV [([49],[50])]) wv;have h:=Ou (t:=([48],[48])) (l:=[([49],[50])]) (o:=2) hF hGl hy.r hy.t ⟨wu,wu⟩ hx hc (λ_=>by
  rw[hy.rs];refine⟨(xN (b:=0) ⟨wu,wu⟩).QGL (OK (b:=100) wu wv) hb.1 hb.2.1,?_⟩;show ∀b∈Jb R1 (Q8 ([48],[48])) (lV [([49],[50])]) 2,∀a∈b,XN a 100000000;rw[v_1];intro b hb a ha;rw[List.mem_singleton.1 hb]at ha;exact(LL (k:=10) wv a ha).mono wu)
 have e:Sv y ([48],[48]) [([49],[50])] 2=0:=by unfold Sv;rw[hy.e,hy.nn];decide +kernel
 have e1:seR (Sv y ([48],[48]) [([49],[50])] 2) (Jb y.rs (Q8 ([48],[48])) (lV [([49],[50])]) (bD 2))=(0,[[(1,2),(1,2),(1/2,1)]]):=by rw[e,hy.rs];exact s_1
 rw[e1]at h;exact h
theorem ki(hy:PZ F y [[120]] [[([49],[0,1])]] [([49],[49])])(hx:KO F r [([49],[49])])(hc:GZ r [([49],[49])]):
  QV prog 44 [y.v,tx [48],r.v,tx [49,47,50],.int .i64 2] w F (λ(c:Sr)=>.tuple #[c.v,.int .i64 0]) (λc F=>Wf F c [(1,9/4)]):=by
 have h:=Aq (y:=y) (a:=[48]) (b:=[49,47,50]) (l:=[([49],[49])]) (bits:=2) hF hGl hy.r hy.t hx hc wu wu (λ_=>by
  rw[hy.rs];exact(Nq (xN (b:=2) ⟨wu,wu⟩) (x:=lV [([49],[49])]) (Tl wv) (H8 (t:=Qo [48]) wv) (H8 (t:=Qo [49,47,50]) wv) wv).1.tr)
 have e:MM y [48] [([49],[49])] [49,47,50] 2=0:=by unfold MM Yg;rw[hy.e,hy.nn];decide +kernel
 have e1:O9 (MM y [48] [([49],[49])] [49,47,50] 2) (Yq y.rs (Qo [48]) (Qo [49,47,50]) (lV [([49],[49])]) 2)=(0,[(1,9/4)]):=by rw[e,hy.rs];exact s_2
 rw[e1]at h;exact h
theorem ko(hy:PZ F y [[120]] [[([49],[0,1])]] [([49],[49])])(hx:KO F r [([49],[49])])(hc:GZ r [([49],[49])])(hz:KO F rz [([49],[50])])(hcz:GZ rz [([49],[50])]):
  Qg prog 19 [y.v,tx [48],r.v,tx [49,47,50],rz.v] w F (.tuple #[.bool true,.int .i64 0]):=by
 have hb:=Di (m:=1) (y:=lV [([49],[49])]) wv;have hbz:=Di (m:=1) (y:=lV [([49],[50])]) wv;have mv:MvC 8 2 2 1 100 R1 (Qo [48]) (Qo [49,47,50]):=⟨(xN (b:=0) ⟨wu,wu⟩).po,rfl,wv,wv⟩;have h:=CN (y:=y) (a:=[48]) (b:=[49,47,50]) (l:=[([49],[49])]) (lw:=[([49],[50])]) hF hGl hy.r hy.t hx hc wu wu hz hcz (λ_=>by
  rw[hy.rs];exact⟨SH mv hb.1 hbz.1 hb.2.2 hbz.2.2 wu wu wu wu wu wu wu,λv hv=>(FD mv hb.1 hbz.1 hb.2.2 hbz.2.2 wu v hv).mono wu⟩)
 have e:jb y [48] [([49],[49])] [49,47,50] [([49],[50])]=0:=by unfold jb Yg;rw[hy.e,hy.nn];decide +kernel
 have e1:U7 (Z4 y.rs (Qo [48]) (Qo [49,47,50]) (lV [([49],[49])]) (lV [([49],[50])])) (lV [([49],[50])])=true:=by rw[hy.rs];exact v_3
 rw[e,e1]at h;exact h
theorem QAF(hy:PZ F y [[120]] [[([49],[0,1])]] [([49],[49])])(hx:KO F r [([49],[49])])(hc:GZ r [([49],[49])])(hz:KO F rz [([49],[50])])(hcz:GZ rz [([49],[50])]):
  QV prog 18 [y.v,tx [48],r.v,tx [49,47,50],rz.v,.int .i64 1] w F (λ(c:Sr)=>.tuple #[c.v,.int .i64 0]) (λc F=>Wf F c [(13/8,7/4)]):=by
 have hb:=Di (m:=1) (y:=lV [([49],[49])]) wv;have hbz:=Di (m:=1) (y:=lV [([49],[50])]) wv;have tu:=xN (b:=0) ⟨wu,wu⟩;have t1:=H8 (t:=Qo [48]) wv;have t2:=H8 (t:=Qo [49,47,50]) wv;have h:=Io (y:=y) (a:=[48]) (b:=[49,47,50]) (l:=[([49],[49])]) (lw:=[([49],[50])]) (o:=1) hF hGl hy.r hy.t hx hc wu wu hz hcz (λ_=>by
  rw[hy.rs];have h1:=Il (n:=1) (tu.ty (t:=(Qo [48],Qo [48])) (.pt t1.cl) hb.1 hb.2.1) (tu.ty (t:=(Qo [48],Qo [49,47,50])) ⟨t1.cl,t2.cl⟩ hbz.1 hbz.2.1) (by rw[bS];exact t2.cl.add Dj t1.cl.neg) wu tu.n1 (wk tu.n2) (wk tu.n3);exact⟨h1.1,λv hv=>(h1.2 v hv).mono wu⟩)
 have e:Ez y [48] [([49],[49])] [49,47,50] [([49],[50])] 1=0:=by unfold Ez Yg;rw[hy.e,hy.nn];decide +kernel
 have e1:O9 (Ez y [48] [([49],[49])] [49,47,50] [([49],[50])] 1) (some (Xy y.rs (Qo [48]) (Qo [49,47,50]) (lV [([49],[49])]) (lV [([49],[50])]) (bD 1)))=(0,[(13/8,7/4)]):=by rw[e,hy.rs];exact s_4
 rw[e1]at h;exact h
theorem kg(hy:PZ F y [[120]] [[([49],[0,1])]] [([49],[49])])(hx:KO F r [([49],[49])])(hc:GZ r [([49],[49])]):
  QV prog 45 [y.v,tx [48],r.v,tx [49,47,50],.int .i64 1,.int .i64 2] w F (λ(d:Sr×Sr)=>.tuple #[.agg #[tx [49,47,50],d.1.v,d.2.v],.int .i64 0]) (λd F=>Wf F d.1 [(1,9/4)]/\Wf F d.2 [(3/2,2)]):=by
 have h:=gj (y:=y) (a:=[48]) (b:=[49,47,50]) (l:=[([49],[49])]) (o:=1) (bits:=2) hF hGl hy.r hy.t hx hc wu wu (λ_=>by
  rw[hy.rs];exact(Nq (xN (b:=2) ⟨wu,wu⟩) (x:=lV [([49],[49])]) (Tl wv) (H8 (t:=Qo [48]) wv) (H8 (t:=Qo [49,47,50]) wv) wv).1)
 have e:ME y [48] [([49],[49])] [49,47,50] 1 2=0:=by unfold ME Yg;rw[hy.e,hy.nn];decide +kernel
 have e1:vW (ME y [48] [([49],[49])] [49,47,50] 1 2) (KP y.rs (Qo [48]) (Qo [49,47,50]) (lV [([49],[49])]) (bD 1) 2) [49,47,50]=(([49,47,50],[(1,9/4)],[(3/2,2)]),0):=by rw[e,hy.rs];exact s_5
 rw[e1]at h;exact h
theorem kh(hy:PZ F y [[120]] [[([49],[0,2])]] [([49],[49])])(hx:KO F r [([49],[49])])(hc:GZ r [([49],[49])]):
  QV prog 44 [y.v,tx [48],r.v,tx [50],.int .i64 4] w F (λ(c:Sr)=>.tuple #[c.v,.int .i64 25]) (λc F=>Wf F c []):=by
 have h:=Aq (y:=y) (a:=[48]) (b:=[50]) (l:=[([49],[49])]) (bits:=4) hF hGl hy.r hy.t hx hc wu wu (λ_=>by
  rw[hy.rs];exact(Nq (QDc (b:=4) ⟨wu,wu⟩) (x:=lV [([49],[49])]) (Tl wv) (H8 (t:=Qo [48]) wv) (H8 (t:=Qo [50]) wv) wv).1.tr)
 have e:MM y [48] [([49],[49])] [50] 4=0:=by unfold MM Yg;rw[hy.e,hy.nn];decide +kernel
 have e1:O9 (MM y [48] [([49],[49])] [50] 4) (Yq y.rs (Qo [48]) (Qo [50]) (lV [([49],[49])]) 4)=(25,[]):=by rw[e,hy.rs];exact s_6
 rw[e1]at h;exact h
theorem QAG(hy:PZ F y [[120]] [[([49],[0,2])]] [([49],[49])])(hx:KO F r [([45,51],[50])])(hc:GZ r [([45,51],[50])]):
  QV prog 46 [y.v,.agg #[tx [48],tx [48]],r.v] w F (λ(c:Sr)=>.tuple #[c.v,.int .i64 0]) (λc F=>NxR F c [9]):=by
 have hb:=Di (m:=2) (y:=Q8 ([48],[48])::lV [([45,51],[50])]) wv;have tu:=QDc (b:=0) ⟨wu,wu⟩;have h:=xi (y:=y) (t:=([48],[48])) (l:=[([45,51],[50])]) hF hGl hy.r hy.t ⟨wu,wu⟩ hx hc (λ_=>by
  rw[hy.rs];exact⟨λi hi=>Ea (S:=100) (tu.po i hi) hb.1 wu hb.2.2 wu wu wu wu,λi hi=>(GP (S:=100) (tu.po i hi) hb.1 hb.2.2).mono wu,by
   show ∀x∈Gj R2 _,_;rw[v_7];decide +kernel⟩)
 have e:BE y ([48],[48]) [([45,51],[50])]=0:=by unfold BE;rw[hy.e,hy.nn];decide +kernel
 have e1:nuR (BE y ([48],[48]) [([45,51],[50])]) (Gj y.rs (Q8 ([48],[48])::lV [([45,51],[50])]))=(0,[9]):=by rw[e,hy.rs];exact s_7
 rw[e1]at h;exact h
theorem QAH(hy:PZ F y [[120],[118]] [[([49],[0,0,1])],[([45,49],[0,1,0])]] [([49],[49]),([48],[48])])(hx:KO F r [([45,51],[50]),([48],[57])])(hc:GZ r [([45,51],[50]),([48],[57])]):
  Qg prog 47 [y.v,.agg #[tx [48],tx [48]],r.v] w F (.tuple #[tx [49],.int .i64 0]):=by
 have hb:=Di (m:=3) (y:=Q8 ([48],[48])::lV [([45,51],[50]),([48],[57])]) wv;have hpo:∀p∈RC,∀v,v<2->gJ 8 2 2 3 (Xv (Yz (v+1) p)):=λp hp v hv=>Lj ((by decide +kernel:∀p∈RC,∀v,v<2->dO 8 2 2 3 (Xv (Yz (v+1) p))=true) p hp v hv);have h:=FJ (y:=y) (t:=([48],[48])) (l:=[([45,51],[50]),([48],[57])]) hF hGl hy.r hy.t ⟨wu,wu⟩ hx hc (λ_=>by
  rw[hy.rs];show QE5 RC (Q8 ([48],[48])::lV [([45,51],[50]),([48],[57])]) 2;exact⟨by
   show ∀p∈RC,∀t∈p,((∀x∈t.2,0<=x/\x<=1000000)/\t.2.length<=1000)/\2<t.2.length;decide +kernel,wv,wv,wv,wv,λp hp v hv=>Ea (S:=100) (hpo p hp v hv) hb.1 wu hb.2.2 wu wu wu wu,λp hp v hv=>(GP (S:=100) (hpo p hp v hv) hb.1 hb.2.2).mono wu,wv,wv,wv⟩)
 have e:BE y ([48],[48]) [([45,51],[50]),([48],[57])]=0:=by unfold BE;rw[hy.e,hy.nn];decide +kernel
 have e1:lpR (BE y ([48],[48]) [([45,51],[50]),([48],[57])]) (Ha y.rs (Q8 ([48],[48])::lV [([45,51],[50]),([48],[57])]) ([([45,51],[50]),([48],[57])]:List (List UInt8×List UInt8)).length y.rs.length)=(0,[49]):=by rw[e,hy.rs];exact s_8
 rw[e1]at h;exact h
theorem QAE{q:Option Addr}{c:Nat}(hy:PZ F y [[120],[118]] [[([49],[0,0,1])],[([45,49],[0,1,0])]] [([49],[49]),([48],[48])])(hR:Qx F q 2 1 ([[49,47,50],[49]].map tx)):
  QV prog 25 [y.v,.slice q 2 c,.int .i64 2,.int .i64 10] w F (λ(c:Sr×List WW)=>.tuple #[c.1.v,.int .i64 0]) (λc F=>IQ F c T0):=by
 have h:=QAU (y:=y) (es:=[[49,47,50],[49]]) (o:=2) (b:=10) (ce:=c) hF hGl hy.r hy.t hR rfl (.inr wu) (λ_=>by
  rw[hy.rs,hy.vs];exact Oa (QGM (b:=10) ⟨wu,wu⟩) _ _ _ (Tl wv) (H8 wv) ⟨⟨H8 (t:=Qo [49,47,50]) wv,wv⟩,⟨H8 (t:=Qo [49]) wv,wv⟩,trivial⟩)
 have e:tuE y [[49,47,50],[49]] 2 10=0:=by unfold tuE;rw[hy.e];decide +kernel
 have e2:Gf y.rs (bD 2) 10 ((0:Int):Rat) y.vs (([[49,47,50],[49]]:List (List UInt8)).map Qo)=some T0:=by rw[hy.rs,hy.vs];exact v_9
 have e3:=s_9;revert e2 e3;generalize T0=T;intro e2 e3;rw[e,e2,e3]at h;exact h
end
abbrev TbD:=List UInt8×List (List UInt8×List UInt8)×List (List UInt8×List UInt8)
def yY(ds:List TbD)(i:Nat):Rat:=if i=0 then((0:Int):Rat)else Qo (el ds (i-1)).1
def bxD(n:Nat)(ds:List TbD)(i:Nat):Int:=Qu [Na (yY ds i) (el ds i).1,YN n (el ds i).2.1,YN n (el ds i).2.2]
def QAW(n:Nat)(ds:List TbD):Int:=if ds.length>1000 then 5 else Qu ((bR ds.length).map (bxD n ds))
theorem QAV(n:Nat)(tb:List WW):Dz n tb=QAW n (tb.map WW.d):=by
 unfold Dz QAW;rw[ab];split
 ·rfl
 congr 1;refine List.map_congr_left λi hi=>?_;have hi:=List.mem_range.1 hi;have e1:el (tb.map WW.d) i=(el tb i).d:=DQ WW.d hi;have e2:yY (tb.map WW.d) i=Hb tb i:=by
  unfold yY Hb;split
  ·rfl
  rw[DQ WW.d (show i-1<tb.length by omega)];rfl
 unfold vV bxD;rw[e1,e2];rfl
def kpD(x:Rat×Rat)(P:List Tm)(d:TbD):Bool:=!(decide (Yb x.2 (XM ((Qo d.1,Qo d.1)::lV d.2.2) P).1<0)||decide (Yb (XM ((Qo d.1,Qo d.1)::lV d.2.2) P).2 x.1<0))
def QBU(x:Rat×Rat)(P:List Tm)(tb:List WW):tb.all (pL x P)=(tb.map WW.d).all (kpD x P):=by rw[List.all_map];rfl
def u9(l:List Int):Bool:=(l.all λx=>decide (0<=x)&&decide (x<=1000000))&&decide (l.length<=1000)
theorem S3{l:List Int}(h:u9 l=true):PW l:=by
 unfold u9 at h;simp only[ai,decide_eq_true_eq,ak]at h;exact⟨λx hx=>h.1 x hx,h.2⟩
def QBN(p q:List Tm)(N:Nat):Bool:=(p.all λt=>decide (t.2.length=N)&&u9 t.2)&&((q.all λt=>decide (t.2.length=N)&&u9 t.2)&&((p.all λs=>q.all λt=>u9 (Wa s.2 t.2))&&(decide (p.length<=10000)&&(decide (q.length<=10000)&&(decide (KD p<=20000000)&&(decide (KD q<=20000000)&&decide (KD (Zs p q)<=40000000)))))))
def QBL{p q:List Tm}{N:Nat}(h:QBN p q N=true):k7 p q N:=by
 unfold QBN at h;simp only[ai,decide_eq_true_eq,ak]at h;obtain⟨h1,h2,h3,h4,h5,h6,h7,h8⟩:=h;exact⟨λt ht=>(h1 t ht).1,λt ht=>(h2 t ht).1,h4,h5,λt ht=>S3 (h1 t ht).2,λt ht=>S3 (h2 t ht).2,λs hs t ht=>S3 (h3 s hs t ht),h6,h7,h8⟩
def QB4(p q:List Tm):Bool:=(p.all λt=>u9 t.2)&&((q.all λt=>u9 t.2)&&(decide (p.length<=400000000)&&(decide (q.length<=400000000)&&decide (KD (p++q)<=40000000))))
def QB3{p q:List Tm}(h:QB4 p q=true):vJ p q:=by
 unfold QB4 at h;simp only[ai,decide_eq_true_eq,ak]at h;obtain⟨h1,h2,h3,h4,h5⟩:=h;exact⟨λt ht=>S3 (h1 t ht),λt ht=>S3 (h2 t ht),h3,h4,h5⟩
def PK:Pt:=[([49],[0,2,0]),([49],[0,0,2])]
theorem QEv:Ck RC (X9 PK) 3 where
 n:=rfl
 n1:=wu
 lp:=wu
 pw:=λt ht=>⟨S3 ((by decide +kernel:∀t∈X9 PK,u9 t.2=true) t ht),(by decide +kernel:∀t∈X9 PK,t.2.length=3) t ht⟩
 sp:=wv
 der:=λv hv=>(by decide +kernel:∀v,v<3->KD (Yz v (X9 PK))<=40000000) v (by have:RC.length=2:=rfl;omega)
 mul:=λk hk=>QBL ((by decide +kernel:∀k,k<2->QBN (Xv (Yz (k+1) (X9 PK))) (el RC k) 3=true) k hk)
 add:=λk hk=>QB3 ((by decide +kernel:∀k,k<2->QB4 (Uo RC (X9 PK) k) (Xv (Zs (Xv (Yz (k+1) (X9 PK))) (el RC k)))=true) k hk)
def QER:Uo RC (X9 PK) RC.length=[]:=wv
def QEQ:QAW 2 (Tp T0)=0:=wv
def QES:(Tp T0).all (kpD (XM ((((0:Int):Rat),((0:Int):Rat))::([([49],[49]),([48],[48])]:List (List UInt8×List UInt8)).map Q8) (X9 PK)) (X9 PK))=true:=wv
def CM:gJ 8 2 2 3 (X9 PK):=Lj wv
def dB(d:TbD):Bool:=decide (d.1.length<=1000)&&(decide (d.2.1.length=2)&&(decide (d.2.2.length=2)&&((d.2.1.all λs=>decide (s.1.length<=1000)&&decide (s.2.length<=1000))&&((d.2.2.all λs=>decide (s.1.length<=1000)&&decide (s.2.length<=1000))&&QAk 2000 ((Qo d.1,Qo d.1)::lV d.2.2)))))
def QGu:∀d∈Tp T0,dB d=true:=wv
def ye:(Tp T0).length=2:=wv
def CZ{b:WW}(h:dB b.d=true):b.e.length<=1000/\b.wl.length=2/\b.ll.length=2/\(∀s∈b.wl,s.1.length<=1000/\s.2.length<=1000)/\(∀s∈b.ll,s.1.length<=1000/\s.2.length<=1000)/\∀x∈(Qo b.e,Qo b.e)::lV b.ll,XN x 2000:=by
 unfold dB at h;simp only[ai,decide_eq_true_eq,ak]at h;obtain⟨h1,h2,h3,h4,h5,h6⟩:=h;exact⟨h1,h2,h3,h4,h5,LL h6⟩
theorem kj{a:SD}{c:Sr×List WW}(hF:Fits F w)(hGl:JE F)(hy:PZ F y [[120],[118]] [[([49],[0,0,1])],[([45,49],[0,1,0])]] [([49],[49]),([48],[48])])(hR:Qx F a.1.q a.1.n 2 (a.2.flatMap DM))(hA:VT F a.2)(hta:Uq a)(hp:YG a.2=PK)(hx:IQ F c T0):
  Qg prog 49 [y.v,a.1.v,c.1.v] w F (.tuple #[.bool true,.int .i64 0]):=by
 have hd:=hx.d;have hlen:c.2.length=2:=by have:=congrArg aV hd;rwa [ab,ye]at this
 have hn:=hx.a.len;have hb:∀b∈c.2,dB b.d=true:=λb hb=>QGu _ (by rw[<-hd];exact aK hb);have hc:QB5 c.1 c.2:=⟨O,.inr λb hm=>by
  have h1:=CZ (hb b hm);have h2:=hx.a.bx b hm;have h3:=h2.1.len;have h4:=h2.2.len;exact⟨O,⟨O,λs hs=>wk<|h1.2.2.2.1 s hs⟩,⟨O,λs hs=>wk<|h1.2.2.2.2.1 s hs⟩⟩⟩
 have e:NX y PK c.2=0:=by
  unfold NX;have hn2:y.nm.n=2:=hy.nn;rw[hy.e,hn2,QAV,hd,e_c,QEQ];decide +kernel
 have hvs:=hy.vs;have hI:pK y PK=true:=by unfold pK;rw[hy.rs];exact decide_eq_true QER
 have hX:yZ y PK=XM ((((0:Int):Rat),((0:Int):Rat))::([([49],[49]),([48],[48])]:List (List UInt8×List UInt8)).map Q8) (X9 PK):=by unfold yZ;rw[hvs]
 have h:=pM (y:=y) (a:=a) (r:=c.1) (tb:=c.2) hF hGl hy.r hy.t hR hA hta hx.a hc (λ_=>by
  rw[hp];have hs0:∀x∈(((0:Int):Rat),((0:Int):Rat))::y.vs,XN x 100:=by rw[hvs];exact LL wv
  have hl0:((((0:Int):Rat),((0:Int):Rat))::y.vs).length=3:=by rw[hvs];rfl
  have hlb:∀b∈c.2,((Qo b.e,Qo b.e)::lV b.ll).length=3:=λb hm=>by rw[aE,Xc,(CZ (hb b hm)).2.2.1]
  exact⟨by rw[hy.rs,hy.nn];exact QEv,Ea (S:=100) CM hl0 wu hs0 wu wu wu wu,(GP (S:=100) CM hl0 hs0).mono wu,λb hm=>Ea (S:=2000) CM (hlb b hm) wu (CZ (hb b hm)).2.2.2.2.2 wu wu wu wu,λb hm=>(GP (S:=2000) CM (hlb b hm) (CZ (hb b hm)).2.2.2.2.2).mono wu⟩)
 rw[hp,ya e hI,QBU,hd,hX,QES]at h;exact h
def ZR{b:Nat}{T:TypeId}(h:F b=some ((l.flatMap Pc).toArray,T)):KO F ⟨some ⟨b,0,none⟩,l.length,l.length⟩ l:=⟨Qx.of h (MW (f:=Pc) KZ l),rfl⟩
def QEp(n:Nat)(l:List (List UInt8×List UInt8)):Bool:=decide (n<=1000000)&&l.all λs=>decide (s.1.length<=1000000)&&decide (s.2.length<=1000000)
def VE{q:Option Addr}{c:Nat}(h:QEp n l=true):GZ ⟨q,n,c⟩ l:=by
 unfold QEp at h;simp only[ai,decide_eq_true_eq,ak]at h;exact⟨h.1,λs hs=>h.2 s hs⟩
def PZ.st{nl:List (List UInt8)}{sl:List (List UInt8×List UInt8)}(h:PZ F y nl rl sl):KO F y.st sl:=⟨by rw[<-h.s];exact h.r.st,by rw[<-h.s];exact h.r.P3⟩
def PZ.vM{nl:List (List UInt8)}{sl:List (List UInt8×List UInt8)}(h:PZ F y nl rl sl):GZ y.st sl:=⟨h.t.sn,by rw[<-h.s];exact h.t.st⟩
theorem YB{la lb:List (List UInt8×List UInt8)}(hF:Fits F w)(ha:KO F ra la)(hb:KO F rb lb)(hn:ra.n<=1000000)(h:la=lb):Qg prog 35 [ra.v,rb.v] w F (.bool true):=by
 have h1:=C5 hF ha hb hn
 rwa [decide_eq_true h]at h1
theorem Sw{la lb:List (List UInt8)}(hF:Fits F w)(ha:Qx F ra.q ra.n 1 (la.map tx))(hb:Qx F rb.q rb.n 1 (lb.map tx))(hal:la.length=ra.n)(hbl:lb.length=rb.n)(hn:ra.n<=1000000)(h:la=lb):Qg prog 50 [ra.v,rb.v] w F (.bool true):=by
 have h1:=LW hF ha hb hal hbl hn
 rwa [decide_eq_true h]at h1
def Wf.n1{c:Sr}{v:List (Rat×Rat)}(h:Wf F c v)(hv:v.length<=1000000):c.n<=1000000:=by rw[h.2.1];exact hv
theorem uJ(hF:Fits F w)(hGl:JE F):Qg prog 11 [] w F (.bool true):=by
 refine QV.intro (G:=λF=>JE F) func11 rfl wy rfl rfl hF (λF' hF'=>hGl.le hF')<|QI7<|wQ rfl<|QI7<|QI rfl (λ_ _ f k=>Au (s:=[49]) f (by show 1<=1000000;decide)) λc22=>Qc xD λb1=>QU (vs:=[_,_,_]) I I I J8 I .here .h3 wU<|QHz<|QG<|Kr (r:=[0,1,2,3,4,5,6,7,8,9]) QIM mixed wm rfl<|Jl 0 wm rfl rfl<|QK (wI I J8 .here)<|JB<|Jl 2 wm rfl rfl<|QK (Q2 I ZZ Xe (wP I I I))<|JB ?_
 refine NR 1 3 wm wm rfl rfl rfl rfl rfl rfl ?_ ?_
 ·refine QP I (λ_ _ f k=>VU f) (λ_=>JB<|Xa 3 wm wm rfl rfl rfl ?_);refine Qp I (Q4 J9) Jq Xe I I (λb27=>?_) (λw h=>h.imp tC tA);refine JB<|Xa 4 wm wm rfl rfl rfl<|QP rfl (λ_ _ f k=>IP (y:=c22) (r:=⟨some ⟨b27,0,none⟩,1,1⟩) f k.1.1.1 k.1.1.2 (ZR (l:=[([49],[50])]) k.2) (VE wv)) λc28=>YU _ (λ_ _ f h=>ax h.2.QAh h.2.len) λhnn=>?_
  obtain⟨n28,l28⟩:=hnn;have n28:c28.1.n=1:=n28;rw[n28]at l28;refine JB<|Jl 5 wm rfl rfl<|QK (QD I)<|JB<|Jl 6 wm rfl rfl<|QK (QX I I)<|JB<|Jl 7 wm rfl rfl<|QK (QX I I)<|JB<|Jl 8 wm rfl rfl<|QK (QF I)<|JB<|Jl 9 wm rfl rfl<|QK (QF I)<|JB<|Yk<|QC<|QI7<|QA (wI I J8 .here)<|QA (QH I YL JZ)<|QA (Qf I JZ .here (.skip (.skip .h1)))<|QI I (λw F hF ⟨⟨⟨⟨hGl,h22⟩,_⟩,hs27⟩,h28⟩=>ki (y:=c22) (r:=c22.st) hF hGl h22 h22.st h22.vM) λc35=>QH0 I ?_
  refine QJK 8 I<|QA (wI I J8 .here)<|QA (QH I YL JZ)<|QA (Qf I JZ .here (.skip (.skip .h1)))<|QA (Q2 I ZZ Xe (wP I I I))<|Qb I (Q4 J9) Jq Xe I I λb43=>QI I (λw F hF ⟨⟨⟨⟨⟨⟨hGl,h22⟩,_⟩,hs27⟩,h28⟩,h35⟩,hs43⟩=>ko (y:=c22) (r:=c22.st) (rz:=⟨some ⟨b43,0,none⟩,1,1⟩) hF hGl h22 h22.st h22.vM (ZR (l:=[([49],[50])]) hs43) (VE wv)) λ_=>QJK 9 I<|QA (wI I J8 .here)<|QA (QH I YL JZ) ?_
  refine QA (Qf I JZ .here (.skip (.skip .h1)))<|QA (Q2 I ZZ Xe (wP I I I))<|Qb I (Q4 J9) Jq Xe I I λb52=>QI I (λw F hF ⟨⟨⟨⟨⟨⟨⟨⟨hGl,h22⟩,_⟩,hs27⟩,h28⟩,h35⟩,hs43⟩,_⟩,hs52⟩=>QAF (y:=c22) (r:=c22.st) (rz:=⟨some ⟨b52,0,none⟩,1,1⟩) hF hGl h22 h22.st h22.vM (ZR (l:=[([49],[50])]) hs52) (VE wv)) λc53=>QJK 9 I<|QA (wI I J8 .here)<|QA (QH I YL JZ)<|QA (Qf I JZ .here (.skip (.skip .h1)))<|QI I (λw F hF ⟨⟨⟨⟨⟨⟨⟨⟨⟨hGl,h22⟩,_⟩,hs27⟩,h28⟩,h35⟩,hs43⟩,_⟩,hs52⟩,h53⟩=>kg (y:=c22) (r:=c22.st) hF hGl h22 h22.st h22.vM) λc60=>wB 3 I<|Qc Du λb10=>QU (vs:=[_,_,_]) I I I YO I .here .h3 wU<|QJK 3 I ?_
  refine QG<|JH QIM mixed wm<|QP I (λ_ _ f k=>Au (s:=[49]) f (by show 1<=1000000;decide)) λc64=>QK (QH I YL JZ)<|QK (Qf I JZ .u1 (.skip (.skip .h1)))<|QP I (λ_ _ f k=>kh (y:=c64) (r:=c22.st) f k.1.1.1.1.1.1.1.1.1.1.1 k.2 k.1.1.1.1.1.1.1.1.1.1.2.st k.1.1.1.1.1.1.1.1.1.1.2.vM) λc67=>QK (QD I)<|QK (QX I I)<|QK (QX I I)<|QK (QF I)<|QK (QF I)<|Q7<|QC<|QI7<|QI I (λ_ _ f k=>Au (s:=[49]) f (by show 1<=1000000;decide)) λc71=>QI I (λ_ _ f k=>VU f) λ_=>QA (Q2 I ZZ Xe (wP I I I))<|Qb I (Q4 J9) Jq Xe I I λb74=>QI I (λ_ _ f k=>QAG (y:=c71) (r:=⟨some ⟨b74,0,none⟩,1,1⟩) f k.1.1.1.1.1.1.1.1.1.1.1.1.1.1.1 k.1.1.2 (ZR (l:=[([45,51],[50])]) k.2) (VE wv)) λc75=>wB 5 I ?_
  refine QHz<|QI7<|QI rfl (λ_ _ f k=>GW f) λc79=>QI rfl (λ_ _ f k=>VU f) λ_=>QA (Q2 rfl ZZ Xe (wP rfl rfl rfl))<|QA (Q2 rfl ZZ Xe (wP rfl rfl rfl))<|Qb rfl (Q4 J9) Jq Xe rfl rfl λb83=>QI rfl (λ_ _ f k=>QAH (y:=c79) (r:=⟨some ⟨b83,0,none⟩,2,2⟩) f k.1.1.1.1.1.1.1.1.1.1.1.1.1.1.1.1.1.1.1 k.1.1.2 (ZR (l:=[([45,51],[50]),([48],[57])]) k.2) (VE wv)) λ_=>QH0 rfl<|QA (QX rfl rfl)<|QA (QX rfl rfl)<|QH1 rfl<|wQ rfl<|QI7<|QI rfl (λ_ _ f k=>GW f) λc88=>Qb rfl (Q4 KE) JP Cn rfl rfl λb89=>QI rfl (λ_ _ f k=>QAE (y:=c88) (q:=some ⟨b89,0,none⟩) (c:=2) f k.1.1.1.1.1.1.1.1.1.1.1.1.1.1.1.1.1.1.1.1.1.1 k.1.2 (Qx.of (n:=2) (sz:=1) (cs:=[[49,47,50],[49]].map tx) k.2 rfl)) λc90=>JM _ (λ_ _ f h=>ax h.2.a.len h.2.d) λhnn=>?_
  obtain⟨l90,d90⟩:=hnn;have n90:c90.1.n=2:=by have:=congrArg aV d90;rw[ab,ye]at this;omega
  refine QJK 9 I<|QI I (λ_ _ f k=>GW f) λc94=>Qb I (Q4 JC) JO SP I I λb95=>QA (Q2 I RH Dv (wP I I I))<|Qb I (Q4 JC) JO SP I I λb97=>QA (Q2 I RH Dv (wP I I I))<|Qb I (Q4 Kz) VA Dv I I λb99=>QH0 I<|QI I (λ_ _ f h=>kj (y:=c94) (a:=(vP b99 [yK [49] b95 [0,2,0],yK [49] b97 [0,0,2]])) (c:=c90) f h.1.1.1.1.1.1.1.1.1.1.1.1.1.1.1.1.1.1.1.1.1.1.1.1.1.1.1 h.1.1.1.2 (CG (ts:=[yK [49] b95 [0,2,0],yK [49] b97 [0,0,2]]) h.2) (QEs (WG (k:=[0,2,0]) h.1.1.2) (QEt (WG (k:=[0,0,2]) h.1.2))) (uh PK I wu wu) rfl h.1.1.1.1.2) λ_=>QJK 8 I ?_
  refine wA 4 I<|QA (Qw I I O)<|QH0 I<|QA (Qw I I O)<|QH0 I<|QA (Qw I I O)<|QH0 I<|QA (Qw I I O)<|QH0 I<|QA (Qw I I O)<|QH0 I<|QA (Qw I I O)<|QH0 I<|QA (Qw I I O)<|QH0 I<|QA (Qw I I O)<|QA (QT (v:=.bool false) rfl rfl rfl)<|wB 4 I<|QA (QT (v:=.bool false) rfl rfl rfl) ?_
  refine wB 5 I<|QA (XB I)<|wB 5 I<|QA (XB I)<|wB 5 I<|QA (Qh I EA)<|QM I I ?_
  rw[n90];refine QA (QT (v:=.bool false) rfl rfl rfl)<|wB 5 I<|QA (QT (v:=.bool false) rfl rfl (QEJ _))<|wB 5 I<|Qb I (Q4 KE) JP Cn I I λb145=>QM I I<|QI I (λ_ _ f k=>Sw (la:=[(9:Rat)].map Js) (lb:=[[57]]) (rb:=⟨some ⟨b145,0,none⟩,1,1⟩) f k.1.1.1.1.1.1.1.1.1.1.1.1.1.2.1 (Qx.of (n:=1) (sz:=1) (cs:=[[57]].map tx) k.2 I) k.1.1.1.1.1.1.1.1.1.1.1.1.1.2.2.1.symm I (by rw[k.1.1.1.1.1.1.1.1.1.1.1.1.1.2.2.1];decide) wv) λ_=>QM I I<|QA (XB I)<|QJK 3 I<|Yv I<|QJL 4 I ?_
  refine wA 2 I<|QA (Qh I DB) ?_
  rw[n28];refine QA (QT (v:=.bool false) rfl rfl rfl)<|wB 4 I<|QA (Q3 (n:=c28.1.n) (0) (λF h9=>h9.1.1.1.1.1.1.1.1.1.1.1.1.1.1.1.1.1.1.1.1.1.1.1.1.1.1.2.row) rfl wM DB JZ O)<|QM I I<|QA (Q5 (n:=c28.1.n) ((0)*1) (λF h9=>h9.1.1.1.1.1.1.1.1.1.1.1.1.1.1.1.1.1.1.1.1.1.1.1.1.1.1.2.row) O rfl JZ (XL (f:=Sr.v) (l:=c28.2) O))<|QM I I<|QA (Q2 I ZZ Xe (wP I I I))<|QM I I<|QA (Q2 I ZZ Xe (wP I I I))<|QM I I<|QA (Q2 I ZZ Xe (wP I I I))<|QM I I<|Qb I (Q4 J9) Jq Xe I I λb159=>QM I I<|QI I (λ_ _ f k=>YB (ra:=el c28.2 0) (rb:=⟨some ⟨b159,0,none⟩,3,3⟩) f (k.1.1.1.1.1.1.1.1.1.1.1.1.1.1.1.1.1.1.1.1.1.1.1.1.1.1.1.2.el 0 wu).U4 (ZR (l:=[([49],[50]),([49],[50]),([49,47,50],[49])]) k.2) ((k.1.1.1.1.1.1.1.1.1.1.1.1.1.1.1.1.1.1.1.1.1.1.1.1.1.1.1.2.el 0 wu).n1 wu) wv) λ_=>QM I I<|QA (XB I)<|wB 5 I ?_
  refine QA (Q2 I ZZ Xe (wP I I I))<|QM I I<|Qb I (Q4 J9) Jq Xe I I λb166=>QM I I<|QI I (λ_ _ f k=>YB (ra:=c35) (rb:=⟨some ⟨b166,0,none⟩,1,1⟩) f k.1.1.1.1.1.1.1.1.1.1.1.1.1.1.1.1.1.1.1.1.1.1.1.1.1.1.1.1.2.U4 (ZR (l:=[([49],[57,47,52])]) k.2) (k.1.1.1.1.1.1.1.1.1.1.1.1.1.1.1.1.1.1.1.1.1.1.1.1.1.1.1.1.2.n1 wu) wv) λ_=>QM I I<|QA (XB I)<|QJK 3 I<|Yv I<|QJL 5 I<|QA (Q2 I ZZ Xe (wP I I I))<|Qb I (Q4 J9) Jq Xe I I λb172=>QI I (λ_ _ f k=>YB (ra:=c53) (rb:=⟨some ⟨b172,0,none⟩,1,1⟩) f k.1.1.1.1.1.1.1.1.1.1.1.1.1.1.1.1.1.1.1.1.1.1.1.1.1.1.2.U4 (ZR (l:=[([49,51,47,56],[55,47,52])]) k.2) (k.1.1.1.1.1.1.1.1.1.1.1.1.1.1.1.1.1.1.1.1.1.1.1.1.1.1.2.n1 wu) wv) λ_=>wB 2 I<|QA (QH I Rj JP)<|QM I I<|QA (Qf I JP .here .h1)<|QM I I ?_
  refine QA (K6 I I)<|wB 3 I<|QA (QH I L7 JZ)<|QM I I<|QA (Qf I JZ .here (.skip .h1))<|wB 3 I<|QI I (λ_ _ f k=>YB (ra:=c60.1) (rb:=c35) f k.1.1.1.1.1.1.1.1.1.1.1.1.1.1.1.1.1.1.1.1.1.1.1.1.1.1.2.1.U4 k.1.1.1.1.1.1.1.1.1.1.1.1.1.1.1.1.1.1.1.1.1.1.1.1.1.1.1.1.1.1.1.2.U4 (k.1.1.1.1.1.1.1.1.1.1.1.1.1.1.1.1.1.1.1.1.1.1.1.1.1.1.2.1.n1 wu) rfl) λ_=>wB 3 I<|QA (QH I Uf JZ)<|QM I I<|QA (Qf I JZ .here (.skip (.skip .h1)))<|QM I I<|QA (Q2 I ZZ Xe (wP I I I))<|QM I I<|Qb I (Q4 J9) Jq Xe I I λb189=>QM I I<|QI I (λ_ _ f k=>YB (ra:=c60.2) (rb:=⟨some ⟨b189,0,none⟩,1,1⟩) f k.1.1.1.1.1.1.1.1.1.1.1.1.1.1.1.1.1.1.1.1.1.1.1.1.1.1.1.1.2.2.U4 (ZR (l:=[([51,47,50],[50])]) k.2) (k.1.1.1.1.1.1.1.1.1.1.1.1.1.1.1.1.1.1.1.1.1.1.1.1.1.1.1.1.2.2.n1 wu) wv) λ_=>wB 2 I ?_
  refine QHz<|QY ?_
  exact QJO I I (rfl) w8
 refine Qp I (Q4 J9) Jq Xe I I (λb27=>?_) (λw h=>h.imp tC w9);refine JB<|Xa 1 wm wm rfl rfl rfl<|QP rfl (λ_ _ f k=>VU f) λ_=>JB<|Xa 4 wm wm rfl rfl rfl<|QP rfl (λ_ _ f k=>IP (y:=c22) (r:=⟨some ⟨b27,0,none⟩,1,1⟩) f k.1.1.1 k.1.1.2 (ZR (l:=[([49],[50])]) k.1.2) (VE wv)) λc28=>YU _ (λ_ _ f h=>ax h.2.QAh h.2.len) λhnn=>?_
 obtain⟨n28,l28⟩:=hnn;have n28:c28.1.n=1:=n28;rw[n28]at l28;refine JB<|Jl 5 wm rfl rfl<|QK (QD I)<|JB<|Jl 6 wm rfl rfl<|QK (QX I I)<|JB<|Jl 7 wm rfl rfl<|QK (QX I I)<|JB<|Jl 8 wm rfl rfl<|QK (QF I)<|JB<|Jl 9 wm rfl rfl<|QK (QF I)<|JB<|Yk<|QC<|QI7<|QA (wI I J8 .here)<|QA (QH I YL JZ)<|QA (Qf I JZ .here (.skip (.skip .h1)))<|QI I (λw F hF ⟨⟨⟨⟨hGl,h22⟩,hs27⟩,_⟩,h28⟩=>ki (y:=c22) (r:=c22.st) hF hGl h22 h22.st h22.vM) λc35=>QH0 I ?_
 refine QJK 8 I<|QA (wI I J8 .here)<|QA (QH I YL JZ)<|QA (Qf I JZ .here (.skip (.skip .h1)))<|QA (Q2 I ZZ Xe (wP I I I))<|Qb I (Q4 J9) Jq Xe I I λb43=>QI I (λw F hF ⟨⟨⟨⟨⟨⟨hGl,h22⟩,hs27⟩,_⟩,h28⟩,h35⟩,hs43⟩=>ko (y:=c22) (r:=c22.st) (rz:=⟨some ⟨b43,0,none⟩,1,1⟩) hF hGl h22 h22.st h22.vM (ZR (l:=[([49],[50])]) hs43) (VE wv)) λ_=>QJK 9 I<|QA (wI I J8 .here)<|QA (QH I YL JZ) ?_
 refine QA (Qf I JZ .here (.skip (.skip .h1)))<|QA (Q2 I ZZ Xe (wP I I I))<|Qb I (Q4 J9) Jq Xe I I λb52=>QI I (λw F hF ⟨⟨⟨⟨⟨⟨⟨⟨hGl,h22⟩,hs27⟩,_⟩,h28⟩,h35⟩,hs43⟩,_⟩,hs52⟩=>QAF (y:=c22) (r:=c22.st) (rz:=⟨some ⟨b52,0,none⟩,1,1⟩) hF hGl h22 h22.st h22.vM (ZR (l:=[([49],[50])]) hs52) (VE wv)) λc53=>QJK 9 I<|QA (wI I J8 .here)<|QA (QH I YL JZ)<|QA (Qf I JZ .here (.skip (.skip .h1)))<|QI I (λw F hF ⟨⟨⟨⟨⟨⟨⟨⟨⟨hGl,h22⟩,hs27⟩,_⟩,h28⟩,h35⟩,hs43⟩,_⟩,hs52⟩,h53⟩=>kg (y:=c22) (r:=c22.st) hF hGl h22 h22.st h22.vM) λc60=>wB 3 I<|Qc Du λb10=>QU (vs:=[_,_,_]) I I I YO I .here .h3 wU<|QJK 3 I ?_
 refine QG<|JH QIM mixed wm<|QP I (λ_ _ f k=>Au (s:=[49]) f (by show 1<=1000000;decide)) λc64=>QK (QH I YL JZ)<|QK (Qf I JZ .u1 (.skip (.skip .h1)))<|QP I (λ_ _ f k=>kh (y:=c64) (r:=c22.st) f k.1.1.1.1.1.1.1.1.1.1.1 k.2 k.1.1.1.1.1.1.1.1.1.1.2.st k.1.1.1.1.1.1.1.1.1.1.2.vM) λc67=>QK (QD I)<|QK (QX I I)<|QK (QX I I)<|QK (QF I)<|QK (QF I)<|Q7<|QC<|QI7<|QI I (λ_ _ f k=>Au (s:=[49]) f (by show 1<=1000000;decide)) λc71=>QI I (λ_ _ f k=>VU f) λ_=>QA (Q2 I ZZ Xe (wP I I I))<|Qb I (Q4 J9) Jq Xe I I λb74=>QI I (λ_ _ f k=>QAG (y:=c71) (r:=⟨some ⟨b74,0,none⟩,1,1⟩) f k.1.1.1.1.1.1.1.1.1.1.1.1.1.1.1 k.1.1.2 (ZR (l:=[([45,51],[50])]) k.2) (VE wv)) λc75=>wB 5 I ?_
 refine QHz<|QI7<|QI rfl (λ_ _ f k=>GW f) λc79=>QI rfl (λ_ _ f k=>VU f) λ_=>QA (Q2 rfl ZZ Xe (wP rfl rfl rfl))<|QA (Q2 rfl ZZ Xe (wP rfl rfl rfl))<|Qb rfl (Q4 J9) Jq Xe rfl rfl λb83=>QI rfl (λ_ _ f k=>QAH (y:=c79) (r:=⟨some ⟨b83,0,none⟩,2,2⟩) f k.1.1.1.1.1.1.1.1.1.1.1.1.1.1.1.1.1.1.1 k.1.1.2 (ZR (l:=[([45,51],[50]),([48],[57])]) k.2) (VE wv)) λ_=>QH0 rfl<|QA (QX rfl rfl)<|QA (QX rfl rfl)<|QH1 rfl<|wQ rfl<|QI7<|QI rfl (λ_ _ f k=>GW f) λc88=>Qb rfl (Q4 KE) JP Cn rfl rfl λb89=>QI rfl (λ_ _ f k=>QAE (y:=c88) (q:=some ⟨b89,0,none⟩) (c:=2) f k.1.1.1.1.1.1.1.1.1.1.1.1.1.1.1.1.1.1.1.1.1.1 k.1.2 (Qx.of (n:=2) (sz:=1) (cs:=[[49,47,50],[49]].map tx) k.2 rfl)) λc90=>JM _ (λ_ _ f h=>ax h.2.a.len h.2.d) λhnn=>?_
 obtain⟨l90,d90⟩:=hnn;have n90:c90.1.n=2:=by have:=congrArg aV d90;rw[ab,ye]at this;omega
 refine QJK 9 I<|QI I (λ_ _ f k=>GW f) λc94=>Qb I (Q4 JC) JO SP I I λb95=>QA (Q2 I RH Dv (wP I I I))<|Qb I (Q4 JC) JO SP I I λb97=>QA (Q2 I RH Dv (wP I I I))<|Qb I (Q4 Kz) VA Dv I I λb99=>QH0 I<|QI I (λ_ _ f h=>kj (y:=c94) (a:=(vP b99 [yK [49] b95 [0,2,0],yK [49] b97 [0,0,2]])) (c:=c90) f h.1.1.1.1.1.1.1.1.1.1.1.1.1.1.1.1.1.1.1.1.1.1.1.1.1.1.1 h.1.1.1.2 (CG (ts:=[yK [49] b95 [0,2,0],yK [49] b97 [0,0,2]]) h.2) (QEs (WG (k:=[0,2,0]) h.1.1.2) (QEt (WG (k:=[0,0,2]) h.1.2))) (uh PK I wu wu) rfl h.1.1.1.1.2) λ_=>QJK 8 I ?_
 refine wA 4 I<|QA (Qw I I O)<|QH0 I<|QA (Qw I I O)<|QH0 I<|QA (Qw I I O)<|QH0 I<|QA (Qw I I O)<|QH0 I<|QA (Qw I I O)<|QH0 I<|QA (Qw I I O)<|QH0 I<|QA (Qw I I O)<|QH0 I<|QA (Qw I I O)<|QA (QT (v:=.bool false) rfl rfl rfl)<|wB 4 I<|QA (QT (v:=.bool false) rfl rfl rfl) ?_
 refine wB 5 I<|QA (XB I)<|wB 5 I<|QA (XB I)<|wB 5 I<|QA (Qh I EA)<|QM I I ?_
 rw[n90];refine QA (QT (v:=.bool false) rfl rfl rfl)<|wB 5 I<|QA (QT (v:=.bool false) rfl rfl (QEJ _))<|wB 5 I<|Qb I (Q4 KE) JP Cn I I λb145=>QM I I<|QI I (λ_ _ f k=>Sw (la:=[(9:Rat)].map Js) (lb:=[[57]]) (rb:=⟨some ⟨b145,0,none⟩,1,1⟩) f k.1.1.1.1.1.1.1.1.1.1.1.1.1.2.1 (Qx.of (n:=1) (sz:=1) (cs:=[[57]].map tx) k.2 I) k.1.1.1.1.1.1.1.1.1.1.1.1.1.2.2.1.symm I (by rw[k.1.1.1.1.1.1.1.1.1.1.1.1.1.2.2.1];decide) wv) λ_=>QM I I<|QA (XB I)<|QJK 3 I<|Yv I<|QJL 4 I ?_
 refine wA 2 I<|QA (Qh I DB) ?_
 rw[n28];refine QA (QT (v:=.bool false) rfl rfl rfl)<|wB 4 I<|QA (Q3 (n:=c28.1.n) (0) (λF h9=>h9.1.1.1.1.1.1.1.1.1.1.1.1.1.1.1.1.1.1.1.1.1.1.1.1.1.1.2.row) rfl wM DB JZ O)<|QM I I<|QA (Q5 (n:=c28.1.n) ((0)*1) (λF h9=>h9.1.1.1.1.1.1.1.1.1.1.1.1.1.1.1.1.1.1.1.1.1.1.1.1.1.1.2.row) O rfl JZ (XL (f:=Sr.v) (l:=c28.2) O))<|QM I I<|QA (Q2 I ZZ Xe (wP I I I))<|QM I I<|QA (Q2 I ZZ Xe (wP I I I))<|QM I I<|QA (Q2 I ZZ Xe (wP I I I))<|QM I I<|Qb I (Q4 J9) Jq Xe I I λb159=>QM I I<|QI I (λ_ _ f k=>YB (ra:=el c28.2 0) (rb:=⟨some ⟨b159,0,none⟩,3,3⟩) f (k.1.1.1.1.1.1.1.1.1.1.1.1.1.1.1.1.1.1.1.1.1.1.1.1.1.1.1.2.el 0 wu).U4 (ZR (l:=[([49],[50]),([49],[50]),([49,47,50],[49])]) k.2) ((k.1.1.1.1.1.1.1.1.1.1.1.1.1.1.1.1.1.1.1.1.1.1.1.1.1.1.1.2.el 0 wu).n1 wu) wv) λ_=>QM I I<|QA (XB I)<|wB 5 I ?_
 refine QA (Q2 I ZZ Xe (wP I I I))<|QM I I<|Qb I (Q4 J9) Jq Xe I I λb166=>QM I I<|QI I (λ_ _ f k=>YB (ra:=c35) (rb:=⟨some ⟨b166,0,none⟩,1,1⟩) f k.1.1.1.1.1.1.1.1.1.1.1.1.1.1.1.1.1.1.1.1.1.1.1.1.1.1.1.1.2.U4 (ZR (l:=[([49],[57,47,52])]) k.2) (k.1.1.1.1.1.1.1.1.1.1.1.1.1.1.1.1.1.1.1.1.1.1.1.1.1.1.1.1.2.n1 wu) wv) λ_=>QM I I<|QA (XB I)<|QJK 3 I<|Yv I<|QJL 5 I<|QA (Q2 I ZZ Xe (wP I I I))<|Qb I (Q4 J9) Jq Xe I I λb172=>QI I (λ_ _ f k=>YB (ra:=c53) (rb:=⟨some ⟨b172,0,none⟩,1,1⟩) f k.1.1.1.1.1.1.1.1.1.1.1.1.1.1.1.1.1.1.1.1.1.1.1.1.1.1.2.U4 (ZR (l:=[([49,51,47,56],[55,47,52])]) k.2) (k.1.1.1.1.1.1.1.1.1.1.1.1.1.1.1.1.1.1.1.1.1.1.1.1.1.1.2.n1 wu) wv) λ_=>wB 2 I<|QA (QH I Rj JP)<|QM I I<|QA (Qf I JP .here .h1)<|QM I I ?_
 refine QA (K6 I I)<|wB 3 I<|QA (QH I L7 JZ)<|QM I I<|QA (Qf I JZ .here (.skip .h1))<|wB 3 I<|QI I (λ_ _ f k=>YB (ra:=c60.1) (rb:=c35) f k.1.1.1.1.1.1.1.1.1.1.1.1.1.1.1.1.1.1.1.1.1.1.1.1.1.1.2.1.U4 k.1.1.1.1.1.1.1.1.1.1.1.1.1.1.1.1.1.1.1.1.1.1.1.1.1.1.1.1.1.1.1.2.U4 (k.1.1.1.1.1.1.1.1.1.1.1.1.1.1.1.1.1.1.1.1.1.1.1.1.1.1.2.1.n1 wu) rfl) λ_=>wB 3 I<|QA (QH I Uf JZ)<|QM I I<|QA (Qf I JZ .here (.skip (.skip .h1)))<|QM I I<|QA (Q2 I ZZ Xe (wP I I I))<|QM I I<|Qb I (Q4 J9) Jq Xe I I λb189=>QM I I<|QI I (λ_ _ f k=>YB (ra:=c60.2) (rb:=⟨some ⟨b189,0,none⟩,1,1⟩) f k.1.1.1.1.1.1.1.1.1.1.1.1.1.1.1.1.1.1.1.1.1.1.1.1.1.1.1.1.2.2.U4 (ZR (l:=[([51,47,50],[50])]) k.2) (k.1.1.1.1.1.1.1.1.1.1.1.1.1.1.1.1.1.1.1.1.1.1.1.1.1.1.1.1.2.2.n1 wu) wv) λ_=>wB 2 I ?_
 refine QHz<|QY ?_
 exact QJO I I (rfl) w8
end Go.Proofs.YtbpmnjieoncbcaaGreatDoor
