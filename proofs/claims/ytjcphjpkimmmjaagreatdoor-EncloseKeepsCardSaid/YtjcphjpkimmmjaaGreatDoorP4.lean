/- Steps of the proof of the theorem in the last file. -/
import Derived.Test.YtjcphjpkimmmjaaGreatDoorP3
set_option linter.all false
set_option maxHeartbeats 4000000
open Go.Proofs.Tryz
open Nat renaming le_refl → aa,mul_le_mul_right → ae,le_trans → af,mul_le_mul_left → ag,zero_add → ar,add_mul → aA,mul_zero → aF,zero_le → aI,min_le_right → aQ,mul_succ → aS,dvd_of_mod_eq_zero → aT,add_zero → aY,le_add_right → ba,pow_pos → bh,pow_one → bj,not_lt_zero → bp,le_max_left → bw,le_add_left → bz,zero_mul → bD,mul_comm → bF,le_mul_of_pos_left → bG,add_le_add_right → bL,pos_of_ne_zero → bS,mul_le_mul → bW,lt_or_ge → bY,one_mul → ee,mul_add → ei
open List renaming length_map → ab,cons_append → aj,all_eq_true → ak,nil_append → ao,getElem_of_mem → aq,take_length → au,not_mem_nil → av,mem_cons → aD,length_cons → aE,length_range → aG,mem_map_of_mem → aK,length_append → aO,getElem?_toArray → aU,length → aV,getElem_map → aZ,drop_zero → bA,take_eq_take_min → bH,map → bI,take_succ_cons → bM,flatMap_append → bN,drop_succ_cons → bO,range → bQ,map_append → bU,take_zero → bV
open Rat renaming mul_le_mul_of_nonneg_right → ah,le_trans → ay,divInt → aC,intCast_mul → aJ,le_of_lt → aN,floor_intCast → aP,intCast_lt_intCast → aR,floor_monotone → aW,div_def → bc,intCast_neg → bm,le_refl → bJ,divInt_mul_right → bK,sub_eq_add_neg → bR,divInt_eq_div → bT,mul_assoc → bX,mul_one → bZ
open Bool renaming and_eq_true → ai
open And renaming intro → ax
open Int renaming toNat_natCast → aB,natCast_pow → aL,natCast_mul → aM,natAbs_natCast → aX,toNat → bC,pow_pos → bP,neg_mul → ep
open Go.Value renaming bool → aH,int → bB
namespace Go.Proofs.YtjcphjpkimmmjaaGreatDoor
variable{xs:List (Fr×Rat)}{l:List (List UInt8×List UInt8)}{F:Gs}{bs on x:List (Rat×Rat)}{B D L Q S T Z i k m n:Nat}{w:World}{y:Xz}{b:Int}{fr t2:Rat}{es:List (List UInt8)}{α:Type}{vb:List XP}{ra rb:Sr}{rl:List Pt}
open Go.RowKit Ig
def K9(rs:List (List Tm))(bs:List (Rat×Rat)):List Rat:=rs.map λp=>ML (J3 bs p)
def uU(e:Int)(a:List Rat):Int×List Rat:=if e≠0 then(e,[])else(if a.any Jh=true then 4 else 0,if a.any Jh=true then[]else a)
def zS{e:Int}{a:List Rat}(h:e≠0):uU e a=(e,[]):=by unfold uU;rw[if_pos h]
def S9(a:List Rat):uU 0 a=(if a.any Jh=true then 4 else 0,if a.any Jh=true then[]else a):=rfl
def NxR(F:Gs)(c:Sr)(a:List Rat):Prop:=Qy F c.q c.n 1 ((a.map JP).map tx)/\c.n=a.length/\c.n<=c.cap
def NxR.nil(F:Gs):NxR F ⟨none,0,0⟩ []:=⟨Qy.nil F none 1,rfl,aa _⟩
def QA2{l:List Rat}(h:xs.map (·.2)=l):xR xs=l.map JP:=by rw[<-h];simp[xR]
def uD{l:List Rat}(h:xs.map (·.2)=l):(xs.any λp=>Jh p.2)=l.any Jh:=by rw[<-h,List.any_map,Function.comp_def]
structure SdJ(vs:List Rat) where
 i:Nat
 v:Value
 ob:List (Nat×Obj)
 xs:List (Fr×Rat)
 le:i<=vs.length
 hr:Q8 135 4 v i (Fj xs) ob
 hx:xs.map (·.2)=vs.take i
def SdJ.len{vs:List Rat}(s:SdJ vs):s.xs.length=s.i:=by
 have h:=congrArg aV s.hx;have h2:=s.le;rw[ab,List.length_take]at h;omega
def qR(a:List (Fr×Rat))(c:Fr)(x:Rat):Fj (a++[(c,x)])=Fj a++Kj c:=by unfold Fj;rw[bN];simp
def Rz.snoc{c:Fr}{x:Rat}(h:Rz F xs)(k:JR F c x):Rz F (xs++[(c,x)]):=λp hp=>by
 rcases List.mem_append.1 hp with hp | hp
 ·exact h p hp
 rw[List.mem_singleton.1 hp];exact k
def SdJ.next{vs:List Rat}(s:SdJ vs)(h:s.i<vs.length){v:Value}{ob:List (Nat×Obj)}(c:Fr)(x:Rat)(hr:Q8 135 4 v (s.i+1) (Fj s.xs++Kj c) ob)(hx:x=el vs s.i):SdJ vs:=⟨s.i+1,v,ob,s.xs++[(c,x)],h,by rw[qR];exact hr,by rw[bU,s.hx,XE h,hx];rfl⟩
def pS(c:Fr):∀v∈Kj c,v.oneCell'=true:=λv a=>by
 simp only[Kj,aD,av,or_false]at a;rcases a with rfl | rfl | rfl | rfl<;>rfl
def jX{rs:List (List Tm)}(h:i<rs.length):el (K9 rs bs) i=ML (J3 bs (el rs i)):=by rw[Jb (by simp[K9];exact h),Jb h];simp[K9]
def DD(rs:List (List Tm))(bs:List (Rat×Rat)):(K9 rs bs).length=rs.length:=by simp[K9]
structure QFr(rs:List (List Tm))(bs:List (Rat×Rat)):Prop where
 ev:∀i,i<rs.length->OL bs (el rs i)
 sz:∀i,i<rs.length->Xf (J3 bs (el rs i)) 100000000
 mg:∀x∈K9 rs bs,JW x<=100000000
theorem Oa{t:List UInt8×List UInt8}{r:Sr}(hF:Fits F w)(u:JE F)(hy:X4 F y)(ht:GJ y)(N:t.1.length<=1000000/\t.2.length<=1000000)(hx:Ks F r l)(hc:BS r l)(s:V3 y t l=0->QFr y.rs (JB t::lV l)):
  QU prog 41 [y.v,.agg #[tx t.1,tx t.2],r.v] w F (λ(c:Sr)=>.tuple #[c.v,.int .i64 (uU (V3 y t l) (K9 y.rs (JB t::lV l))).1]) (λc F=>NxR F c (uU (V3 y t l) (K9 y.rs (JB t::lV l))).2):=by
 refine QU.intro (G:=λF=>JE F/\X4 F y/\Ks F r l) func41 rfl tH rfl rfl hF (λF' H=>⟨u.le H,hy.le H,hx.le H⟩)<|wa<|Qp rfl (vs:=[_,_,_]) rfl λb3=>Qp rfl (vs:=[_,_]) rfl λb4=>wX rfl<|wZ rfl<|QG<|wa<|QA (wO I J6 .u1)<|QA (wN I Jd .here)<|wW rfl<|QI rfl (λ_ _ f k=>Ep (y:=y) f k.1 k.2.1 ht N k.2.2 hc) λ_=>wZ rfl<|wb rfl<|QA (QT rfl rfl rfl)<|QE<|QC ?_
 refine QQ I (λb=>?_) λb=>?_
 ·have m:V3 y t l≠0:=bne_iff_ne.1 b;refine wA 8 I ?_;exact Je ((⟨none,0,0⟩:Sr)) I (wU I I) (by rw[zS m]) λF h9=>by rw[zS m];exact NxR.nil F
 have m:V3 y t l=0:=bne_eq_false_iff_eq.1 b;have s:=s m;have Z:y.e=0:=Q9 m _ (.head _);have hts:=Q9 m (Xd t.1 t.2) (.tail _ (.head _));have V:YZ y.nm.n l=0:=Q9 m _ (.tail _ (.tail _ (.head _)));have R:=hy.ok Z;have hn1:=R.n1;have hn0:=R.n0;have z:=R.rn;have hxl:=(XZ V).1;have hrs:y.rs.length=y.nm.n:=by unfold Xz.rs;rw[ab,hy.Ka,z]
 have hsl:(K9 y.rs (JB t::lV l)).length=y.nm.n:=by rw[DD,hrs]
 refine wC 4 I<|wZ rfl<|QG<|wa<|QA (wO I J6 .u1)<|QI rfl (λ_ _ f k=>Zc (y:=y) f k.1.1 k.1.2.1 ht R) λa=>JQ _ (λw F hF ⟨⟨⟨u,hy,hx⟩,_⟩,o⟩=>ax o.Ka (o.pn R.short)) λhnn=>?_
 obtain⟨hn20,Q⟩:=hnn;refine QA (Zd rfl)<|QA (QH rfl Bi YK)<|QA (Zq (c:=#[a.rt.v,a.st.v]) (T':=188) rfl YK (λF h9=>h9.2.Hs) rfl)<|QA (Qg rfl YT)<|wW rfl<|wY<|QV<|JU (ι:=SdJ (K9 y.rs (JB t::lV l))) [(2,_),(4,_),(23,_),(24,_)] (λi=>[(9,i.v),(25,.int .i64 ((i.i:Nat):Int))]) (λi=>(b4,.cells #[tx t.1,tx t.2] 40 (0,0))::i.ob) (λi F=>Rz F i.xs) (λi=>a.rt.n-i.i) (⟨0,.slice none 0 0,[],[],aI _,.nil,rfl⟩) wv wm (tR) (λ_ _ p h=>by cases h) λi=>?_
 simp only[aj,ao];have hi:=i.le;refine wA 6 I ?_;refine QQ I (λb=>?_) λb=>?_
 ·have hlt:i.i<a.rt.n:=tD<|wi b
  have D:i.i<y.rs.length:=O;refine XV _ (λw F hF ⟨⟨⟨⟨u,hy,hx⟩,_⟩,o⟩,hS⟩=>ax (o.at (show i.i<a.rt.n by omega)).2 o.len) (λhpp=>?_);obtain⟨U,hpl⟩:=hpp;refine wC 6 I<|QA (Q3 (n:=a.rt.n) i.i (λF h9=>h9.1.2.row) rfl rfl YT YJ O)<|QA (JA (n:=a.rt.n) ((i.i)*1) (λF h9=>h9.1.2.row) O rfl YJ (XT (f:=λe:WS=>e.1.v) (l:=a.ps) O))<|wD 6 I<|QA (wN I Jd .here)<|QI I (λ_ _ f k=>Rh f k.1.1.1.1 hts N) λc32=>wW I<|QI I (λ_ _ f k=>H5 f k.1.1.1.1.1 k.1.1.1.1.2.2 hc (XZ V).2) λc34=>JQ _ (λ_ _ f k=>k.2.nl) λS=>?_
  rw[Yg]at S;refine QI I (λ_ _ f k=>Dy (pa:=el a.ps i.i) (x:=c32) (t:=JB t) f (k.1.1.1.2.at O).1 k.1.2 k.2 O (by have:=Q _ (Qw (show i.i<a.ps.length by omega));omega) (by rw[U];exact s.ev _ D)) (λc35=>?_);rw[U];refine QI I (λ_ _ f k=>yg f k.2 (s.sz _ D)) (λY=>Qb I (Q5 Xb) QS Jw I I λb37=>?_);refine Z4 (bs1:=[_]) (ob:=i.ob) (n:=i.i) (k:=1) (sz:=4) (news:=(Kj Y)) I I Xb QS Jw I QCL i.hr (Src.row (off:=0) tO (λj q hq=>by rw[ar];rw[aU];exact hq) rfl) O O (pS _) (λv38 ob38 P=>?_);refine wB 2 I<|Qj<|QC<|QB<|QA (Qu I I O)<|wB 2 I ?_
  exact Ql (i.next O Y _ P (jX D).symm) (by show a.rt.n-(i.i+1)<a.rt.n-i.i;omega) wz we λF ⟨⟨⟨⟨⟨⟨⟨⟨⟨u,hy,hx⟩,_⟩,o⟩,hS⟩,h32⟩,h34⟩,h35⟩,h36⟩,hs37⟩=>⟨⟨⟨⟨u,hy,hx⟩,trivial⟩,o⟩,hS.snoc h36⟩
 have E:i.i=(K9 y.rs (JB t::lV l)).length:=by have:=wj b;have:=i.le;omega
 have L:∀p∈i.xs,JW p.2<=100000000:=λp hp=>s.mg _ (by have e:=i.hx;rw[E,au]at e;rw[<-e];exact aK hp);have M:i.xs.map (·.2)=(K9 y.rs (JB t::lV l)):=by have e:=i.hx;rw[E,au]at e;exact e
 have A:=i.len;have C:=uD M;refine Qx ?_
 repeat first|refine QY ?_|refine QO tH ?_
 refine QZ<|wE 4 I ?_
 have hxl:=i.len;obtain⟨⟨rq,rn,rc⟩,hv2,z,hrc,B⟩:=Q8.fix (w0:=w) (F0:=F) (bs1:=[_]) (G:=_) i.hr;dsimp only at z hrc B;subst z;refine Zj B ?_;rw[hv2];dsimp only[Sr.v];refine wW I<|QI I (λw F g k=>y3 (f:=93) (c1:=[]) (c2:=[]) (p:=λe:Fr×Rat=>Jh e.2) (G0:=λF=>JE F/\Rz F i.xs) g (λF F' T h=>⟨h.1.le T,h.2.le T⟩) ⟨k.1.1.1.1.1,k.1.2⟩ k.2 A O λe he w F g hG=>EX g hG.1 (hG.2 e he) (L e he)) λ_=>QE<|QC ?_
 refine QQ I (λb=>?_) λb=>?_
 ·have K:(K9 y.rs (JB t::lV l)).any Jh=true:=by rw[<-C];exact b
  refine wA 7 I ?_;exact Je ((⟨none,0,0⟩:Sr)) I (wU I I) (by rw[m,S9,if_pos K]) λF h9=>by rw[m,S9,if_pos K,if_pos K];exact NxR.nil F
 have K:(K9 y.rs (JB t::lV l)).any Jh=false:=by rw[<-C];exact b
 refine wC 5 I<|QI I (λ_ _ f k=>Lh f k.1.1.1.1.1.1 k.1.2 k.1.1.2 A O L) λX=>wD 5 I ?_
 exact Je (X) rfl (wU I I) (by rw[m,S9,K]<;>rfl) λF h9=>by rw[m,S9,K];show NxR F X (K9 y.rs (JB t::lV l));exact⟨by rw[<-QA2 M];exact h9.2.1,by rw[h9.2.2.1];exact E,h9.2.2.2⟩
def Mz(rs:List (List Tm))(bs:List (Rat×Rat))(i:Nat):Nat->Rat
 |0=>((0:Int):Rat)
 |v+1=>Mz rs bs i v+ML (J3 bs (XO (ZT (v+1) (el rs i))))
def VK(rs:List (List Tm))(bs:List (Rat×Rat))(n:Nat):Nat->Rat
 |0=>((0:Int):Rat)
 |i+1=>E2 (VK rs bs n i) (Mz rs bs i n)
structure QCV(rs:List (List Tm))(bs:List (Rat×Rat))(n:Nat):Prop where
 pw:∀p∈rs,∀t∈p,PW t.2/\n<t.2.length
 lp:∀p∈rs,p.length<=100000
 sp:∀p∈rs,∀t∈p,JW t.1<=20000000
 der:∀p∈rs,∀v,v<n->Yr (ZT (v+1) p)<=40000000
 ln:∀p∈rs,∀v,v<n->(XO (ZT (v+1) p)).length<=100000
 ev:∀p∈rs,∀v,v<n->OL bs (XO (ZT (v+1) p))
 sz:∀p∈rs,∀v,v<n->Xf (J3 bs (XO (ZT (v+1) p))) 100000000
 mg:∀p∈rs,∀v,v<n->JW (ML (J3 bs (XO (ZT (v+1) p))))<=100000000
 sm:∀i,i<rs.length->∀k,k<=n->JW (Mz rs bs i k)<=100000000
 mo:∀i,i<=rs.length->JW (VK rs bs n i)<=100000000
structure FrJ(n:Nat) where
 i:Nat
 c:Fr
 le:i<=n
def cS(e:Int)(x:Rat):Int×List UInt8:=if e≠0 then(e,[])else(if Jh x=true then 4 else 0,if Jh x=true then[]else JP x)
def QC8{e:Int}{x:Rat}(h:e≠0):cS e x=(e,[]):=by unfold cS;rw[if_pos h]
def zu(x:Rat):cS 0 x=(if Jh x=true then 4 else 0,if Jh x=true then[]else JP x):=rfl
theorem SD{t:List UInt8×List UInt8}{r:Sr}(hF:Fits F w)(z:JE F)(hy:X4 F y)(ht:GJ y)(K:t.1.length<=1000000/\t.2.length<=1000000)(hx:Ks F r l)(hc:BS r l)(a:V3 y t l=0->QCV y.rs (JB t::lV l) l.length):
  Qf prog 42 [y.v,.agg #[tx t.1,tx t.2],r.v] w F (.tuple #[tx (cS (V3 y t l) (VK y.rs (JB t::lV l) l.length y.rs.length)).2,.int .i64 (cS (V3 y t l) (VK y.rs (JB t::lV l) l.length y.rs.length)).1]):=by
 have hxr:=hx.len;refine QU.intro (G:=λF=>JE F/\X4 F y/\Ks F r l) func42 rfl tH rfl rfl hF (λF' E=>⟨z.le E,hy.le E,hx.le E⟩)<|wa<|Qp rfl (vs:=[_,_,_]) rfl λb3=>Qp rfl (vs:=[_,_]) rfl λb4=>wX rfl<|wZ rfl<|QG<|wa<|QA (wO I J6 .u1)<|QA (wN I Jd .here)<|wW rfl<|QI rfl (λ_ _ f k=>Ep (y:=y) f k.1 k.2.1 ht K k.2.2 hc) λ_=>wZ rfl<|wb rfl<|QA (QT rfl rfl rfl)<|QE<|QC ?_
 refine QQ I (λb=>?_) λb=>?_
 ·have TL:V3 y t l≠0:=bne_iff_ne.1 b;refine wA 8 I ?_;exact Je (()) I (wU I I) (by rw[QC8 TL]) tL
 have TL:V3 y t l=0:=bne_eq_false_iff_eq.1 b;have a:=a TL;have V:y.e=0:=Q9 TL _ (.head _);have X:=Q9 TL (Xd t.1 t.2) (.tail _ (.head _));have R:YZ y.nm.n l=0:=Q9 TL _ (.tail _ (.tail _ (.head _)));have L:=hy.ok V;have hn1:=L.n1;have hn0:=L.n0;have Y:=L.rn;have hxl:=(XZ R).1;have hrs:y.rs.length=y.nm.n:=by unfold Xz.rs;rw[ab,hy.Ka,Y]
 refine wC 4 I<|QI rfl (λ_ _ f k=>TN (n:=0) f tF tF) λc21=>Qc Jw λb9=>QW (vs:=[_,_,_,_]) rfl rfl rfl QS rfl .here .h4 wv<|wD 5 I<|QA (wO I J6 .u2)<|QI rfl (λ_ _ f k=>Zc (y:=y) f k.1.1.1 k.1.1.2.1 ht L) λu=>JQ _ (λw F hF ⟨⟨⟨⟨z,hy,hx⟩,_⟩,B⟩,o⟩=>ax o.Ka (o.pn L.short)) λhnn=>?_
 obtain⟨hn23,hp23⟩:=hnn;refine QA (Zd I)<|QA (QH I Bi YK)<|QA (Zq (c:=#[u.rt.v,u.st.v]) (T':=188) rfl YK (λF h9=>h9.2.Hs) rfl)<|QA (Qg I YT)<|wD 4 I<|JU (ι:=FrJ y.rs.length) [(2,_),(4,_),(9,_),(26,_),(27,_)] (λi=>[(28,.int .i64 ((i.i:Nat):Int))]) (λi=>[(b9,.cells (Kj i.c).toArray 135 (0,0)),(b4,.cells #[tx t.1,tx t.2] 40 (0,0))]) (λi F=>JR F i.c (VK y.rs (JB t::lV l) l.length i.i)) (λi=>y.rs.length-i.i) (⟨0,c21,aI _⟩) wy wk (tS) (λ_ h=>h.1.2) λi=>?_
 simp only[aj,ao];have hi:=i.le;refine wA 6 I ?_;refine QQ I (λb=>?_) λb=>?_
 ·have hlt:i.i<u.rt.n:=tD<|wi b
  have D:i.i<y.rs.length:=O;have m:=Qw D;refine XV _ (λw F hF ⟨⟨⟨⟨⟨z,hy,hx⟩,_⟩,B⟩,o⟩,hS⟩=>ax (o.at (show i.i<u.rt.n by omega)).2 o.len) (λZ=>?_);obtain⟨A,hpl⟩:=Z;refine wC 6 I<|QA (Q3 (n:=u.rt.n) i.i (λF h9=>h9.1.2.row) rfl rfl YT YJ O)<|QA (JA (n:=u.rt.n) ((i.i)*1) (λF h9=>h9.1.2.row) O rfl YJ (XT (f:=λe:WS=>e.1.v) (l:=u.ps) O))<|wD 5 I<|QI I (λ_ _ f k=>TN (n:=0) f tF tF) λc32=>Qc Jw λb12=>QW (vs:=[_,_,_,_]) I I I QS I .here .h4 wv<|wD 6 I<|QA (Qg I XF)<|wB 2 I ?_
  refine QC<|QV<|JU (ι:=FrJ l.length) [(2,_),(4,_),(9,_),(11,_),(12,_),(26,_),(27,_),(28,_),(34,_)] (λg=>[(35,.int .i64 ((g.i:Nat):Int))]) (λg=>[(b12,.cells (Kj g.c).toArray 135 (0,0)),(b9,.cells (Kj i.c).toArray 135 (0,0)),(b4,.cells #[tx t.1,tx t.2] 40 (0,0))]) (λg F=>JR F g.c (Mz y.rs (JB t::lV l) i.i g.i)) (λg=>l.length-g.i) (⟨0,c32,aI _⟩) w9 wk we tO λg=>?_
  simp only[aj,ao];have hi2:=g.le;refine wA 6 I ?_;refine QQ I (λb=>?_) λb=>?_
  ·have j:g.i<l.length:=tD<|wi b
   refine wC 10 I<|Jq 12 we mixed tE tE ?_
   simp only[bM,bV,bO,bA];refine QK (wP I QS .here)<|QK (QD I)<|QK (QD I)<|QK (Qu I I O) ?_
   rw[show(((g.i:Nat):Int)+1)=((g.i+1:Nat):Int)from rfl];refine QR I (λ_ _ f k=>Lf (p:=el u.ps i.i) (v:=g.i+1) f k.1.1.1.1.1.1.1 (k.1.1.1.2.at O).1 (OS (Q:=λt=>PW t.2/\g.i+1<t.2.length) A λt H=>⟨(a.pw _ m t H).1,tD<|(a.pw _ m t H).2⟩) (by have h1:=congrArg aV A;rw[Yb]at h1;have:=a.lp _ m;omega) (OS (Q:=λt=>JW t.1<=20000000) A (a.sp _ m)) (by rw[A];exact a.der _ m _ j)) (λc42=>Yl _ (λ_ _ f h=>ax h.2.eqT (ax h.2.2.2.2.2 h.2.len)) λC=>?_);obtain⟨C,l42,U⟩:=C;rw[A]at C U;have n42:=a.ln _ m _ j;refine QK (wN I Jd .u2)<|QR I (λ_ _ f k=>Rh f k.1.1.1.1.1.1.1.1 X K) λc44=>QK (QD I)<|QR I (λ_ _ f k=>H5 f k.1.1.1.1.1.1.1.1.1 k.1.1.1.1.1.1.1.1.2.2 hc (XZ R).2) λc46=>Yl _ (λ_ _ f k=>k.2.nl) λM=>?_
   rw[Yg]at M;refine QR I (λ_ _ f k=>Dy (pa:=c42) (x:=c44) (t:=JB t) f k.1.1.2.self k.1.2 k.2 O O (by rw[C];exact a.ev _ m _ j)) (λc47=>?_);rw[C];refine QR I (λ_ _ f k=>yg f k.2 (a.sz _ m _ j)) (λc48=>QR I (λ_ _ f k=>De (x:=g.c) (y:=c48) (r:=Mz y.rs (JB t::lV l) i.i g.i) (s:=ML (J3 (JB t::lV l) (XO (ZT (g.i+1) (el y.rs i.i))))) f k.1.1.1.1.1.2 k.2 (a.sm _ D _ O) (a.mg _ m _ j)) λc49=>ZS<|QW (vs:=[_,_,_,_]) I I I QS I .here .h4 wv<|QE<|Qj<|QC<|QB<|QA (Qu I I O)<|wB 2 I ?_);exact Ql (⟨g.i+1,c49,j⟩) (by show l.length-(g.i+1)<l.length-g.i;omega) tA we λF ⟨⟨⟨⟨⟨⟨⟨⟨⟨⟨⟨⟨⟨z,hy,hx⟩,_⟩,B⟩,o⟩,hS⟩,S⟩,hS2⟩,h42⟩,h44⟩,h46⟩,h47⟩,h48⟩,h49⟩=>⟨⟨⟨⟨⟨⟨⟨z,hy,hx⟩,trivial⟩,B⟩,o⟩,hS⟩,S⟩,h49⟩
  have N:g.i=l.length:=by have:=wj b;have:=g.le;omega
  refine Qx ?_
  repeat first|refine QY ?_|refine QO tH ?_
  refine QZ<|QC<|QB<|QA (wP I QS .u1)<|QA (wP I QS .here)<|Qb I (Q5 Xb) QS Jw I I λb53=>QI I (λ_ _ f k=>Xo (x:=i.c) (r:=VK y.rs (JB t::lV l) l.length i.i) (ps:=[(g.c,Mz y.rs (JB t::lV l) i.i g.i)]) (n:=1) f k.1.1.1.2 (Qy.of k.2 I) (KU k.1.2) rfl tF ⟨a.mo _ O,KU (a.sm _ D _ O)⟩) λT=>QW (vs:=[_,_,_,_]) I I I QS I .u1 .h4 wv<|QE<|Qj<|QC<|QB<|QA (Qu I I O)<|wB 2 I ?_
  exact Ql (⟨i.i+1,T,D⟩) (by show y.rs.length-(i.i+1)<y.rs.length-i.i;omega) wz ((.cons _ we)) λF ⟨⟨⟨⟨⟨⟨⟨⟨⟨z,hy,hx⟩,_⟩,B⟩,o⟩,hS⟩,S⟩,hS2⟩,hs53⟩,h54⟩=>⟨⟨⟨⟨⟨z,hy,hx⟩,trivial⟩,B⟩,o⟩,by show JR F T (E2 (VK y.rs (JB t::lV l) l.length i.i) (Mz y.rs (JB t::lV l) i.i l.length));have e:=h54;rw[N]at e;exact e⟩
 have P:i.i=y.rs.length:=by have:=wj b;have:=i.le;omega
 refine Qx ?_
 repeat first|refine QY ?_|refine QO tH ?_
 refine QZ<|wE 4 I<|QA (wP I QS .here)<|QI I (λ_ F f k=>EX f k.1.1.1.1.1 (show JR F i.c (VK y.rs (JB t::lV l) l.length y.rs.length) by have e:=k.2;rw[P]at e;exact e) (a.mo _ (aa _))) λ_=>QE<|QC ?_
 refine QQ I (λb=>?_) λb=>?_
 ·refine wA 7 I ?_;exact Je (()) I (wU I I) (by rw[TL,zu,if_pos b,if_pos b]<;>rfl) tL
 refine wC 4 I<|QA (wP I QS .here)<|QI I (λ_ F f k=>N3 f k.1.1.1.1.1.1 (show JR F i.c (VK y.rs (JB t::lV l) l.length y.rs.length) by have e:=k.1.2;rw[P]at e;exact e) (a.mo _ (aa _))) λ_=>wD 5 I ?_
 exact Je (()) I (wU I I) (by rw[TL,zu,b]<;>rfl) tL
structure Wl where
 e:List UInt8
 w:Sr
 wl:List (List UInt8×List UInt8)
 l:Sr
 ll:List (List UInt8×List UInt8)
variable{tb:List Wl}
instance :Inhabited Wl:=⟨⟨[],default,[],default,[]⟩⟩
def uI(b:Wl):List Value:=[tx b.e,.slice b.w.q b.w.n b.w.cap,.slice b.l.q b.l.n b.l.cap]
def Cb(b:Wl):(uI b).length=3:=rfl
structure IF(F:Gs)(r:Sr)(tb:List Wl):Prop where
 row:Qy F r.q r.n 3 (tb.flatMap uI)
 len:tb.length=r.n
 bx:∀b∈tb,Ks F b.w b.wl/\Ks F b.l b.ll
theorem IF.le{a:Gs}{r:Sr}(h:IF F r tb)(k:Gs.le F a):IF a r tb:=⟨h.row.le k,h.len,λb hb=>⟨(h.bx b hb).1.le k,(h.bx b hb).2.le k⟩⟩
structure QCR(r:Sr)(tb:List Wl):Prop where
 n:r.n<=1000000
 t:r.n>1000\/∀b∈tb,b.e.length<=1000000/\BS b.w b.wl/\BS b.l b.ll
def Hd(tb:List Wl)(i:Nat):Rat:=if i=0 then((0:Int):Rat)else Qz (el tb (i-1)).e
def RU(tb:List Wl)(i:Nat):Hd tb (i+1)=Qz (el tb i).e:=by unfold Hd;rw[if_neg O,Nat.add_sub_cancel]
def k6(n:Nat)(tb:List Wl)(i:Nat):Int:=Qs [Nb (Hd tb i) (el tb i).e,YZ n (el tb i).wl,YZ n (el tb i).ll]
def Dz(n:Nat)(tb:List Wl):Int:=if tb.length>1000 then 5 else Qs ((bQ tb.length).map (k6 n tb))
structure QHx(n:Nat)(tb:List Wl) extends X7 (bQ tb.length) (k6 n tb) where
 c:Fr
 ok:JW (Hd tb i)<=2400
structure QHw(n:Nat)(tb:List Wl):Prop where
 len:tb.length<=1000
 e:∀i,i<tb.length->Jp (el tb i).e=0
 la:∀i,i<tb.length->Wc (Hd tb i) (Qz (el tb i).e)=0
 w:∀i,i<tb.length->YZ n (el tb i).wl=0
 l:∀i,i<tb.length->YZ n (el tb i).ll=0
theorem gA(h:Dz n tb=0):QHw n tb:=by
 unfold Dz at h;by_cases g:tb.length>1000
 ·rw[if_pos g]at h;cases h
 rw[if_neg g]at h;have hz:∀i,i<tb.length->k6 n tb i=0:=λi hi=>Q9 h _ (aK (List.mem_range.2 hi));have h3:=λi hi=>EY (hz i hi);exact⟨O,λi hi=>(G9 (h3 i hi).1).1,λi hi=>(G9 (h3 i hi).1).2,λi hi=>(h3 i hi).2.1,λi hi=>(h3 i hi).2.2⟩
theorem F3{r:Sr}(P:Fits F w)(x:JE F)(hy:X4 F y)(hx:IF F r tb)(hc:QCR r tb):Qf prog 144 [y.v,r.v] w F (.int .i64 (Dz y.nm.n tb)):=by
 have L:=hx.len;have N:=hc.n;refine QU.intro (G:=λF=>JE F/\X4 F y/\IF F r tb) func144 rfl tH rfl rfl P (λF' z=>⟨x.le z,hy.le z,hx.le z⟩)<|wa<|Qp rfl (vs:=[_,_,_]) rfl λb2=>wZ rfl<|QG<|wb rfl<|QA (Qg rfl EC)<|QA (QT rfl rfl rfl)<|QE<|QC ?_
 refine QQ I (λa=>?_) λa=>?_
 ·have h12:=wi a;refine wA 6 I ?_;exact wg I I (congrArg (bB .i64) (by unfold Dz;rw[if_pos O])) tL
 have h12:=wj a;have s:∀b∈tb,b.e.length<=1000000/\BS b.w b.wl/\BS b.l b.ll:=hc.t.resolve_left O;refine wC 4 I<|QI I (λ_ _ f k=>TN (n:=0) f tF tF) λH=>Qc Jw λQ=>QW (vs:=[_,_,_,_]) I I I QS I .here .h4 wv<|wD 6 I<|QA (Qg I EC)<|wD 4 I<|JU (ι:=QHx y.nm.n tb) [(2,_),(5,_),(14,_),(15,_)] (λi=>[(16,.int .i64 ((i.i:Nat):Int))]) (λi=>[(Q,.cells (Kj i.c).toArray 135 (0,0)),(b2,.cells #[.slice y.nm.q y.nm.n y.nm.cap,.slice y.rt.q y.rt.n y.rt.cap,.slice y.st.q y.st.n y.st.cap] 38 (0,0))]) (λi F=>JR F i.c (Hd tb i.i)) (λi=>tb.length-i.i) (⟨X7.start _ _,H,by show JW ((0:Int):Rat)<=2400;decide⟩) wv wk we tO λi=>?_
 simp only[aj,ao];have hi:=i.le;rw[aG]at hi;refine wA 6 I ?_;refine QQ I (λa=>?_) λa=>?_
 ·have g:i.i<tb.length:=tD<|wi a
  have o:=Qw g;refine wC 6 I<|QA (Q3 (n:=r.n) i.i (λF h9=>h9.1.1.2.2.row) rfl rfl EC X8 O)<|QA (JZ (n:=r.n) (vs:=[tx (el tb i.i).e,.slice (el tb i.i).w.q (el tb i.i).w.n (el tb i.i).w.cap,.slice (el tb i.i).l.q (el tb i.i).l.n (el tb i.i).l.cap]) ((i.i)*3) (λF h9=>h9.1.1.2.2.row) O rfl X8 I λj v M=>JN (f:=uI) (l:=tb) Cb O M)<|Qc Wt λT=>QW (vs:=[_,_,_]) I I I X8 I .here .h3 wu<|wD 5 I<|QA (wP I QS .u1)<|QA (QH I Ec JF)<|QA (Qe I JF .here .h1)<|QI I (λ_ _ f k=>Tb f k.1.1.1 k.2 i.ok (s _ o).1) λ_=>wD 6 I ?_
  refine wD 3 I ?_;refine QQ I (λa=>?_) λa=>?_
  ·have m:Nb (Hd tb i.i) (el tb i.i).e≠0:=bne_iff_ne.1 a;refine wA 7 I ?_
   repeat first|refine Q6 ?_|refine Qv ?_
   exact wg I I (congrArg (bB .i64) (by unfold Dz;rw[if_neg O];have h9:=i.toX7.hit (by rw[aG];exact g) (by rw[ZG g];unfold k6;rw[Zf m];exact m);rw[ZG g]at h9;rw[h9];unfold k6;rw[Zf m])) tL
  have m:Nb (Hd tb i.i) (el tb i.i).e=0:=bne_eq_false_iff_eq.1 a;refine wC 4 I<|JG we mixed tE<|QK (wO I J6 .u2)<|QK (QH I Ub J0)<|QK (Qe I J0 .here (.skip .h1))<|QR I (λ_ _ f k=>KD (y:=y) f k.1.1.1.1 k.1.1.1.2.1 (k.1.1.1.2.2.bx _ o).1 (s _ o).2.1) λ_=>QK (wO I J6 .u2)<|QK (QH I N6 J0)<|QK (Qe I J0 .here (.skip (.skip .h1)))<|QR I (λ_ _ f k=>KD (y:=y) f k.1.1.1.1.1 k.1.1.1.1.2.1 (k.1.1.1.1.2.2.bx _ o).2 (s _ o).2.2) λ_=>?_
  refine Qo I (Q5 ZM) YS Ht I I (λR=>?_) (λw h=>h.imp tP λF h=>h.1.1);refine QR I (λ_ _ f k=>YV f (Qy.of (cs:=bI Jo [_,_]) k.2 I) tF) (λ_=>QK (QF I)<|Q7<|wE 7 I ?_);refine QQ I (λa=>?_) λa=>?_
  ·have A:Qs [YZ y.nm.n (el tb i.i).wl,YZ y.nm.n (el tb i.i).ll]≠0:=bne_iff_ne.1 a;have u:k6 y.nm.n tb i.i=Qs [YZ y.nm.n (el tb i.i).wl,YZ y.nm.n (el tb i.i).ll]:=by unfold k6;rw[m,Zn]
   refine wA 7 I ?_
   repeat first|refine Q6 ?_|refine Qv ?_
   exact wg I I (congrArg (bB .i64) (by unfold Dz;rw[if_neg O];have h9:=i.toX7.hit (by rw[aG];exact g) (by rw[ZG g,u];exact A);rw[ZG g]at h9;rw[h9,u])) tL
  have A:Qs [YZ y.nm.n (el tb i.i).wl,YZ y.nm.n (el tb i.i).ll]=0:=bne_eq_false_iff_eq.1 a;have u:k6 y.nm.n tb i.i=0:=by unfold k6;rw[m,Zn];exact A
  refine wC 3 I<|QA (QH I Ec JF)<|QA (Qe I JF .here .h1)<|QI I (λ_ _ f k=>Ki f k.1.1.1.1.1.1.1.1 (XM (G9 m).1).1 (tD<|(s _ o).1)) λB=>QW (vs:=[_,_,_,_]) I I I QS I .u1 .h4 wv<|QE<|Qj<|QC<|QB<|QA (Qu I I O)<|wB 2 I ?_
  exact Ql (⟨i.toX7.next (by rw[aG];exact g) (by rw[ZG g];exact u),B,by show JW (Hd tb (i.i+1))<=2400;rw[RU];exact KO (G9 m).1⟩) (by show tb.length-(i.i+1)<tb.length-i.i;omega) wy ((.cons _ we)) λF ⟨⟨⟨⟨⟨⟨⟨⟨⟨x,hy,hx⟩,E⟩,S⟩,_⟩,_⟩,_⟩,K⟩,_⟩,D⟩=>⟨⟨⟨x,hy,hx⟩,E⟩,by show JR F B (Hd tb (i.i+1));rw[RU];exact D⟩
 have C:tb.length<=i.i:=tD<|wj a
 refine Qx ?_
 repeat first|refine QY ?_|refine QO tH ?_
 refine QZ<|wE 7 I ?_
 exact wg I I (congrArg (bB .i64) (by unfold Dz;rw[if_neg O];exact i.toX7.stop (by rw[aG];exact C))) tL
def Cd{P:Program}{l:List Oper}{Q:Exit->Act->World->Prop}{c:World->Prop}{A r:List Nat}{N:Nat}{m:Sl}{w0:World}{F0:Gs}{bs:List (Nat×Obj)}{G:Gs->Prop}(p:Prop)(hp:∀w F,Fits F w->G F->p)(k:p->KT P l Q c A r N m w0 F0 bs G):KT P l Q c A r N m w0 F0 bs G:=λu β a w hu ha hx b=>k (b.pure hp) u β a w hu ha hx b
def pB(x:Rat×Rat)(P:List Tm)(b:Wl):Bool:=!(decide (Yw x.2 (J3 ((Qz b.e,Qz b.e)::lV b.ll) P).1<0)||decide (Yw (J3 ((Qz b.e,Qz b.e)::lV b.ll) P).2 x.1<0))
def NY(y:Xz)(p:Pt)(tb:List Wl):Int:=Qs [y.e,Hc p (y.nm.n:Int),Dz y.nm.n tb]
def yB(y:Xz)(p:Pt):Rat×Rat:=J3 ((((0:Int):Rat),((0:Int):Rat))::y.vs) (Xq p)
def pA(y:Xz)(p:Pt):Bool:=decide (Ul y.rs (Xq p) y.rs.length=[])
def cY(y:Xz)(p:Pt)(tb:List Wl):Bool×Int:=if NY y p tb≠0 then(false,NY y p tb)else if pA y p=true then(tb.all (pB (yB y p) (Xq p)),0)else(false,7)
def cX{p:Pt}{e:Int}(h:e≠0)(he:NY y p tb=e):cY y p tb=(false,e):=by unfold cY;rw[he,if_pos h]
def QFG{p:Pt}(he:NY y p tb=0)(h:pA y p=false):cY y p tb=(false,7):=by unfold cY;rw[he,if_neg tF,h];rfl
def yC{p:Pt}(he:NY y p tb=0)(h:pA y p=true):cY y p tb=(tb.all (pB (yB y p) (Xq p)),0):=by unfold cY;rw[he,if_neg tF,if_pos h]
structure QH4(y:Xz)(p:Pt)(tb:List Wl):Prop where
 al:Cf y.rs (Xq p) (y.nm.n+1)
 e0:OL ((((0:Int):Rat),((0:Int):Rat))::y.vs) (Xq p)
 z0:Xf (yB y p) 100000000
 ev:∀b∈tb,OL ((Qz b.e,Qz b.e)::lV b.ll) (Xq p)
 zs:∀b∈tb,Xf (J3 ((Qz b.e,Qz b.e)::lV b.ll) (Xq p)) 100000000
def xx{p:Pt}{n:Nat}(a:n<=24)(h:Hc p (n:Int)=0):Zh p (n:Int)=0:=by
 unfold Hc at h;rwa [if_pos ((Bs _).2 O)]at h
theorem pC{a:NQ}{r:Sr}(hF:Fits F w)(P:JE F)(hy:X4 F y)(ht:GJ y)(hR:Qy F a.1.q a.1.n 2 (a.2.flatMap VM))(hA:Yy F a.2)(C:Up a)(hx:IF F r tb)(hc:QCR r tb)(g:NY y (ZX a.2) tb=0->QH4 y (ZX a.2) tb):Qf prog 51 [y.v,a.1.v,r.v] w F (.tuple #[.bool (cY y (ZX a.2) tb).1,.int .i64 (cY y (ZX a.2) tb).2]):=by
 have hxr:=hx.len;have hcn:=hc.n;refine QU.intro (G:=λF=>JE F/\X4 F y/\Qy F a.1.q a.1.n 2 (a.2.flatMap VM)/\Yy F a.2/\IF F r tb) func51 rfl tH rfl rfl hF (λF' E=>⟨P.le E,hy.le E,hR.le E,hA.le E,hx.le E⟩)<|wa<|Qp rfl (vs:=[_,_,_]) rfl λb3=>wX rfl<|wZ rfl<|QG<|wa<|QA (wO I J6 .here)<|QI rfl (λ_ _ f k=>Zs (y:=y) f k.1 k.2.1 ht) λ_=>wZ rfl<|wb rfl<|QA (QT rfl rfl rfl)<|QE<|QC ?_
 refine QQ I (λc=>?_) λc=>?_
 ·have z:y.e≠0:=bne_iff_ne.1 c;have m:NY y (ZX a.2) tb=y.e:=by unfold NY;rw[Zf z]
  refine wA 8 I ?_;exact Je (()) I (wU I I) (by rw[cX z m]) tL
 have z:y.e=0:=bne_eq_false_iff_eq.1 c;have m:NY y (ZX a.2) tb=Qs [Hc (ZX a.2) y.nm.n,Dz y.nm.n tb]:=by unfold NY;rw[z,Zn]
 have Z:=hy.ok z;have hn1:=Z.n1;have hn0:=Z.n0;have hsn:=Z.sn;have hsl:=hy.P0;refine wC 4 I<|JG we mixed tE<|QK (QD I)<|QK (QH I Hj VU)<|QK (Qe I VU .here .h1)<|QK (Qg I Kw)<|QR I (λ_ _ f k=>G6 f k.1.1 k.1.2.2.1 k.1.2.2.2.1 C.1 C.2.1 C.2.2) λ_=>QK (wO I J6 .here)<|QK (QD I)<|QR I (λ_ _ f k=>F3 (y:=y) f k.1.1.1 k.1.1.2.1 k.1.1.2.2.2.2 hc) λ_=>?_
 refine Qo I (Q5 ZM) YS Ht I I (λb30=>?_) (λw h=>h.imp tP λF h=>h.1.1);refine QR I (λ_ _ f k=>YV f (Qy.of (cs:=bI Jo [_,_]) k.2 I) tF) (λ_=>QK (QF I)<|Q7<|wE 7 I ?_);refine QQ I (λc=>?_) λc=>?_
 ·have H:Qs [Hc (ZX a.2) y.nm.n,Dz y.nm.n tb]≠0:=bne_iff_ne.1 c;refine wA 8 I ?_;exact Je (()) I (wU I I) (by rw[cX H m]) tL
 have H:Qs [Hc (ZX a.2) y.nm.n,Dz y.nm.n tb]=0:=bne_eq_false_iff_eq.1 c;rw[H]at m;have g:=g m;have M:=xx hn1 (Q9 H _ (.head _));have opk:=H4 M;have K:=gA (Q9 H (Dz y.nm.n tb) (.tail _ (.head _)));have X:∀b∈tb,b.e.length<=1000000/\BS b.w b.wl/\BS b.l b.ll:=hc.t.resolve_left (tD K.len);refine wC 5 I<|QA (wO I J6 .here)<|wW I<|QI I (λw F hF ⟨⟨⟨⟨⟨⟨P,hy,hR,hA,hx⟩,_⟩,_⟩,_⟩,hs30⟩,_⟩=>UP (y:=y) hF P hy ht z hR hA C M g.al) λ_=>wD 15 I<|QA (XL I)<|wB 1 I ?_
 refine QE<|QC ?_
 refine QQ I (λc=>?_) λc=>?_
 ·have L:pA y (ZX a.2)=false:=by unfold pA;simpa using c
  refine wb I<|Qb I (Q5 ZM) YS Ht I I λb48=>QI I (λ_ _ f k=>YV f (Qy.of (cs:=bI Jo [0,7]) k.2 I) tF) λ_=>wD 5 I ?_
  exact Je (()) I (wU I I) (by rw[QFG m L]<;>rfl) tL
 have L:pA y (ZX a.2)=true:=by unfold pA;simpa using c
 refine QN<|QC<|wb rfl<|QI rfl (λ_ _ f k=>Ns f k.1.1.1.1.1.1.1 (a:=a) k.1.1.1.1.1.1.2.2.1 k.1.1.1.1.1.1.2.2.2.1 C (H4 M) O) λR=>JQ _ (λ_ _ f h=>ax h.2.eqT (ax h.2.2.2.2.2 h.2.len)) λB=>?_
 obtain⟨B,l51,S⟩:=B;have hp51:R.1.n<=64:=by have:=opk.len;unfold Xq at S;rw[ab]at S;omega
 refine wD 4 I<|Kr (r:=[0,1,2,3,4,5,6,7,8]) tP mixed tE rfl<|Jr 0 tE rfl rfl<|QK (QD I)<|JC<|Jr 3 tE rfl rfl<|QK (QH I YM J0)<|JC<|Jr 4 tE rfl rfl<|QK (Qe I J0 .here (.skip (.skip .h1)))<|JC<|Kq (A:=[7]) (r:=[1,2,5,6,8]) tE<|XQ 1 tE tE tH tP tM rfl rfl rfl (λ_=>rfl) (λ_ _ f k=>TN (n:=0) f tF tF) λc53=>XQ 2 tE tE tH tP tN rfl rfl rfl (λ_=>rfl) (λ_ _ f k=>Kc (x:=c53) (r:=((0:Int):Rat)) f k.2) λc54=>XQ 5 tE tE tH tP (λ_ h=>h.1.1) rfl rfl rfl (λ_=>rfl) (λ_ _ f k=>BK f k.1.1.1.1.1.1.1.1.1.1 k.1.1.1.1.1.1.1.1.1.2.1.st k.1.1.1.1.1.1.1.1.1.2.1.P0 O λs hs=>⟨Z.st s hs,ht.st s hs⟩) λc57=>Cd _ (λ_ _ f k=>k.2.nl) λV=>?_
 rw[ab,hsl]at V;refine XQ 6 tE tE tH tP (λ_ h=>h.1.1.1) rfl rfl rfl (λ_=>rfl) (λ_ _ f k=>Dy (pa:=R) (x:=c54) (t:=(((0:Int):Rat),((0:Int):Rat))) (vb:=y.vs) f k.1.1.1.2.self k.1.2 k.2 O O (by rw[B];exact g.e0)) (λQ=>?_);rw[B];refine VH 7 (d:=13) (T:=168) tE tE tH tP (λ_ h=>h.1.1.1.1) tE tE Jk (λb13=>Zv (vs:=[_,_,_,_,_,_,_,_]) 8 tE tE tH (.cons _ tP) (λ_ h=>h.1.1.1.1) rfl rfl (λ_=>rfl) (λ_=>rfl) rfl Qk I .here tP .h8 w8 ?_);refine WL ?_ tE;refine wE 5 I<|QA (Qg I EC)<|wD 4 I<|JU (ι:=Wo tb (pB (yB y (ZX a.2)) (Xq (ZX a.2)))) [(12,_),(13,_),(59,_),(60,_)] (λi=>[(61,.int .i64 ((i.i:Nat):Int))]) (λi=>[(b13,.cells (Xs Q).toArray 168 (0,0))]) (λi F=>True) (λi=>tb.length-i.i) (Wo.start _ _) wv wk (tR) tL λi=>?_
 simp only[aj,ao];have hi:=i.le;refine wA 6 I ?_;refine QQ I (λc=>?_) λc=>?_
 ·have o:i.i<tb.length:=tD<|wi c
  have u:=Qw o;refine wC 6 I<|QA (Q3 (n:=r.n) i.i (λF h9=>h9.1.1.1.1.1.1.1.1.1.1.1.1.2.2.2.2.row) rfl rfl EC X8 O)<|QA (JZ (n:=r.n) (vs:=[tx (el tb i.i).e,.slice (el tb i.i).w.q (el tb i.i).w.n (el tb i.i).w.cap,.slice (el tb i.i).l.q (el tb i.i).l.n (el tb i.i).l.cap]) ((i.i)*3) (λF h9=>h9.1.1.1.1.1.1.1.1.1.1.1.1.2.2.2.2.row) O rfl X8 I λj v hv=>JN (f:=uI) (l:=tb) Cb O hv)<|Qc Wt λb15=>QW (vs:=[_,_,_]) I I I X8 I .here .h3 wu<|wY<|QG<|Kr (r:=[0,1,2,3,4,5,6,7,8,9,10]) tP mixed tE rfl<|Jr 0 tE rfl rfl<|QK (QD I)<|JC<|Jr 1 tE rfl rfl<|QK (QH I Ec JF)<|JC<|Jr 2 tE rfl rfl<|QK (Qe I JF .here .h1)<|JC<|Jr 5 tE rfl rfl<|QK (QH I N6 J0) ?_
  refine JC<|Jr 6 tE rfl rfl<|QK (Qe I J0 .here (.skip (.skip .h1)))<|JC<|Kq (A:=[9]) (r:=[3,4,7,8,10]) tE<|XQ 3 tE tE tH tP tM rfl rfl rfl (λ_=>rfl) (λ_ _ f k=>Ki f k.1.1.1.1.1.1.1.1.1.1.1.1.1 (XM (K.e _ o)).1 (tD<|(X _ u).1)) λc68=>XQ 4 tE tE tH tP tN rfl rfl rfl (λ_=>rfl) (λ_ _ f k=>Kc (x:=c68) (r:=Qz (el tb i.i).e) f k.2) λc69=>XQ 7 tE tE tH tP (λ_ h=>h.1.1) rfl rfl rfl (λ_=>rfl) (λ_ _ f k=>H5 f k.1.1.1.1.1.1.1.1.1.1.1.1.1.1.1 (k.1.1.1.1.1.1.1.1.1.1.1.1.1.1.2.2.2.2.bx _ u).2 (X _ u).2.2 (XZ (K.l _ o)).2) λc72=>Cd _ (λ_ _ f k=>k.2.nl) λU=>?_
  rw[Yg,(XZ (K.l _ o)).1]at U;refine XQ 8 tE tE tH tP (λ_ h=>h.1.1.1) rfl rfl rfl (λ_=>rfl) (λ_ _ f k=>Dy (pa:=R) (x:=c69) (t:=(Qz (el tb i.i).e,Qz (el tb i.i).e)) f k.1.1.1.1.1.1.1.1.2.self k.1.2 k.2 O O (by rw[B];exact g.ev _ u)) (λY=>?_);rw[B];refine VH 9 (d:=16) (T:=168) tE tE tH tP (λ_ h=>h.1.1.1.1) tE tE Jk (λb16=>Zv (vs:=[_,_,_,_,_,_,_,_]) 10 tE tE tH (.cons _ tP) (λ_ h=>h.1.1.1.1) rfl rfl (λ_=>rfl) (λ_=>rfl) rfl Qk I .here tP .h8 w8 ?_);refine WL ?_ tE;refine QC ?_;refine ZZ [(12,_),(13,_),(59,_),(60,_),(61,_)] [(87,.bool ((!pB (yB y (ZX a.2)) (Xq (ZX a.2)) (el tb i.i))))] wy ?_ ?_
  ·refine QB<|QA (QH I Xt QS)<|QA (wR I QS .u2)<|QA (QH I Xu QS)<|QA (wP I QS .here)<|QI I (λ_ _ f k=>G3 (x:=Q.hi) (y:=Y.lo) (r:=(yB y (ZX a.2)).2) (s:=(J3 ((Qz (el tb i.i).e,Qz (el tb i.i).e)::lV (el tb i.i).ll) (Xq (ZX a.2))).1) f k.1.1.1.1.1.2.2 k.2.1 g.z0.2 (g.zs _ u).1) λ_=>wB 2 I ?_
   refine Qn (t:=80) rfl (λD=>?_) λD=>?_
   ·refine wB 8 I ?_;exact JY ⟨rfl,rfl,rfl,rfl,rfl,(congrArg (λb=>some (aH b)) (by unfold pB;rw[D];rfl)),trivial⟩ we tN
   refine QL I I<|QA (QH I Xt QS)<|QL I I<|QA (wR I QS .here)<|QL I I<|QA (QH I Xu QS)<|QL I I<|QA (wP I QS .u2)<|QL I I<|QI I (λ_ _ f k=>G3 (x:=Y.hi) (y:=Q.lo) (r:=(J3 ((Qz (el tb i.i).e,Qz (el tb i.i).e)::lV (el tb i.i).ll) (Xq (ZX a.2))).2) (s:=(yB y (ZX a.2)).1) f k.1.2.2 k.1.1.1.1.1.1.2.1 (g.zs _ u).2 g.z0.1) λ_=>wB 4 I ?_
   exact JY ⟨rfl,rfl,rfl,rfl,rfl,(congrArg (λb=>some (aH b)) (by unfold pB;rw[D,Bool.false_or,Bool.not_not])),trivial⟩ we λ_ h=>h.1.1
  simp only[aj,ao];refine QQ I (λc=>?_) λc=>?_
  ·have N:pB (yB y (ZX a.2)) (Xq (ZX a.2)) (el tb i.i)=false:=by simpa using c
   refine wA 7 I ?_
   repeat first|refine Q6 ?_|refine Qv ?_
   exact Je (()) I (wU I I) (by rw[yC m L,i.hit o N]) tL
  have N:pB (yB y (ZX a.2)) (Xq (ZX a.2)) (el tb i.i)=true:=by simpa using c
  refine QN<|Qj<|QC<|QB<|QA (Qu I I O)<|wB 2 I ?_
  exact Ql (i.next o N) (by show tb.length-(i.i+1)<tb.length-i.i;omega) wy ((.cons _ (.cons _ we))) λF h=>⟨h.1.1.1.1.1,trivial⟩
 have hge:tb.length<=i.i:=tD<|wj c
 refine Qx ?_
 repeat first|refine QY ?_|refine QO tH ?_
 refine QZ<|wE 8 I ?_
 exact Je (()) I (wU I I) (by rw[yC m L,i.stop hge]) tL
def I4(v:List (Rat×Rat)):List (List UInt8×List UInt8):=v.map λa=>(JP a.1,JP a.2)
def vz(v:List (Rat×Rat)):(I4 v).length=v.length:=by simp[I4]
def BQ.CW{c:Sr}{v:List (Rat×Rat)}(h:BQ F c v):Ks F c (I4 v):=⟨by
 have e:(I4 v).flatMap NU=v.flatMap QAd:=by unfold I4;rw[List.flatMap_map];rfl
 rw[e];exact h.1,by rw[vz];exact h.2.1.symm⟩
abbrev OE:=Rat×List (Rat×Rat)×List (Rat×Rat)
instance :Inhabited OE:=⟨(0,[],[])⟩
def To(t:List OE):List (List UInt8×List (List UInt8×List UInt8)×List (List UInt8×List UInt8)):=t.map λp=>(JP p.1,I4 p.2.1,I4 p.2.2)
def Wl.d(b:Wl):List UInt8×List (List UInt8×List UInt8)×List (List UInt8×List UInt8):=(b.e,b.wl,b.ll)
structure IE(F:Gs)(c:Sr×List Wl)(t:List OE):Prop where
 a:IF F c.1 c.2
 d:c.2.map Wl.d=To t
 cap:c.1.n<=c.1.cap
def IE.nil(F:Gs):IE F (⟨none,0,0⟩,[]) []:=⟨⟨Qy.nil F none 3,rfl,λb h=>by cases h⟩,rfl,aa _⟩
def LA(p:OE):Bool:=Jx p.2.1||Jx p.2.2
def tuR(e:Int)(o:Option (List OE)):Int×List OE:=if e≠0 then(e,[])else match o with
 |none=>(25,[])
 |some t=>(if t.any LA=true then 4 else 0,if t.any LA=true then[]else t)
def uZ{e:Int}{o:Option (List OE)}(h:e≠0):tuR e o=(e,[]):=by unfold tuR;rw[if_pos h]
def AJ:tuR 0 none=(25,[]):=rfl
def Hw(t:List OE):tuR 0 (some t)=(if t.any LA=true then 4 else 0,if t.any LA=true then[]else t):=rfl
def uJ(rs:List (List Tm))(n:Nat)(b:Int):Rat->List (Rat×Rat)->List Rat->Prop
 |_,_,[]=>True
 |fr,x,e::es=>kR rs fr e x n b/\∀p,KR rs fr e x n b=some p->uJ rs n b e p.2 es
def Cq{rs:List (List Tm)}{e:Rat}{es:List Rat}(h:KR rs fr e x n b=none):Gl rs n b fr x (e::es)=none:=by unfold Gl;rw[h]
def Cp{rs:List (List Tm)}{e:Rat}{es:List Rat}{p:List (Rat×Rat)×List (Rat×Rat)}(h:KR rs fr e x n b=some p):Gl rs n b fr x (e::es)=(Gl rs n b e p.2 es).map λr=>(e,p.1,p.2)::r:=by rw[Gl,h]
def dS(m:vD):List Value:=[.slice m.1.1.q m.1.1.n m.1.1.cap,.slice m.2.1.q m.2.1.n m.2.1.cap]
def dR(m:vD):(dS m).length=2:=rfl
instance :Inhabited vD:=⟨((default,[]),(default,[]))⟩
structure TuJ(rs:List (List Tm))(n:Nat)(b:Int)(vs:List (Rat×Rat))(es:List (List UInt8)) where
 i:Nat
 f0:Value
 f1:Value
 f2:Value
 f3:Value
 tt:Fr
 bx:Sr
 bl:List Yx
 cur:List (Rat×Rat)
 v:Value
 ob:List (Nat×Obj)
 ms:List vD
 acc:List OE
 le:i<=es.length
 hr:Q8 218 2 v i (ms.flatMap dS) ob
 len:ms.length=i
 h:Gl rs n b ((0:Int):Rat) vs (es.map Qz)=(Gl rs n b (Y0 es i) cur ((es.map Qz).drop i)).map λr=>acc++r
 ok:uJ rs n b (Y0 es i) cur ((es.map Qz).drop i)
 ql:acc.length=i
 p9:cur.length=vs.length
 sz:∀p∈acc,(p.2.1.length=vs.length/\p.2.2.length=vs.length)/\(∀a∈p.2.1,Xf a 100000000)/\∀a∈p.2.2,Xf a 100000000
 he:∀j,j<i->(el acc j).1=Qz (el es j)
structure TuH(rs:List (List Tm))(n:Nat)(b:Int)(vs:List (Rat×Rat))(es:List (List UInt8))(F:Gs)(i:TuJ rs n b vs es):Prop where
 tt:JR F i.tt (Y0 es i.i)
 bx:J7 F i.bx i.bl i.cur
 ms:∀j,j<i.i->J7 F (el i.ms j).1.1 (el i.ms j).1.2 (el i.acc j).2.1/\J7 F (el i.ms j).2.1 (el i.ms j).2.2 (el i.acc j).2.2
def Ga(h:i<es.length):(es.map Qz).drop i=Qz (el es i)::(es.map Qz).drop (i+1):=by
 rw[Bp (by rw[ab];exact h)];congr 1;rw[Jb (by rw[ab];exact h),aZ,Jb h]
def CK{β:Type}(l:List α)(x:α)(f:α->List β):(l++[x]).flatMap f=l.flatMap f++f x:=by rw[bN];simp
def Dh[Inhabited α]{l:List α}{x:α}{j i:Nat}(a:l.length=i)(h:j<i):el (l++[x]) j=el l j:=by subst a;exact Uf h
def G5[Inhabited α]{l:List α}{x:α}{i:Nat}(a:l.length=i):el (l++[x]) i=x:=by subst a;exact CQ l x
def AS{o:Option (List (Rat×Rat)×List (Rat×Rat))}{c:vD}{p:List (Rat×Rat)×List (Rat×Rat)}(h:stF F o c)(e:o=some p):J7 F c.1.1 c.1.2 p.1/\J7 F c.2.1 c.2.2 p.2:=by rw[e]at h;exact h
def TuJ.next{rs:List (List Tm)}{n:Nat}{b:Int}{vs:List (Rat×Rat)}{es:List (List UInt8)}(s:TuJ rs n b vs es)(hb:b<=64)(a:s.i<es.length){p:List (Rat×Rat)×List (Rat×Rat)}(f:KR rs (Y0 es s.i) (Qz (el es s.i)) s.cur n b=some p)(k:Fr)(c:vD){v:Value}{ob:List (Nat×Obj)}(hr:Q8 218 2 v (s.i+1) (s.ms.flatMap dS++dS c) ob):TuJ rs n b vs es :=
 ⟨s.i+1,.int .i64 s.tt.n.s,.slice s.tt.n.q s.tt.n.n s.tt.n.cap,.int .i64 s.tt.d.s,.slice s.tt.d.q s.tt.d.n s.tt.d.cap,k,c.2.1,c.2.2,p.2,v,ob,s.ms++[c],s.acc++[(Qz (el es s.i),p.1,p.2)],a,by rw[CK];exact hr,by rw[aO,s.len];rfl,by
  rw[s.h,Ga a,Cp f,Wd,Option.map_map];congr 1;funext r;simp,by
  have h1:=s.ok;rw[Ga a]at h1;rw[Wd];exact h1.2 p f,by rw[aO,s.ql];rfl,by
  have h1:=s.ok;rw[Ga a]at h1;exact(EA hb h1.1 f).1.2.trans s.p9,λq hq=>by
  have h1:=s.ok;rw[Ga a]at h1;have h2:=EA hb h1.1 f;rcases List.mem_append.1 hq with hq | hq
  ·exact s.sz q hq
  ·rw[List.mem_singleton.1 hq];exact⟨⟨h2.1.1.trans s.p9,h2.1.2.trans s.p9⟩,h2.2.1,h2.2.2⟩,λj g=>by
  rcases Nat.lt_succ_iff_lt_or_eq.1 g with h | h
  ·rw[Dh s.ql h];exact s.he j h
  rw[h,G5 s.ql]⟩
def TuH.next{rs:List (List Tm)}{vs:List (Rat×Rat)}{s:TuJ rs n b vs es}(hb:b<=64)(f:s.i<es.length){p:List (Rat×Rat)×List (Rat×Rat)}(a:KR rs (Y0 es s.i) (Qz (el es s.i)) s.cur n b=some p){k:Fr}{c:vD}{v:Value}{ob:List (Nat×Obj)}(hr:Q8 218 2 v (s.i+1) (s.ms.flatMap dS++dS c) ob)(h:TuH rs n b vs es F s)(h1:JR F k (Qz (el es s.i)))(h2:stF F (KR rs (Y0 es s.i) (Qz (el es s.i)) s.cur n b) c):TuH rs n b vs es F (s.next hb f a k c hr) :=
 ⟨by show JR F k (Y0 es (s.i+1));rw[Wd];exact h1,(AS h2 a).2,λj l=>by
  rcases Nat.lt_succ_iff_lt_or_eq.1 l with g | g
  ·show J7 F (el (s.ms++[c]) j).1.1 (el (s.ms++[c]) j).1.2 (el (s.acc++[_]) j).2.1/\J7 F (el (s.ms++[c]) j).2.1 (el (s.ms++[c]) j).2.2 (el (s.acc++[_]) j).2.2;rw[Dh s.len g,Dh s.ql g];exact h.ms j g
  show J7 F (el (s.ms++[c]) j).1.1 (el (s.ms++[c]) j).1.2 (el (s.acc++[_]) j).2.1/\J7 F (el (s.ms++[c]) j).2.1 (el (s.ms++[c]) j).2.2 (el (s.acc++[_]) j).2.2;rw[g,G5 s.len,G5 s.ql];exact AS h2 a⟩
structure TbJ(acc:List OE) where
 i:Nat
 v:Value
 ob:List (Nat×Obj)
 bs:List Wl
 le:i<=acc.length
 hr:Q8 123 3 v i (bs.flatMap uI) ob
 len:bs.length=i
 no:∀j,j<i->LA (el acc j)=false
 d:bs.map Wl.d=To (acc.take i)
def kE{a:List OE}(h:i<a.length)(k:LA (el a i)=true):a.any LA=true:=List.any_eq_true.2 ⟨_,Qw h,k⟩
theorem qj{a:List OE}(h:∀j,j<a.length->LA (el a j)=false):a.any LA=false:=by
 cases e:a.any LA with
 |false=>rfl
 |true =>
  obtain⟨x,hx,k⟩:=List.any_eq_true.1 e;obtain⟨j,b,rfl⟩:=aq hx;have:=h j b;rw[Jb b,k]at this;cases this
def Co{acc:List OE}(h:i<acc.length):To (acc.take (i+1))=To (acc.take i)++[(JP (el acc i).1,I4 (el acc i).2.1,I4 (el acc i).2.2)]:=by rw[XE h];simp[To]
def TbJ.next{acc:List OE}(s:TbJ acc)(h:s.i<acc.length)(b:Wl){v:Value}{ob:List (Nat×Obj)}(hr:Q8 123 3 v (s.i+1) (s.bs.flatMap uI++uI b) ob)(a:LA (el acc s.i)=false)(hd:b.d=(JP (el acc s.i).1,I4 (el acc s.i).2.1,I4 (el acc s.i).2.2)):TbJ acc :=
 ⟨s.i+1,v,ob,s.bs++[b],h,by rw[CK];exact hr,by rw[aO,s.len];rfl,λj c=>by
  rcases Nat.lt_succ_iff_lt_or_eq.1 c with g | g
  ·exact s.no j g
  rw[g];exact a,by rw[bU,s.d,Co h,<-hd];rfl⟩
def tuE(y:Xz)(es:List (List UInt8))(o b:Int):Int:=Qs [y.e,NA es,BD o,VZ b]
def yf(h:NA es=0):es.length<=1000/\(∀i,i<es.length->Jp (el es i)=0):=by
 unfold NA at h;by_cases g:es.length>1000
 ·rw[if_pos g]at h;cases h
 rw[if_neg g]at h;exact⟨O,λi hi=>(G9 (Q9 h _ (aK (f:=λi=>Nb (Y0 es i) (el es i)) (List.mem_range.2 hi)))).1⟩
theorem QAe{qe:Option Addr}{P ce:Nat}{o:Int}(hF:Fits F w)(E:JE F)(hy:X4 F y)(ht:GJ y)(hR:Qy F qe P 1 (es.map tx))(hne:es.length=P)(hel:P>1000\/∀s∈es,s.length<=1000000)(R:tuE y es o b=0->uJ y.rs o.toNat b ((0:Int):Rat) y.vs (es.map Qz)):
  QU prog 71 [y.v,.slice qe P ce,.int .i64 o,.int .i64 b] w F (λ(c:Sr×List Wl)=>.tuple #[c.1.v,.int .i64 (tuR (tuE y es o b) (Gl y.rs o.toNat b ((0:Int):Rat) y.vs (es.map Qz))).1]) (λc F=>IE F c (tuR (tuE y es o b) (Gl y.rs o.toNat b ((0:Int):Rat) y.vs (es.map Qz))).2):=by
 refine QU.intro (G:=λF=>JE F/\X4 F y/\Qy F qe P 1 (es.map tx)) func71 rfl tH rfl rfl hF (λF' hF'=>⟨E.le hF',hy.le hF',hR.le hF'⟩)<|wa<|Qp rfl (vs:=[_,_,_]) rfl λb4=>wX rfl<|wZ rfl<|QG<|wa<|QA (wO I J6 .here)<|QI rfl (λ_ _ f k=>Zs (y:=y) f k.1 k.2.1 ht) λ_=>wW rfl<|QI rfl (λ_ _ f k=>F5 f k.1.1 k.1.2.2 hne hel) λ_=>wW rfl<|QI rfl (λ_ _ f k=>WA f) λ_=>wW rfl<|QI rfl (λ_ _ f k=>BN f) λ_=>Qb rfl (Q5 ZM) YS Ht rfl rfl λb31=>QI rfl (λ_ _ f k=>YV f (Qy.of (cs:=bI Jo [_,_,_,_]) k.2 rfl) tF) λ_=>wZ rfl<|QG ?_
 refine wC 5 I ?_;refine QQ I (λg=>?_) λg=>?_
 ·have m:tuE y es o b≠0:=bne_iff_ne.1 g;refine wA 8 I ?_;exact Je (((⟨none,0,0⟩,[]):Sr×List Wl)) I (wU I I) (by rw[uZ m]<;>rfl) λF h9=>by rw[uZ m];exact IE.nil F
 have m:tuE y es o b=0:=bne_eq_false_iff_eq.1 g;have R:=R m;have hye:y.e=0:=Q9 m _ (.head _);have hen:=yf (Q9 m (NA es) (.tail _ (.head _)));have hor:=Nw (Q9 m (BD o) (.tail _ (.tail _ (.head _))));have S:=Rs (Q9 m (VZ b) (.tail _ (.tail _ (.tail _ (.head _)))));have ho:=hy.ok hye;have hn1:=ho.n1;have hn0:=ho.n0;have Q:=ho.rn;have hsn:=ho.sn;have hsl:=hy.P0;have hrs:y.rs.length=y.nm.n:=by unfold Xz.rs;rw[ab,hy.Ka,Q]
 have hvs:y.vs.length=y.nm.n:=by unfold Xz.vs;rw[ab,hsl,hsn]
 have hel2:∀s∈es,s.length<=1000000:=hel.resolve_left O;obtain⟨n,rfl⟩:∃n:Nat,o=(n:Int):=⟨o.toNat,O⟩;rw[aB]at R;refine wC 4 I<|QA (wO I J6 .here)<|QI rfl (λ_ _ f k=>Zc (y:=y) f k.1.1.1.1.1.1.1 k.1.1.1.1.1.1.2.1 ht ho) λV=>JQ _ (λw F hF ⟨⟨⟨⟨⟨⟨⟨⟨E,hy,hR⟩,_⟩,_⟩,_⟩,_⟩,C⟩,_⟩,B⟩=>ax B.Ka (ax (B.pn ho.short) B.box.nl)) λhnn=>?_
 obtain⟨hn37,hp37,hb37⟩:=hnn;refine wD 4 I<|Kr (r:=[0,1,2,3,4,5,6,7]) tR mixed tE rfl<|Jr 1 tE rfl rfl<|QK (QD I)<|JC<|Jr 2 tE rfl rfl<|QK (Zd I)<|JC<|Jr 3 tE rfl rfl<|QK (QH I pY JH)<|JC<|Jr 4 tE rfl rfl<|QK (Zq (c:=#[V.rt.v,V.st.v]) (T':=188) rfl JH (λF h9=>h9.2.Hs) rfl)<|JC<|Kq (A:=[6]) (r:=[0,5,7]) tE<|XQ 0 tE tE tH tR tM rfl rfl rfl (λ_=>rfl) (λ_ _ f k=>TN (n:=0) f tF tF) λc38=>qz 5 tE tE tH tR tN rfl tH (λ_=>Q4 I zC OM (.cons (vs:=[_,_,_,_]) I I I (.skip (.skip (.skip (.skip .h4)))) (.cons (vs:=[_]) I I I (.skip (.skip (.skip (.skip (.skip (.skip (.skip (.skip .h1)))))))) .nil)))<|VH 6 (d:=12) (T:=183) tE tE tH tR tN tE tE OM λb12=>Zv (vs:=[_,_,_,_,_,_,_,_,_]) 7 tE tE tH (.cons _ tR) tN rfl rfl (λ_=>rfl) (λ_=>rfl) rfl Hv I .here tR .h9 w9 ?_
 refine WL ?_ tE;refine wE 10 I<|QA (Qg I YG)<|wD 4 I<|JU (ι:=TuJ y.rs n b y.vs es) [(1,_),(2,_),(3,_),(11,_),(12,_),(44,_),(45,_)] (λi=>[(13,i.v),(46,.int .i64 ((i.i:Nat):Int))]) (λi=>(b12,.cells #[i.f0,i.f1,i.f2,i.f3,.int .i64 i.tt.n.s,.slice i.tt.n.q i.tt.n.n i.tt.n.cap,.int .i64 i.tt.d.s,.slice i.tt.d.q i.tt.d.n i.tt.d.cap,.slice i.bx.q i.bx.n i.bx.cap] 183 (0,0))::i.ob) (λi F=>TuH y.rs n b y.vs es F i) (λi=>es.length-i.i) (⟨0,.int .i64 0,.slice none 0 0,.int .i64 0,.slice none 0 0,c38,V.st,V.sl,y.vs,.slice none 0 0,[],[],[],aI _,.nil,rfl,(by show Gl y.rs n b _ _ _=Option.map _ (Gl y.rs n b ((0:Int):Rat) _ _);rw[bA];simp),R,rfl,rfl,(λp h=>by cases h),λj h=>absurd h (bp _)⟩) w6 wm (tR) (λF h=>⟨h.2,h.1.2.box,λj h=>absurd h (bp _)⟩) λi=>?_
 simp only[aj,ao];have hi:=i.le;refine wA 6 I ?_;refine QQ I (λg=>?_) λg=>?_
 ·have L:i.i<es.length:=tD<|wi g
  have hem:=Qw L;have hce:=hen.2 _ L;have hcl:=hel2 _ hem;have hde:=Ga L;have hok1:=i.ok;rw[hde]at hok1;have hsp:=hok1.1;refine XV _ (λ_ _ f k=>k.2.bx.nl) (λhnb=>?_);have hcn:=i.p9;refine wC 6 I<|QA (Q3 (n:=P) i.i (λF h9=>h9.1.1.1.1.1.1.1.1.1.2.2) rfl rfl YG JF O)<|QA (JA (n:=P) ((i.i)*1) (λF h9=>h9.1.1.1.1.1.1.1.1.1.2.2) O rfl JF (XT (f:=tx) (l:=es) O))<|wD 4 I<|Jq 5 we mixed tE tE ?_
  simp only[bM,bV,bO,bA];refine QK (QH I Bk QS)<|QK (wR I QS .here)<|QK (QD I)<|QR I (λ_ _ f k=>Ki f k.1.1.1.1.1.1.1.1.1.1 (XM hce).1 O) λc53=>QK (QH I Bl QS)<|ZS<|QW (vs:=[_,_,_,_]) I I I QS I .here .h4 wv<|QA (QH I Bk QS)<|QW (vs:=[_,_,_,_]) I I I QS I .here (.skip (.skip (.skip (.skip .h4)))) wv<|wD 5 I<|QA (QJ (vs:=[_,_,_,_,_,_,_,_,_]) I Hv .here .h9 rfl)<|wB 2 I<|QI I (λ_ _ f k=>xD (n:=n) (x:=⟨i.tt,c53,i.bx,i.bl⟩) (vx:=i.cur) (fr:=Y0 es i.i) (t2:=Qz (el es i.i)) f k.1.1.1.1.1.1.1.1.1.1.1 k.1.1.1.2 ⟨k.1.2.tt,k.2,k.1.2.bx⟩ (by dsimp only;omega) (by dsimp only;omega) (by dsimp only;omega) (λe he=>tD<|hp37 e he) O S hsp) λc61=>wB 3 I<|Qc Mn λb16=>QW (vs:=[_,_]) I I I KW I .here .h2 wm<|wB 2 I ?_
  refine wE 5 I<|QA (XL I)<|QE<|QC ?_
  refine QQ I (λg=>?_) λg=>?_
  ·have z:(KR y.rs (Y0 es i.i) (Qz (el es i.i)) i.cur n b)=none:=by cases z:(KR y.rs (Y0 es i.i) (Qz (el es i.i)) i.cur n b)with
    |none=>rfl
    |some v=>rw[z]at g;cases g
   have H:(Gl y.rs n b ((0:Int):Rat) y.vs (es.map Qz))=none:=by rw[i.h,hde,Cq z];rfl
   refine wA 7 I ?_
   repeat first|refine Q6 ?_|refine Qv ?_
   exact Je (((⟨none,0,0⟩,[]):Sr×List Wl)) I (wU I I) (by rw[m,aB,H,AJ]<;>rfl) λF h9=>by rw[m,aB,H,AJ];exact IE.nil F
  obtain⟨p,z⟩:∃p,(KR y.rs (Y0 es i.i) (Qz (el es i.i)) i.cur n b)=some p:=by cases z:(KR y.rs (Y0 es i.i) (Qz (el es i.i)) i.cur n b)with
   |none=>rw[z]at g;cases g
   |some v=>exact⟨v,rfl⟩
  have hpz:=EA S.2 hsp z;refine wC 4 I<|QA (QH I CN JH)<|QA (Qe I JH .here (.skip .h1))<|QA (QH I Bj JH)<|QW (vs:=[_]) I I I JH I .u1 (.skip (.skip (.skip (.skip (.skip (.skip (.skip (.skip .h1)))))))) wk<|wD 4 I<|QA (wN I KW .here)<|Qb I (Q5 Tr) KW Mn I I λb71=>?_
  refine Z4 (bs1:=[_,_]) (ob:=i.ob) (n:=i.i) (k:=1) (sz:=2) (news:=(dS c61)) I I Tr KW Mn I QCJ i.hr (Src.row (off:=0) tO (λj q hq=>by rw[ar];rw[aU];exact hq) rfl) O O (λv z=>by simp only[dS,aD,av,or_false]at z;rcases z with rfl | rfl<;>rfl) (λv72 ob72 Z=>?_);refine wB 2 I<|Qj<|QC<|QB<|QA (Qu I I O)<|wB 2 I ?_
  exact Ql (i.next S.2 L z c53 c61 Z) (by show es.length-(i.i+1)<es.length-i.i;omega) w9 ((.cons _ we)) λF ⟨⟨⟨⟨⟨⟨⟨⟨⟨⟨⟨⟨⟨E,hy,hR⟩,_⟩,_⟩,_⟩,_⟩,C⟩,_⟩,B⟩,h38⟩,hS⟩,h53⟩,h61⟩,hs71⟩=>⟨⟨⟨⟨⟨⟨⟨⟨⟨⟨E,hy,hR⟩,trivial⟩,trivial⟩,trivial⟩,trivial⟩,C⟩,trivial⟩,B⟩,h38⟩,hS.next S.2 L z Z h53 h61⟩
 have hge:i.i=es.length:=by have:=wj g;have:=i.le;omega
 have D:(Gl y.rs n b ((0:Int):Rat) y.vs (es.map Qz))=some i.acc:=by
  rw[i.h,List.drop_of_length_le (by rw[ab];omega)];show some (i.acc++[])=_;rw[List.append_nil]
 have hal:=i.ql;refine Qx ?_
 repeat first|refine QY ?_|refine QO tH ?_
 refine QZ<|wE 9 I ?_
 have hxl:=i.len;obtain⟨⟨rq,rn,rc⟩,hv2,Q,hrc,hfix⟩:=Q8.fix (w0:=w) (F0:=F) (bs1:=[_]) (G:=_) i.hr;dsimp only at Q hrc hfix;subst Q;refine Zj hfix ?_;rw[hv2];dsimp only[Sr.v];refine wW rfl<|QA (Qg rfl Tr)<|wW rfl<|wY<|QV<|JU (ι:=TbJ i.acc) [(1,_),(74,_),(75,_)] (λa=>[(18,a.v),(76,.int .i64 ((a.i:Nat):Int))]) (λa=>a.ob) (λa F=>∀bx∈a.bs,Ks F bx.w bx.wl/\Ks F bx.l bx.ll) (λa=>es.length-a.i) (⟨0,.slice none 0 0,[],[],aI _,.nil,rfl,λj h=>absurd h (bp _),rfl⟩) wu wm (tQ) (λ_ _ bx h=>by cases h) λa=>?_
 simp only[aj,ao];have hi2:=a.le;refine wA 6 I ?_;refine QQ I (λg=>?_) λg=>?_
 ·have K:a.i<i.acc.length:=tD<|wi g
  have hsz:=i.sz _ (Qw K);have hej:=i.he a.i O;have hce:=hen.2 a.i O;refine wC 7 I<|QA (Q3 (n:=i.i) (a.i) (λF h9=>h9.1.2) rfl rfl Tr KW O)<|QA (JZ (n:=i.i) (vs:=[.slice (el i.ms (a.i)).1.1.q (el i.ms (a.i)).1.1.n (el i.ms (a.i)).1.1.cap,.slice (el i.ms (a.i)).2.1.q (el i.ms (a.i)).2.1.n (el i.ms (a.i)).2.1.cap]) ((a.i)*2) (λF h9=>h9.1.2) O rfl KW I λj v z=>JN (f:=dS) (l:=i.ms) dR O z)<|Qc Mn λb20=>wX I<|QW (vs:=[_,_]) I I I KW I .here .h2 wm<|wY<|QG<|Kr (r:=[0,1,2,3,4,5,6,7,8,9,10,11]) tR mixed tE rfl<|Jr 0 tE rfl rfl<|QK (wN I KW .here)<|JC<|Jr 1 tE rfl rfl<|QK (QD I)<|JC<|Jr 2 tE rfl rfl<|QK (QD I)<|JC ?_
  refine Jr 3 tE rfl rfl<|QK (Q3 (n:=P) (a.i) (λF h9=>h9.1.1.1.1.1.1.1.1.1.1.1.2.2) rfl rfl YG JF O)<|JC<|Jr 4 tE rfl rfl<|QK (JA (n:=P) ((a.i)*1) (λF h9=>h9.1.1.1.1.1.1.1.1.1.1.1.2.2) O rfl JF (XT (f:=tx) (l:=es) O))<|JC<|Kq (A:=[9]) (r:=[5,6,7,8,10,11]) tE<|XQ 5 tE tE tH tR tM rfl rfl rfl (λ_=>rfl) (λ_ _ f k=>zh (c:=el i.ms a.i) (v:=(el i.acc a.i).2.1) (u:=(el i.acc a.i).2.2) (s:=el es a.i) f k.1.1.1.1.1.1.1.1.1.1.1.1 (k.1.1.2.ms _ O).1 (k.1.1.2.ms _ O).2 O O hsz.2.1 hsz.2.2) λU=>qz 6 tE tE tH tR tN rfl tH (λ_=>QD I)<|qz 7 tE tE tH tR tN rfl tH (λ_=>Qa I I)<|qz 8 tE tE tH tR tN rfl tH (λ_=>Qa I I)<|VH 9 (d:=21) (T:=123) tE tE tH tR tN tE tE Wt λb21=>Zv (vs:=[_,_,_]) 10 tE tE tH (.cons _ tR) tN rfl rfl (λ_=>rfl) (λ_=>rfl) rfl X8 I .here tR .h3 wu<|qz 11 tE tE tH (.cons _ tR) tN rfl tH (λ_=>QF I) ?_
  refine WL ?_ tE;refine wE 8 I ?_;refine QQ I (λg=>?_) λg=>?_
  ·have hL:LA (el i.acc a.i)=true:=by
    cases e:LA (el i.acc a.i)with
    |true=>rfl
    |false=>rw[show(Jx (el i.acc a.i).2.1||Jx (el i.acc a.i).2.2)=false from e]at g;cases g
   have N:=kE K hL;refine wA 8 I ?_
   repeat first|refine Q6 ?_|refine Qv ?_
   exact Je (((⟨none,0,0⟩,[]):Sr×List Wl)) I (wU I I) (by rw[m,aB,D,Hw,if_pos N,show(Jx (el i.acc a.i).2.1||Jx (el i.acc a.i).2.2)=true from hL]<;>rfl) λF h9=>by rw[m,aB,D,Hw,if_pos N,if_pos N];exact IE.nil F
  have hL:(Jx (el i.acc a.i).2.1||Jx (el i.acc a.i).2.2)=false:=by
   cases e:(Jx (el i.acc a.i).2.1||Jx (el i.acc a.i).2.2)with
   |false=>rfl
   |true=>rw[e]at g;cases g
  rw[hL];refine wC 4 I<|QA (wO I X8 .here)<|Qb I (Q5 EC) X8 Wt I I λb95=>?_
  refine Z4 (bs1:=[_,_]) (ob:=a.ob) (n:=a.i) (k:=1) (sz:=3) (news:=(uI ⟨el es a.i,U.1,I4 (el i.acc a.i).2.1,U.2,I4 (el i.acc a.i).2.2⟩)) I I EC X8 Wt I QCM a.hr (Src.row (off:=0) tO (λj q hq=>by rw[ar];rw[aU];exact hq) rfl) O O (λv z=>by simp only[uI,aD,av,or_false]at z;rcases z with rfl | rfl | rfl<;>rfl) (λv96 ob96 hr96=>?_);refine wB 2 I<|Qj<|QC<|QB<|QA (Qu I I O)<|wB 2 I ?_
  exact Ql (a.next K ⟨el es a.i,U.1,I4 (el i.acc a.i).2.1,U.2,I4 (el i.acc a.i).2.2⟩ hr96 hL (by show(el es a.i,_,_)=(JP (el i.acc a.i).1,_,_);rw[hej,<-(XM hce).1])) (by show es.length-(a.i+1)<es.length-a.i;omega) wy ((.cons _ (.cons _ we))) (λF ⟨⟨⟨⟨⟨⟨⟨⟨⟨⟨⟨⟨⟨⟨E,hy,hR⟩,_⟩,_⟩,_⟩,_⟩,C⟩,_⟩,B⟩,h38⟩,hS⟩,hrow⟩,hW⟩,h87⟩,hs95⟩=>⟨⟨⟨⟨⟨⟨⟨⟨⟨⟨⟨⟨E,hy,hR⟩,trivial⟩,trivial⟩,trivial⟩,trivial⟩,C⟩,trivial⟩,B⟩,h38⟩,hS⟩,hrow⟩,λbx hb=>by
     rcases List.mem_append.1 hb with hb | hb
     ·exact hW bx hb
     rw[List.mem_singleton.1 hb];exact⟨BQ.CW h87.1,BQ.CW h87.2⟩⟩)
 have hge2:a.i=i.acc.length:=by have:=wj g;have:=a.le;omega
 have hno:i.acc.any LA=false:=qj λj hj=>a.no j O;refine Qx ?_
 repeat first|refine QY ?_|refine QO tH ?_
 refine QZ<|wE 3 I ?_
 have hxl2:=a.len;obtain⟨⟨rq2,rn2,rc2⟩,hv3,X,Y,M⟩:=Q8.fix (w0:=w) (F0:=F) (bs1:=[]) (G:=_) a.hr;dsimp only at X Y M;subst X;refine Zj M ?_;rw[hv3];dsimp only[Sr.v];refine wD 6 I ?_;exact Je (((⟨rq2,a.i,rc2⟩,a.bs):Sr×List Wl)) I (wU I I) (by rw[m,aB,D,Hw,hno]<;>rfl) λF h9=>by rw[m,aB,D,Hw,hno];exact⟨⟨h9.2,hxl2,h9.1.2⟩,by have e:=a.d;rw[hge2,au]at e;exact e,Y⟩
def Cl.zero(d b:Nat):Cl Q d b 0:=⟨0,by rw[Rat.zero_divInt],tJ⟩
theorem Cl.one(d b:Nat)(h0:0<Q):Cl Q d b 1:=⟨((Q^d:Nat):Int),by
 have hq:((Q^d:Nat):Int)≠0:=tD (bh (n:=d) h0);rw[Rat.divInt_self' hq],by rw[aX];exact bG _ (bh tF)⟩
theorem E7{P:Rat->Prop}:∀(l:List Rat) (s:Rat×Rat),P s.1->P s.2->(∀x∈l,P x)->P (l.foldl ZC s).1/\P (l.foldl ZC s).2
 |[],s,h1,h2,_=>⟨h1,h2⟩
 |x::l,s,h1,h2,h=>by
  have hx:=h x tJ;exact E7 l (ZC s x) (by unfold ZC;dsimp only;split<;>assumption) (by unfold ZC;dsimp only;split<;>assumption) λy hy=>h y (by simp[hy])
def KA(Q d b:Nat)(x:Rat×Rat):Prop:=Cl Q d b x.1/\Cl Q d b x.2
section
variable{Q d b e c:Nat}{x y:Rat×Rat}(h0:0<Q)
include h0
theorem KA.mono(h:KA Q d b x)(hd:d<=e)(hb:b<=c):KA Q e c x:=⟨h.1.mono h0 hd hb,h.2.mono h0 hd hb⟩
theorem KA.add(h:KA Q d b x)(k:KA Q d b y):KA Q d (b+1) (Vz x y):=⟨h.1.add h0 k.1,h.2.add h0 k.2⟩
theorem KA.times(h:KA Q d b x)(k:KA Q e c y):KA Q (d+e) (b+c) (Jg x y):=by
 have h11:=h.1.mul h0 k.1;have h12:=h.1.mul h0 k.2;have f:=h.2.mul h0 k.1;have a:=h.2.mul h0 k.2;exact E7 (P:=Cl Q (d+e) (b+c)) _ _ h11 h11 λz hz=>by
  simp only[aD,av,or_false]at hz;rcases hz with rfl | rfl | rfl<;>assumption
theorem KA.Ux(h:KA Q d b x):Xf x (b+d*sz (Q:Int)+2):=⟨h.1.JW h0,h.2.JW h0⟩
theorem KA.zero:KA Q d b (0,0):=⟨.zero d b,.zero d b⟩
def Mg(Q al c d b:Nat)(a:List XP):Prop:=∀k,k<a.length->KA Q (al*k+d) (c*k+b) (el a k)
variable{al be:Nat}{a a':List XP}
theorem Mg.mono{d' b':Nat}(h:Mg Q al be d b a)(hd:d<=d')(hb:b<=b'):Mg Q al be d' b' a:=λk hk=>(h k hk).mono h0 O O
theorem CU(ha:Mg Q al be d b a)(hb:Mg Q al be e c a'){k:Nat}(hk:k<a.length)(f:a.length<=a'.length):∀i,i<=k+1->KA Q (al*k+(d+e)) (be*k+(b+c)+i) (DM a a' k i):=by
 intro i
 induction i with
 |zero=>intro _;exact KA.zero h0
 |succ i ih =>
  intro hi;rw[Ro];have h1:=ih O;have h2:=KA.times h0 (ha i O) (hb (k-i) O);have h:al*i+al*(k-i)=al*k:=by rw[<-ei];congr 1;omega
  have g:be*i+be*(k-i)=be*k:=by rw[<-ei];congr 1;omega
  exact KA.add h0 h1 (h2.mono h0 (c:=be*k+(b+c)+i) O O)
theorem jx(ha:Mg Q al be d b a)(hb:Mg Q al be e c a')(f:a.length<=a'.length)(g:a.length<=L):Mg Q al be (d+e) (b+c+L) (H2 a a'):=λk hk=>by
 rw[Pu]at hk;unfold H2;rw[VR _ hk];exact(CU h0 ha hb hk f (k+1) (aa _)).mono h0 (aa _) O
theorem dC(ha:Mg Q al be d b a)(hb:Mg Q al be d b a')(c:a.length<=a'.length):Mg Q al be d (b+1) (My a a'):=λk hk=>by
 rw[S3]at hk;unfold My;rw[VR _ hk];exact KA.add h0 (ha k hk) (hb k O)
theorem yy{r:Rat}(h:Cl Q 1 b r):Mg Q al be 1 b (Ek r n):=λk hk=>by
 rw[Ej]at hk
 match k,hk with
 |0,_=>show KA Q (al*0+1) (be*0+b) (r,r);rw[aF,ar,aF,ar];exact⟨h,h⟩
 |k+1,hk =>
  have a:el (Ek r n) (k+1)=(0,0):=by rw[Jb (by rw[Ej];exact hk)];simp[Ek]
  rw[a];exact KA.zero h0
theorem y8{t:XP}(h:KA Q 1 b t):Mg Q al be 1 b (KC t n):=λk hk=>by
 rw[En]at hk
 match n,k,hk with
 |0,0,_=>show KA Q (al*0+1) (be*0+b) t;rw[aF,ar,aF,ar];exact h
 |n+1,0,_=>show KA Q (al*0+1) (be*0+b) t;rw[aF,ar,aF,ar];exact h
 |n+1,1,_=>exact⟨.one _ _ h0,.one _ _ h0⟩
 |n+1,k+2,hk =>
  have a:el (KC t (n+1)) (k+2)=(0,0):=by rw[Jb (by rw[En];exact hk)];simp[KC]
  rw[a];exact KA.zero h0
theorem xk{y z:List XP}(hy:Mg Q al be d b y)(hz:Mg Q al be 1 B z)(a:y.length<=z.length)(c:y.length<=L):∀i,Mg Q al be (d+i) (b+i*(B+L)) (NW y z i):=by
 intro i
 induction i with
 |zero=>rw[aY,bD,aY];exact hy
 |succ i ih =>
  rw[Sx];have h1:=jx h0 (L:=L) ih hz (by rw[BA];exact a) (by rw[BA];exact c);refine h1.mono h0 O ?_;rw[aA];omega
def Zz(ks:List Int):Nat->Nat
 |0=>0
 |v+1=>Zz ks v+(Qm ks v).toNat
omit h0 in
theorem Dl(ks:List Int){v w:Nat}(h:v<=w):Zz ks v<=Zz ks w:=by
 induction w with
 |zero=>rw[Nat.le_zero.1 h];exact aa _
 |succ w ih =>
  rcases bY v (w+1)with g | g
  ·exact af (ih O) (ba _ _)
  rw[Nat.le_antisymm h g];exact aa _
theorem zZ{r:Rat}{ks:List Int}{all:List (List XP)}(hr:Cl Q 1 B r)(ha:∀v,v<all.length->Mg Q al be 1 B (el all v)/\(el all v).length=n+1)(b:n+1<=L):∀v,v<=all.length->Mg Q al be (1+Zz ks v) (B+Zz ks v*(B+L)) (B4 r ks all n v):=by
 intro v
 induction v with
 |zero=>intro _;show Mg Q al be (1+0) (B+0*(B+L)) (Ek r n);rw[aY,bD,aY];exact yy h0 hr
 |succ v ih =>
  intro a;have h1:=ha v a;rw[TF];have h2:=xk h0 (L:=L) (ih O) h1.1 (by rw[Kf,h1.2];exact aa _) (by rw[Kf];exact b) (Qm ks v).toNat;refine h2.mono h0 (by show 1+Zz ks v+_<=1+(Zz ks v+_);omega) ?_;show B+Zz ks v*(B+L)+_<=B+(Zz ks v+_)*(B+L);rw[aA];omega
theorem T3{p:List Tm}{all:List (List XP)}(hp:∀u∈p,Cl Q 1 B u.1/\Zz u.2 all.length<=D)(ha:∀v,v<all.length->Mg Q al be 1 B (el all v)/\(el all v).length=n+1)(c:n+1<=L):∀j,j<=p.length->Mg Q al be (1+D) (B+D*(B+L)+j) (Vw (p.take j) all n):=by
 intro j
 induction j with
 |zero=>intro _;exact(yy h0 (b:=0) (.zero 1 0)).mono h0 O O
 |succ j ih =>
  intro a;have hu:=hp _ (Qw a);rw[P8 a];have h1:=zZ h0 (ks:=(el p j).2) hu.1 ha c all.length (aa _);have h2:Zz (el p j).2 all.length*(B+L)<=D*(B+L):=ae _ hu.2;exact dC h0 (ih O) (h1.mono h0 (b':=B+D*(B+L)+j) O O) (by rw[KI,Kf];exact aa _)
theorem Mg.Ux(h:Mg Q al be d b a)(c:a.length<=n+1){M:Nat}(f:be*n+b+(al*n+d)*sz (Q:Int)+2<=M):∀x∈a,Xf x M:=λx hx=>by
 obtain⟨k,hk,rfl⟩:=aq hx;rw[<-Jb hk];have h1:=KA.Ux h0 (h k hk);have h2:be*k<=be*n:=ag _ O;have h3:(al*k+d)*sz (Q:Int)<=(al*n+d)*sz (Q:Int):=ae _ (by have:al*k<=al*n:=ag _ O;omega);exact h1.mono O
end
structure jN(Q B D T n:Nat)(rs:List (List Tm))(t:XP)(vb:List XP):Prop where
 q0:0<Q
 inv:∀k,k<n->Cl Q 1 0 ((((k+1:Nat):Int):Rat)⁻¹)
 N4:∀i,i<rs.length->∀u∈el rs i,Cl Q 1 B u.1/\Zz u.2 (vb.length+1)<=D/\u.2.length=vb.length+1/\∀k∈u.2,0<=k/\k<=1000
 len:∀i,i<rs.length->(el rs i).length<=T
 tm:KA Q 1 B t
 box:∀x∈vb,KA Q 1 B x
 hn:rs.length=vb.length
def W4{rs:List (List Tm)}{t:XP}(k:Nat):(KC t k::J1 rs t vb k).length=vb.length+1:=by rw[aE,WV]
theorem Tv{rs:List (List Tm)}{t:XP}(h:jN Q B D T n rs t vb):∀k,k<=n->∀i,i<vb.length->Mg Q (D+1) (D*(B+(n+1))+T) 1 B (el (J1 rs t vb k) i):=by
 intro k
 induction k with
 |zero =>
  intro _ i hi;have m:el (J1 rs t vb 0) i=[el vb i]:=by
   show el (vb.map λx=>[x]) i=_;rw[Jb (by rw[ab];exact hi),aZ,Jb hi]
  rw[m];intro j b;have l:j=0:=by simpa using b
  subst l;rw[aF,ar,aF,ar];exact h.box _ (Qw hi)
 |succ k ih =>
  intro hk i hi;have ih:=ih O;have m:el (J1 rs t vb (k+1)) i=el (J1 rs t vb k) i++[Jg (el (Vw (el rs i) (KC t k::J1 rs t vb k) k) k) ((((k+1:Nat):Int):Rat)⁻¹,(((k+1:Nat):Int):Rat)⁻¹)]:=by
   rw[J1,VR _ hi]
  have o:(el (J1 rs t vb k) i).length=k+1:=VO rs t vb k hi;have ha:∀v,v<(KC t k::J1 rs t vb k).length->Mg Q (D+1) (D*(B+(n+1))+T) 1 B (el (KC t k::J1 rs t vb k) v)/\(el (KC t k::J1 rs t vb k) v).length=k+1:=λv c=>by
   rw[W4]at c
   match v,c with
   |0,_=>exact⟨y8 h.q0 h.tm,En t k⟩
   |v+1,c=>exact⟨ih v O,VO rs t vb k O⟩
  rw[m];intro j b;rw[aO,o]at b;rcases bY j (k+1)with g | g
  ·rw[Uf O];exact ih i hi j O
  have f:j=k+1:=by simp at b;omega
  subst f;rw[G5 o];have a:i<rs.length:=by rw[h.hn];exact hi
  have h1:=T3 h.q0 (L:=n+1) (D:=D) (p:=el rs i) (λu hu=>⟨(h.N4 i a u hu).1,by rw[W4];exact(h.N4 i a u hu).2.1⟩) ha O (el rs i).length (aa _);rw[au]at h1;have h2:=h1 k (by rw[KI];omega);have s:=h.len i a;have h3:=KA.times h.q0 h2 (y:=((((k+1:Nat):Int):Rat)⁻¹,(((k+1:Nat):Int):Rat)⁻¹)) ⟨h.inv k O,h.inv k O⟩;refine h3.mono h.q0 ?_ ?_
  ·rw[aS];omega
  rw[aS];omega
def Um{rs:List (List Tm)}{t:XP}(h:jN Q B D T n rs t vb){k:Nat}(hk:k<=n):∀v,v<(KC t k::J1 rs t vb k).length->Mg Q (D+1) (D*(B+(n+1))+T) 1 B (el (KC t k::J1 rs t vb k) v)/\(el (KC t k::J1 rs t vb k) v).length=k+1:=λv a=>by
 rw[W4]at a
 match v,a with
 |0,_=>exact⟨y8 h.q0 h.tm,En t k⟩
 |v+1,a=>exact⟨Tv h k hk v O,VO rs t vb k O⟩
def tyM(Q B D T n:Nat):Nat:=(D*(B+(n+1))+T)*n+(2*B+D*(B+(n+1))+T+n+1)+((D+1)*n+(D+2))*sz (Q:Int)+2
theorem jN.ok{rs:List (List Tm)}{t:XP}(h:jN Q B D T n rs t vb)(z:tyM Q B D T n<=20000000):Uo rs t vb n:=by
 unfold tyM at z;have hq:∀u w:Nat,u<=w->u*sz (Q:Int)<=w*sz (Q:Int):=λu w g=>ae _ g;have hm:∀k,k<n->∀i,i<rs.length->∀u∈el rs i,∀v,v<=vb.length+1->Mg Q (D+1) (D*(B+(n+1))+T) (1+Zz u.2 v) (B+Zz u.2 v*(B+(n+1))) (B4 u.1 u.2 (KC t k::J1 rs t vb k) k v):=λk hk i hi u hu v a =>
  zZ h.q0 (L:=n+1) (h.N4 i hi u hu).1 (Um h O) O v (by rw[W4];exact a)
 have l:∀i,i<rs.length->∀u∈el rs i,∀v,v<=vb.length+1->Zz u.2 v<=D/\Zz u.2 v*(B+(n+1))<=D*(B+(n+1)):=λi hi u hu v a=>by
  have h1:=af (Dl u.2 a) (h.N4 i hi u hu).2.1;exact⟨h1,ae _ h1⟩
 refine⟨λk hk i hi u hu=>⟨⟨by rw[W4];exact(h.N4 i hi u hu).2.2.1,(h.N4 i hi u hu).2.2.2⟩,λv a j s=>?_⟩,λk hk i hi u hu=>?_,λk hk i hi j=>?_,λk hk i hi=>?_⟩
 ·rw[(h.N4 i hi u hu).2.2.1]at a;have h1:=hm k hk i hi u hu v O;have h2:=Um h (k:=k) O v (by rw[W4];exact a);have h3:=xk h.q0 (L:=n+1) h1 h2.1 (by rw[Kf,h2.2];exact aa _) (by rw[Kf];omega) j;have h4:=l i hi u hu (v+1) a;have h5:Zz u.2 v+j<=Zz u.2 (v+1):=by show _<=Zz u.2 v+_;omega
  have h6:Zz u.2 v*(B+(n+1))+j*(B+(n+1))<=D*(B+(n+1)):=by rw[<-aA];exact ae _ O
  have h7:=h3.mono h.q0 (d':=1+D) (b':=B+D*(B+(n+1))) O O;have o:(NW (B4 u.1 u.2 (KC t k::J1 rs t vb k) k v) (el (KC t k::J1 rs t vb k) v) j).length=k+1:=by rw[BA,Kf]
  have c:=hq ((D+1)*n+(1+D)) ((D+1)*n+(D+2)) O;have C:=hq ((D+1)*n+1) ((D+1)*n+(D+2)) O;have A:=hq ((D+1)*n+(1+D+1)) ((D+1)*n+(D+2)) O;refine⟨λm b=>⟨?_,?_⟩,λm b x f=>?_⟩
  ·exact h7.Ux h.q0 (n:=n) O O _ (Qw b)
  ·exact h2.1.Ux h.q0 (n:=n) O O _ (Qw O)
  have h8:=KA.Ux h.q0 (CU h.q0 h7 h2.1 b O x f);refine h8.mono ?_;have F:(D*(B+(n+1))+T)*m<=(D*(B+(n+1))+T)*n:=ag _ O;have E:((D+1)*m+(1+D+1))*sz (Q:Int)<=((D+1)*n+(1+D+1))*sz (Q:Int):=hq _ _ (by have:(D+1)*m<=(D+1)*n:=ag _ O;omega);omega
 ·have h1:=hm k hk i hi u hu (vb.length+1) (aa _);have h4:=l i hi u hu (vb.length+1) (aa _);have c:=hq ((D+1)*n+(1+D)) ((D+1)*n+(D+2)) O;exact(h1.mono h.q0 (d':=1+D) (b':=B+D*(B+(n+1))) O O).Ux h.q0 (n:=n) (by rw[Kf];omega) O
 ·have c:=hq ((D+1)*n+(1+D)) ((D+1)*n+(D+2)) O;have y:=h.len i hi;have s:(el rs i).take j=(el rs i).take (min j (el rs i).length):=by rw[bH]
  rw[s];have h1:=T3 h.q0 (L:=n+1) (D:=D) (p:=el rs i) (n:=k) (λu hu=>⟨(h.N4 i hi u hu).1,by rw[W4];exact(h.N4 i hi u hu).2.1⟩) (Um h O) O (min j (el rs i).length) (aQ _ _);exact h1.Ux h.q0 (n:=n) (by rw[KI];omega) (tD<|aQ j (el rs i).length)
 have c:=hq ((D+1)*n+(1+D)) ((D+1)*n+(D+2)) O;have y:=h.len i hi;have h1:=T3 h.q0 (L:=n+1) (D:=D) (p:=el rs i) (n:=k) (λu hu=>⟨(h.N4 i hi u hu).1,by rw[W4];exact(h.N4 i hi u hu).2.1⟩) (Um h O) O (el rs i).length (aa _);rw[au]at h1;exact h1.Ux h.q0 (n:=n) (by rw[KI];omega) O _ (Qw (by rw[KI];omega))
def uc:JW 0<=2:=tF
theorem Al{a:Rat×Rat}{n:Int}(ha:Xf a m):Xf (Y5 a n) (n.toNat*m+1):=by
 have h1:JW (a.1^n.toNat)<=n.toNat*m+1:=af (VP _ _) (bL (ag _ ha.1) _);have h2:JW (a.2^n.toNat)<=n.toNat*m+1:=af (VP _ _) (bL (ag _ ha.2) _);have h3:=Dt (r:=a.1^n.toNat) (l:=[a.2^n.toNat]) h1 (λx hx=>by rw[List.mem_singleton.1 hx];exact h2);refine⟨?_,h3.2⟩;unfold Y5;dsimp only;split
 ·exact af (show JW 0<=1 by decide) (bz _ _)
 exact h3.1
structure ke(Z D T m:Nat)(p:List Tm):Prop where
 len:p.length<=T
 N4:∀u∈p,JW u.1<=Z
 sum:∀u∈p,Zz u.2 m<=D
 pl:∀u∈p,u.2.length=m
 pw:∀u∈p,∀k∈u.2,0<=k/\k<=12
theorem Cm{p:List Tm}(h:ke Z D T m p)(hb:bs.length=m)(hS:∀x∈bs,Xf x S){u:Tm}(hu:u∈p):∀i,i<=m->Xf (VT (u.1,u.1) bs u.2 i) (Z+Zz u.2 i*(S+1)):=by
 intro i
 induction i with
 |zero=>intro _;show Xf (u.1,u.1) (Z+0*(S+1));exact⟨af (h.N4 u hu) O,af (h.N4 u hu) O⟩
 |succ i ih =>
  intro hi;have ih:=ih O;rw[Wp];show Xf _ (Z+(Zz u.2 i+(Qm u.2 i).toNat)*(S+1));rw[aA];split
  ·rename_i hg;have h1:=Al (n:=Qm u.2 i) (hS _ (Qw (show i<bs.length by omega)));have h2:=K7 ih h1;refine h2.mono ?_;have h3:1<=(Qm u.2 i).toNat:=O;rw[aS (Qm u.2 i).toNat];omega
  exact ih.mono O
def Ii{p:List Tm}(h:ke Z D T m p)(hb:bs.length=m)(a:∀x∈bs,Xf x S):∀k,k<=p.length->Xf (J3 bs (p.take k)) (2+k*(Z+D*(S+1)+2)):=by
 intro k
 induction k with
 |zero=>intro _;exact⟨af uc (ba _ _),af uc (ba _ _)⟩
 |succ k ih =>
  intro hk;have ih:=ih O;have hu:=Qw (show k<p.length by omega);have h1:=Cm h hb a hu (el p k).2.length (by rw[h.pl _ hu];exact aa _);have h2:Zz (el p k).2 (el p k).2.length*(S+1)<=D*(S+1):=ae _ (by rw[h.pl _ hu];exact h.sum _ hu);rw[MU hk];have h3:=Kz (J3 bs (p.take k)).1 (VT ((el p k).1,(el p k).1) bs (el p k).2 (el p k).2.length).1;have h4:=Kz (J3 bs (p.take k)).2 (VT ((el p k).1,(el p k).1) bs (el p k).2 (el p k).2.length).2;rw[aA];exact⟨by show JW (_+_)<=_;have:=ih.1;have:=h1.1;omega,by show JW (_+_)<=_;have:=ih.2;have:=h1.2;omega⟩
def CO(Z D T S:Nat):Nat:=2+T*(Z+D*(S+1)+2)
def Wf{p:List Tm}(h:ke Z D T m p)(hb:bs.length=m)(a:∀x∈bs,Xf x S):Xf (J3 bs p) (CO Z D T S):=by
 have h1:=Ii h hb a p.length (aa _);rw[au]at h1;have h2:p.length*(Z+D*(S+1)+2)<=T*(Z+D*(S+1)+2):=ae _ h.len;exact h1.mono (by unfold CO;omega)
def jW(ks:List Int){j m:Nat}(h:j<m):(Qm ks j).toNat<=Zz ks m:=af (show _<=Zz ks (j+1)from bz _ _) (Dl ks h)
theorem Bn{p:List Tm}(h:ke Z D T m p)(hb:bs.length=m)(hm:m<=1000)(a:∀x∈bs,Xf x S)(b:S<=1000000)(c:Z<=1000000)(f:CO Z D T S<=10000000)(g:Z+D*(S+1)+1<=10000000):OL bs p:=by
 refine⟨λx hx=>(a x hx).mono b,λu hu=>af (h.N4 u hu) c,λu hu=>⟨by rw[h.pl u hu,hb];exact aa _,by rw[h.pl u hu];exact hm,h.pw u hu⟩,λu hu i hi=>?_,λu hu i hi=>?_,λk=>?_⟩
 ·rw[h.pl u hu]at hi;have h1:=Cm h hb a hu i hi;have h2:Zz u.2 i*(S+1)<=D*(S+1):=ae _ (af (Dl u.2 hi) (h.sum u hu));exact h1.mono O
 ·rw[h.pl u hu]at hi;have h1:=Al (n:=Qm u.2 i) (a _ (Qw (show i<bs.length by omega)));have h2:(Qm u.2 i).toNat*S<=D*(S+1):=bW (af (jW u.2 hi) (h.sum u hu)) O;exact h1.mono O
 rw[bH];have h1:=Ii h hb a (min k p.length) (aQ _ _);have h2:min k p.length*(Z+D*(S+1)+2)<=T*(Z+D*(S+1)+2):=ae _ (af (aQ _ _) h.len);unfold CO at f;exact h1.mono O
def zY{rs:List (List Tm)}(h:i<x.length):el (YP rs fr t2 x on) i=Vz (el x i) (Jg (0,t2-fr) (J3 ((fr,t2)::on) (el rs i))):=by unfold YP;rw[VR _ h]
structure MvC(Z D T m St:Nat)(rs:List (List Tm))(fr t2:Rat):Prop where
 po:∀i,i<rs.length->ke Z D T (m+1) (el rs i)
 hn:rs.length=m
 f:JW fr<=St
 t:JW t2<=St
theorem Lk{St X:Nat}{rs:List (List Tm)}(h:MvC Z D T m St rs fr t2)(hx:x.length=m)(g:on.length=m)(j:∀v∈x,Xf v X)(k:∀v∈on,Xf v S)(a:St<=S):∀v∈YP rs fr t2 x on,Xf v (X+(2*St+1+CO Z D T S)+1):=λv c=>by
 obtain⟨i,hi,rfl⟩:=aq c;rw[Z3]at hi;rw[<-Jb (by rw[Z3];exact hi),zY hi];have b:i<rs.length:=by rw[h.hn];omega
 have h1:=Wf (h.po i b) (bs:=(fr,t2)::on) (by rw[aE,g]) (λy hy=>by
  rcases List.mem_cons.1 hy with rfl | hy
  ·exact⟨af h.f a,af h.t a⟩
  exact k y hy)
 have h2:=BX t2 fr;have l:=h.f;have ht:=h.t;have h3:Xf ((0:Rat),t2-fr) (2*St+1):=⟨af (show JW 0<=1 by decide) (bz _ _),by show JW (t2-fr)<=_;omega⟩;have h4:=K7 h3 h1;have h5:=j _ (Qw hi);have h6:=Kz (el x i).1 (Jg (0,t2-fr) (J3 ((fr,t2)::on) (el rs i))).1;have h7:=Kz (el x i).2 (Jg (0,t2-fr) (J3 ((fr,t2)::on) (el rs i))).2;exact⟨by show JW (_+_)<=_;have:=h4.1;have:=h5.1;omega,by show JW (_+_)<=_;have:=h4.2;have:=h5.2;omega⟩
theorem UC{St X:Nat}{rs:List (List Tm)}(h:MvC Z D T m St rs fr t2)(hx:x.length=m)(j:on.length=m)(n:∀v∈x,Xf v X)(o:∀v∈on,Xf v S)(b:St<=S)(hm:m<=900)(g:S<=1000000)(c:X<=10000000)(l:Z<=1000000)(k:CO Z D T S<=10000000)(s:Z+D*(S+1)+1<=10000000):kT rs fr t2 x on:=by
 have hb:∀y∈(fr,t2)::on,Xf y S:=λy hy=>by
  rcases List.mem_cons.1 hy with rfl | hy
  ·exact⟨af h.f b,af h.t b⟩
  exact o y hy
 exact⟨λi hi=>Bn (h.po i hi) (by rw[aE,j]) O hb g l k s,λi hi=>(Wf (h.po i hi) (by rw[aE,j]) hb).mono k,⟨af h.f O,af h.t O⟩,λa ha=>(n a ha).mono c⟩
def gC{St X:Nat}{rs:List (List Tm)}(h:MvC Z D T m St rs fr t2)(hx:x.length=m)(c:∀v∈x,Xf v X)(f:St<=X)(b:St<=2400)(hm:m<=900)(k:X<=900000)(o:Z<=900000)(s:CO Z D T X<=900000)(l:CO Z D T 2400<=900000)(n:Z+D*(X+1)+1<=10000000)(i:Z+D*(2400+1)+1<=10000000):OD rs fr t2 x:=by
 refine⟨λa ha=>(c a ha).mono O,UC h hx hx c c f hm O O O O n,λa ha=>(Lk h hx hx c c f a ha).mono O,λv j g=>UC h hx O c g b hm O O O O i,λv j g a ha=>(Lk h hx O c g b a ha).mono O⟩
theorem Uo.less{rs:List (List Tm)}{t:Rat×Rat}{vb:List (Rat×Rat)}(h:Uo rs t vb n)(hm:m<=n):Uo rs t vb m :=
 ⟨λk hk=>h.tm k O,λk hk=>h.mn k O,λk hk=>h.sm k O,λk hk=>h.cf k O⟩
def Cl.pow{b:Nat}{x:Rat}(h0:0<Q)(h:Cl Q 1 b x):∀k,Cl Q k (k*b) (x^k)
 |0=>by rw[Rat.pow_zero,bD];exact .one 0 0 h0
 |k+1=>by
  rw[Rat.pow_succ,aA,ee];exact(Cl.pow h0 h k).mul h0 h
def KA.pt{d b:Nat}{x:Rat}(h:Cl Q d b x):KA Q d b (x,x):=⟨h,h⟩
def bE(B D T n:Nat):Nat:=D*(B+(n+1+1))+T+(B+1)
def xB{rs:List (List Tm)}{h:Rat}(hc:jN Q B D T (n+1) rs (fr,fr) x)(a:Cl Q 1 (B+1) h){i:Nat}(hi:i<x.length):∀k,k<=n+1->KA Q ((D+2)*n+1) (bE B D T n*n+B+k) (B0 (el (J1 rs (fr,fr) x n) i) h k):=by
 intro k
 induction k with
 |zero=>intro _;exact KA.zero hc.q0
 |succ k ih =>
  intro hk;have ih:=ih O;have h1:=Tv hc n O i hi k (by rw[VO rs _ x n hi];exact hk);have h2:=KA.times hc.q0 h1 (.pt (a.pow hc.q0 k));rw[MB];refine KA.add hc.q0 ih (h2.mono hc.q0 (e:=(D+2)*n+1) (c:=bE B D T n*n+B+k) ?_ ?_)
  ·have e:(D+1)*k+1+k=(D+2)*k+1:=by rw[show D+2=D+1+1 from rfl,aA (D+1) 1];omega
   rw[e];have:(D+2)*k<=(D+2)*n:=ag _ O;omega
  have e:(D*(B+(n+1+1))+T)*k+B+k*(B+1)=bE B D T n*k+B:=by unfold bE;rw[aA (D*(B+(n+1+1))+T),bF k];omega
  have:bE B D T n*k<=bE B D T n*n:=ag _ O;show(D*(B+(n+1+1))+T)*k+B+k*(B+1)<=_;omega
def kf(D n:Nat):Nat:=(D+2)*(n+1)+1
def j3(B D T n:Nat):Nat:=bE B D T n*(n+1)+B+(n+1)
def dz{rs:List (List Tm)}{t:Rat×Rat}{h:Rat}(hc:jN Q B D T (n+1) rs t on)(a:Cl Q 1 (B+1) h){i:Nat}(hi:i<on.length):KA Q (kf D n) (j3 B D T n) (Jg (el (el (J1 rs t on (n+1)) i) (n+1)) (h^(n+1),h^(n+1))):=by
 have h1:=Tv hc (n+1) (aa _) i hi (n+1) (by rw[VO rs _ on (n+1) hi];omega);have h2:=KA.times hc.q0 h1 (.pt (a.pow hc.q0 (n+1)));refine h2.mono hc.q0 ?_ ?_
 ·unfold kf;rw[show D+2=D+1+1 from rfl,aA (D+1) 1];omega
 unfold j3 bE;rw[aA (D*(B+(n+1+1))+T),bF (n+1) (B+1)];omega
def jz{rs:List (List Tm)}(h:i<x.length):el (Yc rs fr t2 x on n) i=Vz (B0 (el (J1 rs (fr,fr) x n) i) (t2-fr) (n+1)) (Jg (el (el (J1 rs (fr,t2) on (n+1)) i) (n+1)) ((t2-fr)^(n+1),(t2-fr)^(n+1))):=by unfold Yc;rw[VR _ h]
theorem j0{rs:List (List Tm)}(hx:jN Q B D T (n+1) rs (fr,fr) x)(f:jN Q B D T (n+1) rs (fr,t2) on)(b:Cl Q 1 (B+1) (t2-fr))(g:on.length=x.length):∀s∈Yc rs fr t2 x on n,KA Q (kf D n) (j3 B D T n+1) s:=λs c=>by
 have a:(Yc rs fr t2 x on n).length=x.length:=by simp[Yc]
 obtain⟨i,hi,rfl⟩:=aq c;rw[<-Jb hi];rw[a]at hi;rw[jz hi];have h1:=xB hx b hi (n+1) (aa _);have h2:=dz f b (i:=i) O;refine KA.add hx.q0 (h1.mono hx.q0 ?_ ?_) h2
 ·unfold kf;rw[aS];omega
 unfold j3;rw[aS];omega
def I9(Q B D T n:Nat):Nat:=j3 B D T n+1+kf D n*sz (Q:Int)+2
theorem OT{Q:Nat}{rs:List (List Tm)}(hx:jN Q B D T (n+1) rs (fr,fr) x)(c:jN Q B D T (n+1) rs (fr,t2) on)(f:Cl Q 1 (B+1) (t2-fr))(l:on.length=x.length)(o:tyM Q B D T (n+1)<=10000000)(h:I9 Q B D T n<=10000000)(A:B+sz (Q:Int)<=900000):kO rs fr t2 x on n/\∀s∈Yc rs fr t2 x on n,Xf s 10000000:=by
 have j:=o;unfold tyM at j;have a:=hx.q0;have z:((D+1)*(n+1)+1)*sz (Q:Int)<=((D+1)*(n+1)+(D+2))*sz (Q:Int):=ae _ O;have b:∀(t:Rat×Rat) (y:List (Rat×Rat)),jN Q B D T (n+1) rs t y->∀m,m<=n+1->∀i,i<y.length->∀k,k<=m->Xf (el (el (J1 rs t y m) i) k) 10000000:=λt y hy m hm i hi k hk =>
  (Tv hy m hm i hi).Ux a (n:=n+1) (by rw[VO rs _ y m hi];omega) O _ (Qw (by rw[VO rs _ y m hi];omega))
 refine⟨⟨(hx.ok O).less O,c.ok O,λi hi k hk=>b _ x hx n O i hi k hk,λi hi=>b _ on c (n+1) (aa _) i O (n+1) (aa _),λi hi k hk=>?_,λk hk=>?_,?_,?_⟩,λs g=>?_⟩
 ·have h1:=(xB hx f hi k hk).Ux a;refine h1.mono ?_;unfold I9 j3 kf at h;have w:bE B D T n*n<=bE B D T n*(n+1):=ag _ O;have u:((D+2)*n+1)*sz (Q:Int)<=((D+2)*(n+1)+1)*sz (Q:Int):=ae _ (by have:(D+2)*n<=(D+2)*(n+1):=ag _ O;omega);omega
 ·have h1:=(f.pow a k).JW a;unfold I9 j3 kf bE at h;have w:k*(B+1)<=(D*(B+(n+1+1))+T+(B+1))*(n+1):=by rw[bF k];exact bW O hk
  have u:k*sz (Q:Int)<=((D+2)*(n+1)+1)*sz (Q:Int):=ae _ (by rw[aA];omega);omega
 ·have h1:=f.JW a;omega
 ·have h1:=hx.tm.1.JW a;have h2:=c.tm.2.JW a;dsimp only at h1 h2;exact⟨O,O⟩
 have h1:=(j0 hx c f l s g).Ux a;refine h1.mono ?_;unfold I9 at h;omega
theorem FV(a b:XP):Lt a b=true↔b.1<=a.1/\a.2<=b.2:=by
 unfold Lt;rw[ai,decide_eq_true_eq,decide_eq_true_eq];have h:∀x y:Rat,Yw x y<=0↔x<=y:=λx y=>by unfold Yw;split<;>(try split)<;>grind
 rw[h,h]
def N0(a b:List XP):Ir a b=true↔∀i,i<a.length->(el b i).1<=(el a i).1/\(el a i).2<=(el b i).2:=by
 unfold Ir;rw[ak];exact⟨λh i hi=>(FV _ _).1 (h i (List.mem_range.2 hi)),λh i hi=>(FV _ _).2 (h i (List.mem_range.1 hi))⟩
theorem pI{a b c:List XP}(h:NT a b)(k:Ir b c=true):Ir a c=true:=by
 rw[N0]at k ⊢;intro i hi;obtain⟨h1,h2,h3⟩:=h.2 i hi;obtain⟨f,k2⟩:=k i (h.1 ▸ hi);exact⟨ay f h1,ay h3 k2⟩
def M8{x y:Rat}(h:x<=y)(i:Nat):YL x i<=YL y i:=by
 have hp:=Fe i;unfold YL;refine ah ?_ (aN hp);refine Rat.intCast_le_intCast.2 (aW ?_);rw[bc,bc];exact ah h (aN (Rat.inv_pos.2 hp))
def S7(a:XP)(b:Int):Z7 (Z7 a b) b=Z7 a b:=by
 rw[RI,RI];dsimp only;rw[Rat.neg_neg];unfold YL;rw[Az,Az,aP,aP]
theorem zO{a:XP}(h:a.1<=a.2)(b:Int):Yd a (Z7 a b):=by
 rw[RI];have h1:=(Db a.1 b.toNat).1;have h2:=(TZ a.2 b.toNat).1;exact⟨by show YL _ _<=_;grind,h,by show _<=-YL _ _;grind⟩
theorem S6{a c:XP}(h:Yd a c)(b:Int):Yd (Z7 a b) (Z7 c b):=by
 rw[RI,RI];obtain⟨h1,h2,h3⟩:=h;refine⟨M8 h1 _,QBS h2 _,?_⟩;have:=M8 (show -c.2<=-a.2 by grind) b.toNat;show -YL _ _<=-YL _ _
 grind
def Nv(l:List XP):Prop:=∀i,i<l.length->(el l i).1<=(el l i).2
theorem Nv.sub{l:List XP}(h:Nv l):NT l l:=⟨rfl,λi hi=>Yd.self (h i hi)⟩
theorem NT.ord{a b:List XP}(h:NT a b):Nv a:=λi hi=>(h.2 i hi).2.1
def BG(rs:List (List Tm))(fr t2:Rat)(x on:List XP):(YP rs fr t2 x on).length=x.length:=by simp[YP]
def GW(f:XP->XP->XP)(a b:List XP):(DJ f a b).length=a.length:=by simp[DJ]
def Ee(f:XP->XP->XP)(a b:List XP){i:Nat}(h:i<a.length):el (DJ f a b) i=f (el a i) (el b i):=by unfold DJ;rw[VR _ h]
def Ed{β:Type}[Inhabited α][Inhabited β](f:α->β){l:List α}{i:Nat}(h:i<l.length):el (l.map f) i=f (el l i):=by
 rw[Jb (by simpa using h),Jb h,aZ]
def yW(rs:List (List Tm))(n:Nat):Prop:=∀i,i<n->∀t∈el rs i,t.2.length<=n+1/\∀k∈t.2,0<=k
theorem TE{rs:List (List Tm)}{x on a:List XP}(hx:Nv x)(b:NT on a)(c:on.length=x.length)(ht:fr<=t2)(hr:yW rs x.length):NT (YP rs fr t2 x on) (YP rs fr t2 x a):=by
 unfold YP;refine NT.of λi hi=>uG (Yd.self (hx i hi)) (Se (Yd.self (by show(0:Rat)<=t2-fr;grind)) ?_);exact TO (rs:=(fr,t2)::on) (bs:=(fr,t2)::a) (by simpa[c]using hr i hi) λj f=>by
  cases j with
  |zero=>exact Yd.self ht
  |succ j=>exact b.2 j (by simpa using f)
theorem FX{a b:XP}(h:a.1<=a.2):(XC a b).1<=a.1/\a.2<=(XC a b).2/\(XC a b).1<=b.1/\b.2<=(XC a b).2:=by
 have c:∀x y:Rat,Yw x y<=0↔x<=y:=λx y=>by unfold Yw;split<;>(try split)<;>grind
 have c2:∀x y:Rat,Yw x y>=0↔y<=x:=λx y=>by unfold Yw;split<;>(try split)<;>grind
 unfold XC Dv Gx;dsimp only;simp only[c,c2];refine⟨?_,?_,?_,?_⟩<;>(split<;>grind)
def onG(l:List XP)(b:Int):Prop:=Nv l/\∀i,i<l.length->Z7 (el l i) b=el l i
def RJ{a:XP}(h:a.1<=a.2)(b:Int):(Z7 a b).1<=(Z7 a b).2:=(S6 (Yd.self h) b).2.1
def AI(b:Int):0<=(((two b:Int):Rat))⁻¹:=aN (Rat.inv_pos.2 (by
 have:0<two b:=bP tF;exact Rat.intCast_lt_intCast.2 this))
theorem jo{v n:XP}(h:v.1<=v.2):(SM b v n).1<=(SM b v n).2:=by
 unfold SM;refine RJ ?_ b;dsimp only;have h1:=FX (a:=v) (b:=n) h;have h2:=AI b;have h3:0<=((XC v n).2-(XC v n).1)*aC 1 4:=Rat.mul_nonneg (by grind) tG
 grind
theorem AL{rs:List (List Tm)}{x W:List XP}(hx:Nv x)(ht:fr<=t2)(hr:yW rs x.length):∀(k:Nat) (v:List XP),v.length=x.length->onG v b->D1 rs fr t2 x b k v=some W ->
  ∃v,v.length=x.length/\onG v b/\Jx v=false/\NT W v/\Ir (YP rs fr t2 x W) W=true
 |0,_,_,_,h=>by simp[D1]at h
 |k+1,v,a,f,h=>by
  unfold D1 at h;by_cases h1:Jx v=true
  ·rw[if_pos h1]at h;cases h
  rw[if_neg h1]at h;by_cases h2:Ir (YP rs fr t2 x v) v=true
  ·rw[if_pos h2]at h;obtain rfl:(YP rs fr t2 x v).map (Z7 · b)=W:=by simpa using h
   have g:=TE hx f.1.sub a ht hr;have c:NT ((YP rs fr t2 x v).map (Z7 · b)) v:=⟨by rw[ab,BG,a],λi hi=>by
    rw[ab]at hi;rw[Ed _ hi];rw[N0]at h2;obtain⟨j,k2⟩:=h2 i hi;have:=S6 (b:=b) (show Yd (el (YP rs fr t2 x v) i) (el v i)from⟨j,g.ord i hi,k2⟩)
    rwa [f.2 i (by rw[a,<-BG rs fr t2 x v];exact hi)]at this⟩
   refine⟨v,a,f,by simpa using h1,c,?_⟩;have h3:=TE hx c (by rw[ab,BG]) ht hr;refine pI h3 ((N0 _ _).2 λi hi=>?_);rw[Ed _ hi];have:=zO (g.ord i hi) b;exact⟨this.1,this.2.2⟩
  rw[if_neg h2]at h;refine AL hx ht hr k _ (by rw[GW,a]) ⟨λi hi=>?_,λi hi=>?_⟩ h
  ·rw[GW]at hi;rw[Ee _ _ _ hi];exact jo (f.1 i hi)
  rw[GW]at hi;rw[Ee _ _ _ hi];unfold SM;exact S7 _ _
theorem zF{rs:List (List Tm)}{x W:List XP}(hx:Nv x)(ht:fr<=t2)(hr:yW rs x.length)(h:Yu rs fr t2 x b=some W):
  ∃v,v.length=x.length/\onG v b/\Jx v=false/\NT W v/\Ir (YP rs fr t2 x W) W=true:=by
 refine AL hx ht hr 12 _ (by rw[GW]) ⟨λi hi=>?_,λi hi=>?_⟩ h
 ·rw[GW]at hi;rw[Ee _ _ _ hi];exact RJ (by have:=FX (b:=el (YP rs fr t2 x x) i) (hx i hi);have:=hx i hi;grind) b
 rw[GW]at hi;rw[Ee _ _ _ hi];exact S7 _ _
def Fk{x:Rat}{c:Int}(h : -(c:Rat)<=x/\x<=(c:Rat)): -c<=x.floor/\x.floor<=c:=by
 have h1:=aW h.2;have h2:=aW h.1;rw[aP]at h1;rw[<-bm,aP]at h2;exact⟨h2,h1⟩
def QBf{Q z:Int}(hq:Q≠0):aC z Q*(Q:Rat)=(z:Rat):=by
 have a:(Q:Rat)≠0:=λh=>hq (Rat.intCast_inj.1 (by simpa using h));rw[bT,bc,bX,Rat.inv_mul_cancel _ a,bZ]
theorem mgQ{Q z c:Int}(hq:0<Q)(h : -(c:Rat)<=aC z Q/\aC z Q<=(c:Rat)): -(c*Q)<=z/\z<=c*Q:=by
 have f:(0:Rat)<=(Q:Rat):=aN ((aR (a:=0) (b:=Q)).2 hq);have h1:=ah h.1 f;have h2:=ah h.2 f;rw[QBf O]at h1 h2;rw[<-bm,<-aJ]at h1;rw[<-aJ]at h2;have g:=Rat.intCast_le_intCast.1 h1;have i:=Rat.intCast_le_intCast.1 h2;rw[ep]at g;exact⟨g,i⟩
theorem zg{Q z c:Int}(hq:0<Q)(h : -(c*Q)<=z/\z<=c*Q): -(c:Rat)<=aC z Q/\aC z Q<=(c:Rat):=by
 have f:(0:Rat)<(Q:Rat):=(aR (a:=0) (b:=Q)).2 hq;have e:∀x:Rat,x=x*(Q:Rat)*(Q:Rat)⁻¹:=λx=>by rw[bX,Rat.mul_inv_cancel _ (by grind),bZ]
 have hi:(0:Rat)<=(Q:Rat)⁻¹:=aN (Rat.inv_pos.2 f);constructor
 ·rw[e (aC z Q),QBf O,e (-(c:Rat))];refine ah ?_ hi;rw[<-bm,<-aJ];exact Rat.intCast_le_intCast.2 (by rw[ep];exact h.1)
 rw[e (aC z Q),QBf O,e (c:Rat)];refine ah ?_ hi;rw[<-aJ];exact Rat.intCast_le_intCast.2 h.2
def FA(k:Nat)(r:Rat):Prop:=-(((2^k:Int)):Rat)<=r/\r<=((2^k:Int):Rat)
def xw(k:Nat):(0:Int)<2^k:=bP tF
theorem Cl.mg{d:Nat}{r:Rat}(h0:0<Q)(h:Cl Q d k r):FA k r:=by
 obtain⟨z,rfl,hz⟩:=h;have hq:0<((Q^d:Nat):Int):=tD (bh (n:=d) h0);refine zg hq ?_;have e:(2^k:Int)*((Q^d:Nat):Int)=((2^k*Q^d:Nat):Int):=by rw[aM,aL 2 k];rfl
 rw[e];omega
theorem Cl.small{d:Nat}{r:Rat}(h0:0<Q)(h:Cl Q 1 d r)(hm:FA k r):Cl Q 1 k r:=by
 obtain⟨z,rfl,hz⟩:=h;have hq:0<((Q^1:Nat):Int):=tD (bh (n:=1) h0);refine⟨z,rfl,?_⟩;have h1:=mgQ hq hm;have e:(2^k:Int)*((Q^1:Nat):Int)=((2^k*Q^1:Nat):Int):=by rw[aM,aL 2 k];rfl
 rw[e]at h1;omega
theorem UD{r:Rat}(h:JW r<=k):FA k r:=by
 have h1:sz r.num<=k:=af (bw _ _) h;rw[XD]at h1;have h2:=zg (Q:=(r.den:Int)) (z:=r.num) (c:=2^k) (tD r.den_pos) (by
  have e:(2^k:Int)=((2^k:Nat):Int):=by rw[aL];rfl
  have h3:(2^k:Int)*1<=2^k*(r.den:Int):=Int.mul_le_mul_of_nonneg_left (tD r.den_pos) (Int.le_of_lt (xw k));rw[e]at h3 ⊢;omega)
 rw[Rat.num_divInt_den]at h2;exact h2
def Gw{a b r:Rat}(ha:FA k a)(hb:FA k b)(h1:a<=r)(h2:r<=b):FA k r:=⟨ay ha.1 h1,ay h2 hb.2⟩
theorem zN{a:Rat×Rat}(h0:0<Q)(hd:2^b.toNat ∣ Q)(h:FA k a.1/\FA k a.2):KA Q 1 k (Z7 a b):=by
 obtain⟨q,rfl⟩:=hd;have hq:0<q:=bS (by rintro rfl;simp at h0);have e:two b=((2^b.toNat:Nat):Int):=by unfold two;rw[aL];rfl
 have l:0<two b:=bP tF;have f:∀p:Int,(-(2^k*two b)<=p/\p<=2^k*two b)->Cl (2^b.toNat*q) 1 k (aC p (two b)):=λp hp=>by
  refine⟨p*q,?_,?_⟩
  ·rw[bj,aM,<-e,bK O]
  rw[bj,Int.natAbs_mul,aX,<-Nat.mul_assoc];refine ae _ ?_;have m:(2:Int)^k*two b=((2^k*2^b.toNat:Nat):Int):=by rw[e,aM,aL 2 k];rfl
  rw[m]at hp;omega
 have g:(0:Rat)<=((two b:Int):Rat):=aN ((aR (a:=0) (b:=two b)).2 l);have mul:∀x:Rat,FA k x->-(((2^k*two b:Int)):Rat)<=x*((two b:Int):Rat)/\x*((two b:Int):Rat)<=((2^k*two b:Int):Rat):=λx hx=>by
  rw[aJ];have i:=ah hx.1 g;have j:=ah hx.2 g;rw[Rat.neg_mul]at i;exact⟨i,j⟩
 refine⟨f _ (Fk (mul _ h.1)),f _ ?_⟩;have:=Fk (c:=2^k*two b) (x:=-(a.2*((two b:Int):Rat))) (by have:=mul _ h.2;constructor<;>grind);omega
def Tp{rs:List (List Tm)}{x:List XP}:∀(k:Nat) (v W:List XP),D1 rs fr t2 x b k v=some W->W.length=x.length/\∀a∈W,∃c,a=Z7 c b
 |0,v,W,h=>by cases h
 |k+1,v,W,h=>by
  unfold D1 at h;by_cases h1:Jx v=true
  ·rw[if_pos h1]at h;cases h
  rw[if_neg h1]at h;by_cases h2:Ir (YP rs fr t2 x v) v=true
  ·rw[if_pos h2]at h;cases h;refine⟨by rw[ab,BG],λa ha=>?_⟩;obtain⟨c,_,rfl⟩:=List.mem_map.1 ha;exact⟨c,rfl⟩
  rw[if_neg h2]at h;exact Tp k _ W h
def QBT(c:Rat×Rat){b:Int}(h0:0<Q)(hd:2^b.toNat ∣ Q):∃k,KA Q 1 k (Z7 c b):=by
 have h1:FA (max (JW c.1) (JW c.2)) c.1:=UD (bw _ _);have h2:FA (max (JW c.1) (JW c.2)) c.2:=UD (Nat.le_max_right _ _);exact⟨_,zN h0 hd ⟨h1,h2⟩⟩
theorem yZ{bs:List XP}{l:List Tm}(a:∀t∈l,t.2.length<=bs.length/\∀k∈t.2,0<=k)(hb:Nv bs):(J3 bs l).1<=(J3 bs l).2 :=
 (TO a λi hi=>Yd.self (hb i hi)).2.1
structure jO(Q Z D T m n:Nat)(b:Int)(rs:List (List Tm)):Prop where
 q0:0<Q
 hb:0<=b/\b<=64
 dy:2^b.toNat ∣ Q
 inv:∀k,k<n+1->Cl Q 1 0 ((((k+1:Nat):Int):Rat)⁻¹)
 po:∀i,i<rs.length->ke Z D T (m+1) (el rs i)
 fd:∀i,i<rs.length->∀u∈el rs i,u.1.den ∣ Q
 hn:rs.length=m
 hm:m<=900
 hZ:Z<=2400
 n1:tyM Q 2400 D T (n+1)<=10000000
 n2:I9 Q 2400 D T n<=850000
 n3:2400+sz (Q:Int)<=800000
 n4:CO Z D T (I9 Q 2400 D T n)<=900000
 n5:Z+D*(I9 Q 2400 D T n+1)+1<=10000000
def ya{a:Nat}(h:S<=a):CO Z D T S<=CO Z D T a:=by
 unfold CO;have h1:D*(S+1)<=D*(a+1):=ag _ O;have h2:T*(Z+D*(S+1)+2)<=T*(Z+D*(a+1)+2):=ag _ O;omega
structure XOk(Q D T m n:Nat)(x:List XP):Prop where
 len:x.length=m
 ord:Nv x
 cl:∀a∈x,KA Q 1 (j3 2400 D T n+1) a
structure TmC(Q:Nat)(t:Rat):Prop where
 cl:Cl Q 1 2400 t
 sz:JW t<=2400
theorem jO.fit{rs:List (List Tm)}(h:jO Q Z D T m n b rs):yW rs m:=λi hi t ht=>by
 have hp:=h.po i (by rw[h.hn];exact hi);exact⟨by rw[hp.pl t ht];exact aa _,λk hk=>(hp.pw t ht k hk).1⟩
theorem jO.ty{rs:List (List Tm)}(h:jO Q Z D T m n b rs){t:XP}{y:List XP}(ht:KA Q 1 2400 t)(c:y.length=m)(hy:∀a∈y,KA Q 1 2400 a):jN Q 2400 D T (n+1) rs t y where
 q0:=h.q0
 inv:=h.inv
 N4:=λi hi u hu=>by
  have hp:=h.po i hi;refine⟨Cl.of u.1 h.q0 (h.fd i hi u hu) (af (af (bw _ _) (hp.N4 u hu)) h.hZ),by rw[c];exact hp.sum u hu,by rw[c];exact hp.pl u hu,λk hk=>⟨(hp.pw u hu k hk).1,tD<|(hp.pw u hu k hk).2⟩⟩
 len:=λi hi=>(h.po i hi).len
 tm:=ht
 box:=hy
 hn:=by rw[h.hn,c]
def QAq(Q B D T n:Nat):B+1+1*sz (Q:Int)+2<=I9 Q B D T n:=by
 unfold I9 j3 kf;have h1:1*sz (Q:Int)<=((D+2)*(n+1)+1)*sz (Q:Int):=ae _ O;omega
theorem dP{rs:List (List Tm)}{x W:List XP}(hx:x.length=m)(l:W.length=m)(hi:i<m)(hr:yW rs m)(c:Nv x)(f:Nv W)(ht:fr<=t2):GR (el x i).1 (el (YP rs fr t2 x W) i)/\GR (el x i).2 (el (YP rs fr t2 x W) i):=by
 rw[zY O];have h:(J3 ((fr,t2)::W) (el rs i)).1<=(J3 ((fr,t2)::W) (el rs i)).2:=yZ (by rw[aE,l];exact hr i hi) λj k=>by
  cases j with
  |zero=>exact ht
  |succ j=>exact f j (by simpa using k)
 have h0:=GO (x:=0) (y:=(J3 ((fr,t2)::W) (el rs i)).1) (a:=(0,t2-fr)) (b:=J3 ((fr,t2)::W) (el rs i)) ⟨bJ,by show(0:Rat)<=t2-fr;grind⟩ ⟨bJ,h⟩;rw[Rat.zero_mul]at h0;have g:=c i O;unfold GR Vz at *
 dsimp only;obtain⟨o,n⟩:=h0;refine⟨⟨?_,?_⟩,?_,?_⟩<;>grind
theorem gF(rs:List (List Tm))(fr t2:Rat)(x on:List XP)(n:Nat):∀s∈Yc rs fr t2 x on n,s.1<=s.2:=λs b=>by
 have a:(Yc rs fr t2 x on n).length=x.length:=by simp[Yc]
 obtain⟨i,hi,rfl⟩:=aq b;rw[<-Jb hi];rw[a]at hi;rw[jz hi];have h1:∀k,(B0 (el (J1 rs (fr,fr) x n) i) (t2-fr) k).1<=(B0 (el (J1 rs (fr,fr) x n) i) (t2-fr) k).2:=by
  intro k
  induction k with
  |zero=>exact bJ
  |succ k ih =>
   rw[MB];have:=MA (el (el (J1 rs (fr,fr) x n) i) k) ((t2-fr)^k,(t2-fr)^k);show _+_<=_+_
   grind
 have h2:=h1 (n+1);have h3:=MA (el (el (J1 rs (fr,t2) on (n+1)) i) (n+1)) ((t2-fr)^(n+1),(t2-fr)^(n+1));show _+_<=_+_
 grind
theorem Nr{rs:List (List Tm)}{x:List XP}(h:jO Q Z D T m n b rs)(hx:XOk Q D T m n x)(z:TmC Q fr)(ht:TmC Q t2)(o:fr<=t2):kR rs fr t2 x n b/\∀p,KR rs fr t2 x n b=some p->XOk Q D T m n p.2:=by
 have hlt:=QAq Q 2400 D T n;have P:MvC Z D T m 2400 rs fr t2:=⟨h.po,h.hn,z.sz,ht.sz⟩;have n1:=h.n1;have n2:=h.n2;have n3:=h.n3;have L:=h.n4;have N:=h.n5;have hZ:=h.hZ;have hm:=h.hm;have hb:=h.hb;have hX:∀v∈x,Xf v (I9 Q 2400 D T n):=λv f=>(KA.Ux h.q0 (hx.cl v f)).mono (by
  unfold I9 kf;have h1:1*sz (Q:Int)<=((D+2)*(n+1)+1)*sz (Q:Int):=ae _ O;omega)
 have hD2:D*(2400+1)<=D*(I9 Q 2400 D T n+1):=ag _ O;have E:OD rs fr t2 x:=gC P hx.len hX O (aa _) hm O O L (af (ya O) L) N O;have A:∀W,Yu rs fr t2 x b=some W->W.length=x.length/\(∀a∈W,KA Q 1 2400 a)/\∀a∈x,KA Q 1 2400 a:=λW j=>by
  obtain⟨v,V,X,C,u,hg⟩:=zF hx.ord o (by rw[hx.len];exact h.fit) j;have y:=(Tp 12 _ W j).1;have G:=(Tp 12 _ W j).2;have F:=DZ (v:=v) (by rw[C];simp);have f:∀i,i<x.length->FA 2400 (el v i).1/\FA 2400 (el v i).2:=λi hi=>by
   have h1:=F _ (Qw (show i<v.length by omega));exact⟨UD h1.1,UD h1.2⟩
  have w:∀i,i<x.length->FA 2400 (el W i).1/\FA 2400 (el W i).2:=λi hi=>by
   have h1:=u.2 i O;have h2:=f i hi;exact⟨Gw h2.1 h2.2 h1.1 (ay h1.2.1 h1.2.2),Gw h2.1 h2.2 (ay h1.1 h1.2.1) h1.2.2⟩
  refine⟨y,λa ha=>?_,λa ha=>?_⟩
  ·obtain⟨c,hc⟩:=G a ha;obtain⟨i,hi,rfl⟩:=aq ha;rw[<-Jb hi]at hc ⊢;have h1:=w i O;obtain⟨k,hk⟩:=QBT c h.q0 h.dy;rw[<-hc]at hk;exact⟨hk.1.small h.q0 h1.1,hk.2.small h.q0 h1.2⟩
  have g:=hx.cl a ha;obtain⟨i,hi,rfl⟩:=aq ha;rw[<-Jb hi]at g ⊢;have h1:=w i hi;have h2:=dP (rs:=rs) (fr:=fr) (t2:=t2) (i:=i) hx.len (y.trans hx.len) (by rw[<-hx.len];exact hi) h.fit hx.ord u.ord o;have h3:=(N0 _ _).1 hg i (by rw[BG];exact hi);unfold GR at h2;have S:FA 2400 (el x i).1:=Gw h1.1 h1.2 (ay h3.1 h2.1.1) (ay h2.1.2 h3.2);have R:FA 2400 (el x i).2:=Gw h1.1 h1.2 (ay h3.1 h2.2.1) (ay h2.2.2 h3.2);exact⟨g.1.small h.q0 S,g.2.small h.q0 R⟩
 have M:Cl Q 1 (2400+1) (t2-fr):=by rw[bR];exact ht.cl.add h.q0 z.cl.neg
 have tb:∀W,Yu rs fr t2 x b=some W->(kO rs fr t2 x W n/\∀s∈Yc rs fr t2 x W n,Xf s 10000000)/\∀s∈Yc rs fr t2 x W n,KA Q (kf D n) (j3 2400 D T n+1) s:=λW j=>by
  obtain⟨B,k2,U⟩:=A W j;have K:=h.ty (t:=(fr,fr)) (.pt z.cl) hx.len U;have H:=h.ty (t:=(fr,t2)) ⟨z.cl,ht.cl⟩ (B.trans hx.len) k2;exact⟨OT K H M B O O O,j0 K H M B⟩
 refine⟨⟨E,λW j=>(tb W j).1⟩,λp hp=>?_⟩;cases f:Yu rs fr t2 x b with
 |none=>rw[Bb f]at hp;cases hp
 |some W =>
  rw[Ba f]at hp;cases hp;have l:(Yc rs fr t2 x W n).length=x.length:=by simp[Yc]
  refine⟨by show((Yc rs fr t2 x W n).map _).length=m;rw[ab,l,hx.len],λi hi=>?_,λa ha=>?_⟩
  ·have hi:i<((Yc rs fr t2 x W n).map (Z7 · b)).length:=hi;rw[ab]at hi;show(el ((Yc rs fr t2 x W n).map (Z7 · b)) i).1<=(el ((Yc rs fr t2 x W n).map (Z7 · b)) i).2;rw[Ed _ hi];exact RJ (gF rs fr t2 x W n _ (Qw hi)) b
  obtain⟨s,Y,rfl⟩:=List.mem_map.1 ha;have h1:=(tb W f).2 s Y;exact zN h.q0 h.dy ⟨h1.1.mg h.q0,h1.2.mg h.q0⟩
def QF1(Q:Nat):Rat->List Rat->Prop
 |_,[]=>True
 |fr,e::es=>(TmC Q e/\fr<=e)/\QF1 Q e es
def OP{rs:List (List Tm)}(h:jO Q Z D T m n b rs):∀(es:List Rat) (fr:Rat) (x:List XP),XOk Q D T m n x->TmC Q fr->QF1 Q fr es->uJ rs n b fr x es
 |[],fr,x,_,_,_=>trivial
 |e::es,fr,x,hx,a,ha=>by
  have h1:=Nr h hx a ha.1.1 ha.1.2;exact⟨h1.1,λp hp=>OP h es e p.2 (h1.2 p hp) ha.1.1 ha.2⟩
structure SmI{α:Type}(a b:List α) where
 i:Nat
 le:i<=a.length
 h:a.take i=b.take i
def SmI.step[Inhabited α]{a b:List α}(s:SmI a b)(h1:s.i<a.length)(h2:s.i<b.length)(e:el a s.i=el b s.i):a.take (s.i+1)=b.take (s.i+1):=by rw[XE h1,XE h2,s.h,e]
def SmI.done{a b:List α}(s:SmI a b)(c:a.length=b.length)(h:s.i=a.length):a=b:=by
 have e:=s.h;rw[h,au,c,au]at e;exact e
instance :Inhabited (List UInt8×List UInt8):=⟨([],[])⟩
theorem Cy{la lb:List (List UInt8×List UInt8)}(u:Fits F w)(ha:Ks F ra la)(hb:Ks F rb lb)(x:ra.n<=1000000):Qf prog 35 [ra.v,rb.v] w F (.bool (decide (la=lb))):=by
 have s:=ha.len;have o:=hb.len;refine QU.intro (G:=λF=>Ks F ra la/\Ks F rb lb) func35 rfl tH rfl rfl u (λF' c=>⟨ha.le c,hb.le c⟩)<|wa<|wZ rfl<|QG<|wb rfl<|QA (Qg rfl XF)<|wW rfl<|QA (Qg rfl XF)<|QA (QT rfl rfl rfl)<|QE<|QC ?_
 refine QQ I (λhc=>?_) λhc=>?_
 ·have h10:=bne_iff_ne.1 hc;refine wA 6 I ?_;exact wg I I (congrArg aH (decide_eq_false λe=>h10 (by rw[<-s,<-o,e]))) tL
 have h10:=bne_eq_false_iff_eq.1 hc;refine wC 9 I<|J9 (ι:=SmI la lb) [(0,_),(1,_)] (λi=>[(5,.int .i64 ((i.i:Nat):Int))]) (λi=>la.length-i.i) (⟨0,aI _,rfl⟩) wm wk λi=>?_
 simp only[aj,ao];have hi:=i.le;refine wA 5 I<|QA (Qg I XF)<|wD 3 I ?_
 refine QQ I (λhc=>?_) λhc=>?_
 ·have b:i.i<la.length:=tD<|wi hc
  have a:i.i<lb.length:=O;refine wC 5 I<|JG we mixed tE<|QK (QD I)<|QK (QD I)<|QK (Q3 (n:=ra.n) i.i (λF h9=>h9.1.row) rfl rfl XF Jd O)<|QK (JZ (n:=ra.n) (vs:=[tx (el la i.i).1,tx (el la i.i).2]) ((i.i)*2) (λF h9=>h9.1.row) O rfl Jd I λj v g=>JN (f:=NU) (l:=la) K1 O g)<|QK (QD I)<|QK (QD I)<|QK (Q3 (n:=rb.n) i.i (λF h9=>h9.2.row) rfl rfl XF Jd O)<|QK (JZ (n:=rb.n) (vs:=[tx (el lb i.i).1,tx (el lb i.i).2]) ((i.i)*2) (λF h9=>h9.2.row) O rfl Jd I λj v g=>JN (f:=NU) (l:=lb) K1 O g)<|QK (xe I I)<|Q7<|QC ?_
  refine QQ I (λhc=>?_) λhc=>?_
  ·have h:¬(el la i.i)=(el lb i.i):=λe=>by rw[e]at hc;simp at hc
   refine wA 6 I ?_
   repeat first|refine Q6 ?_|refine Qv ?_
   exact wg I I (congrArg aH (decide_eq_false λe=>h (congrArg (λl=>el l i.i) e))) tL
  have m:(el la i.i)=(el lb i.i):=by simp at hc;exact Prod.ext hc.1 hc.2
  refine QN<|Qj<|wE 3 I<|QA (Qu I I O)<|wB 2 I ?_
  exact Ql (⟨i.i+1,b,i.step b a m⟩) (by show la.length-(i.i+1)<la.length-i.i;omega) wu we tM
 have k:i.i=la.length:=by have:=wj hc;have:=i.le;omega
 refine Qx ?_
 repeat first|refine QY ?_|refine QO tH ?_
 refine QZ<|wE 7 I ?_
 exact wg I I (congrArg aH (decide_eq_true (i.done O k))) tL
theorem LQ{la lb:List (List UInt8)}(o:Fits F w)(ha:Qy F ra.q ra.n 1 (la.map tx))(hb:Qy F rb.q rb.n 1 (lb.map tx))(m:la.length=ra.n)(k:lb.length=rb.n)(s:ra.n<=1000000):Qf prog 22 [ra.v,rb.v] w F (.bool (decide (la=lb))):=by
 refine QU.intro (G:=λF=>Qy F ra.q ra.n 1 (la.map tx)/\Qy F rb.q rb.n 1 (lb.map tx)) func22 rfl tH rfl rfl o (λF' c=>⟨ha.le c,hb.le c⟩)<|wa<|wZ rfl<|QG<|wb rfl<|QA (Qg rfl YG)<|wW rfl<|QA (Qg rfl YG)<|QA (QT rfl rfl rfl)<|QE<|QC ?_
 refine QQ I (λhc=>?_) λhc=>?_
 ·have h10:=bne_iff_ne.1 hc;refine wA 6 I ?_;exact wg I I (congrArg aH (decide_eq_false λe=>h10 (by rw[<-m,<-k,e]))) tL
 have h10:=bne_eq_false_iff_eq.1 hc;refine wC 9 I<|J9 (ι:=SmI la lb) [(0,_),(1,_)] (λi=>[(5,.int .i64 ((i.i:Nat):Int))]) (λi=>la.length-i.i) (⟨0,aI _,rfl⟩) wm wk λi=>?_
 simp only[aj,ao];have hi:=i.le;refine wA 5 I<|QA (Qg I YG)<|wD 3 I ?_
 refine QQ I (λhc=>?_) λhc=>?_
 ·have b:i.i<la.length:=tD<|wi hc
  have a:i.i<lb.length:=O;refine wC 5 I<|JG we mixed tE<|QK (QD I)<|QK (QD I)<|QK (Q3 (n:=ra.n) i.i tN rfl rfl YG JF O)<|QK (JA (n:=ra.n) ((i.i)*1) tN O rfl JF (XT (f:=tx) (l:=la) O))<|QK (QD I)<|QK (QD I)<|QK (Q3 (n:=rb.n) i.i tO rfl rfl YG JF O)<|QK (JA (n:=rb.n) ((i.i)*1) tO O rfl JF (XT (f:=tx) (l:=lb) O))<|QK (xb I I)<|Q7<|QC ?_
  refine QQ I (λhc=>?_) λhc=>?_
  ·have g:¬(el la i.i)=(el lb i.i):=bne_iff_ne.1 hc;refine wA 6 I ?_
   repeat first|refine Q6 ?_|refine Qv ?_
   exact wg I I (congrArg aH (decide_eq_false λe=>g (congrArg (λl=>el l i.i) e))) tL
  have j:(el la i.i)=(el lb i.i):=bne_eq_false_iff_eq.1 hc;refine QN<|Qj<|wE 3 I<|QA (Qu I I O)<|wB 2 I ?_
  exact Ql (⟨i.i+1,b,i.step b a j⟩) (by show la.length-(i.i+1)<la.length-i.i;omega) wu we tM
 have h:i.i=la.length:=by have:=wj hc;have:=i.le;omega
 refine Qx ?_
 repeat first|refine QY ?_|refine QO tH ?_
 refine QZ<|wE 7 I ?_
 exact wg I I (congrArg aH (decide_eq_true (i.done O h))) tL
structure Pb(F:Gs)(y:Xz)(nl:List (List UInt8))(rl:List Pt)(sl:List (List UInt8×List UInt8)):Prop where
 r:X4 F y
 t:GJ y
 n:y.nl=nl
 p:y.rl.map (λe=>ZX e.2)=rl
 s:y.sl=sl
theorem Pb.e{nl:List (List UInt8)}{sl:List (List UInt8×List UInt8)}(h:Pb F y nl rl sl):y.e=Bz nl rl sl:=by unfold Xz.e;rw[h.n,h.p,h.s]
def Pb.rs{nl:List (List UInt8)}{sl:List (List UInt8×List UInt8)}(h:Pb F y nl rl sl):y.rs=rl.map Xq:=by unfold Xz.rs;rw[<-h.p,List.map_map];rfl
def Pb.vs{nl:List (List UInt8)}{sl:List (List UInt8×List UInt8)}(h:Pb F y nl rl sl):y.vs=sl.map JB:=by unfold Xz.vs;rw[h.s]
def Pb.nn{nl:List (List UInt8)}{sl:List (List UInt8×List UInt8)}(h:Pb F y nl rl sl):y.nm.n=nl.length:=by rw[<-h.r.jL,h.n]
theorem Aq{p:Int}{s:List UInt8}(h:Fits F w)(a:s.length<=1000000):QU prog 82 [.int .i64 p,tx s] w F (λ(c:Xz)=>c.v) (λc F=>Pb F c [[120]] [[([49],[0,p])]] [(s,s)]):=by
 refine QU.intro (G:=λF=>True) func82 rfl tH rfl rfl h tL<|wa<|Qc jk λb4=>wY<|wa<|Qb rfl (Q5 Kw) Du z_9 rfl rfl λl=>wW rfl<|Qb rfl (Q5 Q2) JK R4 rfl rfl λj=>QA (Q4 rfl BC KV (wV rfl rfl rfl))<|Qb rfl (Q5 Zg) Xh KV rfl rfl λi=>Qb rfl (Q5 VJ) Vu QEH rfl rfl λg=>wW rfl<|wW rfl<|QA (Q4 rfl Zb Xa (wV rfl rfl rfl))<|Qb rfl (Q5 XF) Jd Xa rfl rfl λf=>QA (Q4 rfl cD jk (.cons (vs:=[_]) rfl rfl rfl .h1 (.cons (vs:=[_]) rfl rfl rfl (.skip .h1) (.cons (vs:=[_]) rfl rfl rfl (.skip (.skip .h1)) .nil))))<|QW (vs:=[_,_,_]) rfl rfl rfl J6 rfl .here .h3 wu<|wY<|QX ?_
 exact QP ((⟨⟨some ⟨l,0,none⟩,1,1⟩,[[120]],⟨some ⟨g,0,none⟩,1,1⟩,[ko i [zc [49] j [0,p]]],⟨some ⟨f,0,none⟩,1,1⟩,[(s,s)]⟩:Xz)) I (.JX (c:=[_,_,_]) I J6 .here .nil) (rfl) λF h9=>⟨⟨Qy.of h9.1.1.1.1.2 I,Qy.of h9.1.2 I,λe he=>by rw[List.mem_singleton.1 he];exact⟨Qy.of h9.1.1.2 I,λt ht=>by rw[List.mem_singleton.1 ht];exact WX (k:=[0,p]) h9.1.1.1.2⟩,Qy.of h9.2 I,rfl,rfl,rfl⟩,⟨(by show 1<=1000000;decide),aa _,λs a=>by rw[List.mem_singleton.1 a];decide,(by show 1<=1000000;decide),λe he=>by rw[List.mem_singleton.1 he];exact⟨rfl,λt ht=>by rw[List.mem_singleton.1 ht];exact⟨(by show 1<=1000000;decide),(by show 2<=1000000;decide)⟩,(by show 1<=1000000;decide)⟩,(by show 1<=1000000;decide),λm b=>by rw[List.mem_singleton.1 b];exact⟨a,a⟩⟩,rfl,rfl,rfl⟩
theorem Gc(n:Fits F w):QU prog 85 [] w F (λ(c:Xz)=>c.v) (λc F=>Pb F c [[120],[118]] [[([49],[0,0,1])],[([45,49],[0,1,0])]] [([49],[49]),([48],[48])]):=by
 refine QU.intro (G:=λF=>True) func85 rfl tH rfl rfl n tL<|wa<|Qc jk λz=>wY<|wa<|Qb rfl (Q5 Kw) Du z_9 rfl rfl λb1=>Qb rfl (Q5 Q2) JK R4 rfl rfl λb2=>QA (Q4 rfl BC KV (wV rfl rfl rfl))<|Qb rfl (Q5 Zg) Xh KV rfl rfl λb4=>Qb rfl (Q5 Q2) JK R4 rfl rfl λx=>QA (Q4 rfl BC KV (wV rfl rfl rfl))<|Qb rfl (Q5 Zg) Xh KV rfl rfl λu=>Qb rfl (Q5 VJ) Vu QEH rfl rfl λo=>QA (Q4 rfl Zb Xa (wV rfl rfl rfl))<|QA (Q4 rfl Zb Xa (wV rfl rfl rfl))<|Qb rfl (Q5 XF) Jd Xa rfl rfl λm=>QA (Q4 rfl cD jk (.cons (vs:=[_]) rfl rfl rfl .h1 (.cons (vs:=[_]) rfl rfl rfl (.skip .h1) (.cons (vs:=[_]) rfl rfl rfl (.skip (.skip .h1)) .nil))))<|QW (vs:=[_,_,_]) rfl rfl rfl J6 rfl .here .h3 wu<|wY<|QX ?_
 exact QP ((⟨⟨some ⟨b1,0,none⟩,2,2⟩,[[120],[118]],⟨some ⟨o,0,none⟩,2,2⟩,[ko b4 [zc [49] b2 [0,0,1]],ko u [zc [45,49] x [0,1,0]]],⟨some ⟨m,0,none⟩,2,2⟩,[([49],[49]),([48],[48])]⟩:Xz)) I (.JX (c:=[_,_,_]) I J6 .here .nil) (rfl) (λF ⟨⟨⟨⟨⟨⟨⟨y,l⟩,j⟩,i⟩,h⟩,g⟩,f⟩,a⟩=>⟨⟨Qy.of l rfl,Qy.of f rfl,λe he=>by
    simp only[aD,av,or_false]at he;rcases he with rfl | rfl
    ·exact⟨Qy.of i rfl,λt ht=>by rw[List.mem_singleton.1 ht];exact WX (k:=[0,0,1]) j⟩
    ·exact⟨Qy.of g rfl,λt ht=>by rw[List.mem_singleton.1 ht];exact WX (k:=[0,1,0]) h⟩,Qy.of a rfl,rfl,rfl,rfl⟩,⟨(by show 2<=1000000;decide),aa _,λs b=>by
    simp only[aD,av,or_false]at b;rcases b with rfl | rfl<;>decide,(by show 2<=1000000;decide),λe he=>by
    simp only[aD,av,or_false]at he;rcases he with rfl | rfl
    ·exact⟨rfl,λt ht=>by rw[List.mem_singleton.1 ht];exact⟨(by show 1<=1000000;decide),(by show 3<=1000000;decide)⟩,(by show 1<=1000000;decide)⟩
    ·exact⟨rfl,λt ht=>by rw[List.mem_singleton.1 ht];exact⟨(by show 2<=1000000;decide),(by show 3<=1000000;decide)⟩,(by show 1<=1000000;decide)⟩,(by show 2<=1000000;decide),λs b=>by
    simp only[aD,av,or_false]at b;rcases b with rfl | rfl<;>decide⟩,rfl,rfl,rfl⟩)
def dA(Z D T m:Nat)(p:List Tm):Bool:=decide (p.length<=T)&&p.all λu=>decide (JW u.1<=Z)&&decide (Zz u.2 m<=D)&&decide (u.2.length=m)&&u.2.all λk=>decide (0<=k)&&decide (k<=12)
theorem Le{p:List Tm}(h:dA Z D T m p=true):ke Z D T m p:=by
 unfold dA at h;simp only[ai,decide_eq_true_eq,ak]at h;exact⟨h.1,λu hu=>(h.2 u hu).1.1.1,λu hu=>(h.2 u hu).1.1.2,λu hu=>(h.2 u hu).1.2,λu hu k hk=>(h.2 u hu).2 k hk⟩
def QB4(h0:0<Q)(hd:(k+1) ∣ Q):Cl Q 1 0 ((((k+1:Nat):Int):Rat)⁻¹):=by
 obtain⟨q,rfl⟩:=hd;have hq:0<q:=bS (by rintro rfl;simp at h0);refine⟨q,?_,?_⟩
 ·rw[bj,aM];have e:aC (q:Int) (((k+1:Nat):Int)*(q:Int))=aC (1*(q:Int)) (((k+1:Nat):Int)*(q:Int)):=by rw[Int.one_mul]
  rw[e,bK O,bT,bc,Rat.intCast_one,Rat.one_mul]
 rw[bj,aX,Nat.pow_zero,ee];exact bG _ O
def Q0:Nat:=2^64*720720
def Dj:0<Q0:=tG
def clB(x:Rat)(b:Nat):Bool:=decide (Q0%x.den=0)&&decide (sz x.num<=b)
def y9{x:Rat}{b:Nat}(h:clB x b=true):Cl Q0 1 b x:=by
 unfold clB at h;simp only[ai,decide_eq_true_eq]at h;exact Cl.of x Dj (aT h.1) h.2
def R1:List (List Tm):=([[([49],[0,1])]]:List Pt).map Xq
def R2:List (List Tm):=([[([49],[0,2])]]:List Pt).map Xq
def RC:List (List Tm):=([[([49],[0,0,1])],[([45,49],[0,1,0])]]:List Pt).map Xq
def QB5:∀k,k<16->Cl Q0 1 0 ((((k+1:Nat):Int):Rat)⁻¹):=λk hk=>QB4 Dj (aT ((by decide +kernel:∀k,k<16->Q0%(k+1)=0) k hk))
def kG{rs:List (List Tm)}{P:List Tm->Prop}(h:∀p∈rs,P p):∀i,i<rs.length->P (el rs i):=λi hi=>h _ (Qw hi)
def tuB(D T m n:Nat)(rs:List (List Tm)):Bool:=decide (rs.length=m)&&(rs.all (dA 8 D T (m+1))&&(rs.all (λp=>p.all λu=>decide (Q0%u.1.den=0))&&(decide (tyM Q0 2400 D T (n+1)<=10000000)&&(decide (I9 Q0 2400 D T n<=850000)&&(decide (CO 8 D T (I9 Q0 2400 D T n)<=900000)&&decide (8+D*(I9 Q0 2400 D T n+1)+1<=10000000))))))
def QFt:2400+sz (Q0:Int)<=800000:=tG
theorem tuK{rs:List (List Tm)}(hb:0<=b/\b<=64)(g:n<=14)(hm:m<=900)(h:tuB D T m n rs=true):jO Q0 8 D T m n b rs:=by
 unfold tuB at h;simp only[ai,decide_eq_true_eq,ak]at h;obtain⟨h1,h2,h3,f,k2,c,a⟩:=h;exact⟨Dj,hb,Nat.dvd_trans (Nat.pow_dvd_pow 2 (show b.toNat<=64 by omega)) (Nat.dvd_mul_right _ _),λk hk=>QB5 k O,kG λp hp=>Le (h2 p hp),kG λp hp u hu=>aT (h3 p hp u hu),h1,hm,tF,f,k2,QFt,c,a⟩
def p5(b:Nat)(x:Rat×Rat):Bool:=clB x.1 b&&clB x.2 b
def L9{x:Rat×Rat}{b c:Nat}(hc:b<=c)(h:p5 b x=true):KA Q0 1 c x:=by
 unfold p5 at h;rw[ai]at h;exact⟨(y9 h.1).mono Dj (aa _) hc,(y9 h.2).mono Dj (aa _) hc⟩
def QEM(m:Nat)(x:List (Rat×Rat)):Bool:=decide (x.length=m)&&(x.all (p5 100)&&x.all λa=>decide (a.1<=a.2))
def Tk(h:QEM m x=true):XOk Q0 D T m n x:=by
 unfold QEM at h;simp only[ai,decide_eq_true_eq,ak]at h;refine⟨h.1,λi hi=>h.2.2 _ (Qw hi),λa ha=>L9 ?_ (h.2.1 a ha)⟩;unfold j3;omega
def tmB(t:Rat):Bool:=clB t 100&&decide (JW t<=100)
def Hz{t:Rat}(h:tmB t=true):TmC Q0 t:=by
 unfold tmB at h;rw[ai,decide_eq_true_eq]at h;exact⟨(y9 h.1).mono Dj (aa _) tF,af h.2 tF⟩
def jO.QHE{rs:List (List Tm)}(h:jO Q Z D T m n b rs){t:XP}{y:List XP}(ht:KA Q 1 2400 t)(c:y.length=m)(hy:∀a∈y,KA Q 1 2400 a):Uo rs t y (n+1):=(h.ty ht c hy).ok (tD h.n1)
def QFe(m:Nat)(y:List (Rat×Rat)):Bool:=decide (y.length=m)&&y.all λa=>p5 100 a&&(decide (JW a.1<=100)&&decide (JW a.2<=100))
def Di{y:List (Rat×Rat)}(h:QFe m y=true):y.length=m/\(∀a∈y,KA Q0 1 2400 a)/\∀a∈y,Xf a 100:=by
 unfold QFe at h;simp only[ai,decide_eq_true_eq,ak]at h;exact⟨h.1,λa ha=>L9 tF (h.2 a ha).1,λa ha=>(h.2 a ha).2⟩
def QAv(k:Nat)(l:List (Rat×Rat)):Bool:=l.all λa=>decide (JW a.1<=k)&&decide (JW a.2<=k)
def LB{l:List (Rat×Rat)}(h:QAv k l=true):∀a∈l,Xf a k:=λa ha=>by
 unfold QAv at h;have:=List.all_eq_true.1 h a ha;rw[ai,decide_eq_true_eq,decide_eq_true_eq]at this;exact this
def e_c:Bz [[120],[118]] [[([49],[0,0,1])],[([45,49],[0,1,0])]] [([49],[49]),([48],[48])]=0:=tG
def v_1:J1 R1 (JB ([48],[48])) (lV [([49],[50])]) 2=[[(1,2),(1,2),(1/2,1)]]:=tG
def v_2:Yu R1 (Qz [48]) (Qz [49,47,50]) (lV [([49],[49])]) 2=some [(1,9/4)]:=tG
def v_3:Ir (YP R1 (Qz [48]) (Qz [49,47,50]) (lV [([49],[49])]) (lV [([49],[50])])) (lV [([49],[50])])=true:=tG
def v_4:Yc R1 (Qz [48]) (Qz [49,47,50]) (lV [([49],[49])]) (lV [([49],[50])]) 1=[(13/8,7/4)]:=tG
def v_5:KR R1 (Qz [48]) (Qz [49,47,50]) (lV [([49],[49])]) 1 2=some ([(1,9/4)],[(3/2,2)]):=tG
def v_6:Yu R2 (Qz [48]) (Qz [50]) (lV [([49],[49])]) 4=none:=tG
def v_7:K9 R2 (JB ([48],[48])::lV [([45,51],[50])])=[9]:=tG
def v_8:VK RC (JB ([48],[48])::lV [([45,51],[50]),([48],[57])]) 2 2=1:=tG
def T0:List OE:=(Gl RC 2 10 ((0:Int):Rat) ([([49],[49]),([48],[48])].map JB) ([[49,47,50],[49]].map Qz)).getD []
def v_9:Gl RC 2 10 ((0:Int):Rat) ([([49],[49]),([48],[48])].map JB) ([[49,47,50],[49]].map Qz)=some T0:=by
 have h:(Gl RC 2 10 ((0:Int):Rat) ([([49],[49]),([48],[48])].map JB) ([[49,47,50],[49]].map Qz)).isSome=true:=tG;unfold T0;cases e:Gl RC 2 10 ((0:Int):Rat) ([([49],[49]),([48],[48])].map JB) ([[49,47,50],[49]].map Qz)with
 |none=>rw[e]at h;cases h
 |some t=>rfl
def QHB:T0.length=2/\T0.any LA=false:=tG
def jt(hb:0<=b/\b<=64):jO Q0 8 2 2 1 1 b R1:=tuK hb tF tF tG
def QER(hb:0<=b/\b<=64):jO Q0 8 2 2 1 1 b R2:=tuK hb tF tF tG
def QHF(hb:0<=b/\b<=64):jO Q0 8 2 2 2 2 b RC:=tuK hb tF tF tG
def s_1:seR 0 (J1 R1 (JB ([48],[48])) (lV [([49],[50])]) 2)=(0,[[(1,2),(1,2),(1/2,1)]]):=by rw[v_1];decide +kernel
def s_2:O2 0 (Yu R1 (Qz [48]) (Qz [49,47,50]) (lV [([49],[49])]) 2)=(0,[(1,9/4)]):=by rw[v_2];decide +kernel
def s_4:O2 0 (some (Yc R1 (Qz [48]) (Qz [49,47,50]) (lV [([49],[49])]) (lV [([49],[50])]) 1))=(0,[(13/8,7/4)]):=by rw[v_4];decide +kernel
def s_5:k7 0 (KR R1 (Qz [48]) (Qz [49,47,50]) (lV [([49],[49])]) 1 2) [49,47,50]=(([49,47,50],[(1,9/4)],[(3/2,2)]),0):=by rw[v_5];decide +kernel
def s_6:O2 0 (Yu R2 (Qz [48]) (Qz [50]) (lV [([49],[49])]) 4)=(25,[]):=by rw[v_6];rfl
def s_7:uU 0 (K9 R2 (JB ([48],[48])::lV [([45,51],[50])]))=(0,[9]):=by rw[v_7];decide +kernel
def s_8:cS 0 (VK RC (JB ([48],[48])::lV [([45,51],[50]),([48],[57])]) 2 2)=(0,[49]):=by rw[v_8];decide +kernel
def s_9:tuR 0 (some T0)=(0,T0):=by rw[Hw,QHB.2];rfl
section
variable{w:World}{F:Gs}{y:Xz}{r rz:Sr}(hF:Fits F w)(hGl:JE F)
include hF hGl
theorem ID(hy:Pb F y [[120]] [[([49],[0,1])]] [([49],[49])])(hx:Ks F r [([49],[50])])(hc:BS r [([49],[50])]):
  QU prog 25 [y.v,.agg #[tx [48],tx [48]],r.v,.int .i64 2] w F (λ(c:Sr×List Sr)=>.tuple #[c.1.v,.int .i64 0]) (λc F=>OC F c [[(1,2),(1,2),(1/2,1)]]):=by
 have hb:=Di (m:=1) (y:=lV [([49],[50])]) tG;have h:=xM (t:=([48],[48])) (l:=[([49],[50])]) (o:=2) hF hGl hy.r hy.t ⟨tF,tF⟩ hx hc (λ_=>by
  rw[hy.rs];refine⟨(jt (b:=0) ⟨tF,tF⟩).QHE (L9 (b:=100) tF tG) hb.1 hb.2.1,?_⟩;show ∀b∈J1 R1 (JB ([48],[48])) (lV [([49],[50])]) 2,∀a∈b,Xf a 100000000;rw[v_1];intro b hb a ha;rw[List.mem_singleton.1 hb]at ha;exact(LB (k:=10) tG a ha).mono tF)
 have e:Ad y ([48],[48]) [([49],[50])] 2=0:=by unfold Ad;rw[hy.e,hy.nn];decide +kernel
 have f:seR (Ad y ([48],[48]) [([49],[50])] 2) (J1 y.rs (JB ([48],[48])) (lV [([49],[50])]) (bC 2))=(0,[[(1,2),(1,2),(1/2,1)]]):=by rw[e,hy.rs];exact s_1
 rw[f]at h;exact h
theorem kL(hy:Pb F y [[120]] [[([49],[0,1])]] [([49],[49])])(hx:Ks F r [([49],[49])])(hc:BS r [([49],[49])]):
  QU prog 83 [y.v,tx [48],r.v,tx [49,47,50],.int .i64 2] w F (λ(c:Sr)=>.tuple #[c.v,.int .i64 0]) (λc F=>BQ F c [(1,9/4)]):=by
 have h:=Am (y:=y) (a:=[48]) (b:=[49,47,50]) (l:=[([49],[49])]) (bits:=2) hF hGl hy.r hy.t hx hc tF tF (λ_=>by
  rw[hy.rs];exact(Nr (jt (b:=2) ⟨tF,tF⟩) (x:=lV [([49],[49])]) (Tk tG) (Hz (t:=Qz [48]) tG) (Hz (t:=Qz [49,47,50]) tG) tG).1.tr)
 have e:MH y [48] [([49],[49])] [49,47,50] 2=0:=by unfold MH Ys;rw[hy.e,hy.nn];decide +kernel
 have f:O2 (MH y [48] [([49],[49])] [49,47,50] 2) (Yu y.rs (Qz [48]) (Qz [49,47,50]) (lV [([49],[49])]) 2)=(0,[(1,9/4)]):=by rw[e,hy.rs];exact s_2
 rw[f]at h;exact h
theorem kN(hy:Pb F y [[120]] [[([49],[0,1])]] [([49],[49])])(hx:Ks F r [([49],[49])])(hc:BS r [([49],[49])])(hz:Ks F rz [([49],[50])])(f:BS rz [([49],[50])]):
  Qf prog 62 [y.v,tx [48],r.v,tx [49,47,50],rz.v] w F (.tuple #[.bool true,.int .i64 0]):=by
 have hb:=Di (m:=1) (y:=lV [([49],[49])]) tG;have c:=Di (m:=1) (y:=lV [([49],[50])]) tG;have g:MvC 8 2 2 1 100 R1 (Qz [48]) (Qz [49,47,50]):=⟨(jt (b:=0) ⟨tF,tF⟩).po,rfl,tG,tG⟩;have h:=yK (y:=y) (a:=[48]) (b:=[49,47,50]) (l:=[([49],[49])]) (lw:=[([49],[50])]) hF hGl hy.r hy.t hx hc tF tF hz f (λ_=>by
  rw[hy.rs];exact⟨UC g hb.1 c.1 hb.2.2 c.2.2 tF tF tF tF tF tF tF,λv i=>(Lk g hb.1 c.1 hb.2.2 c.2.2 tF v i).mono tF⟩)
 have e:yM y [48] [([49],[49])] [49,47,50] [([49],[50])]=0:=by unfold yM Ys;rw[hy.e,hy.nn];decide +kernel
 have j:Ir (YP y.rs (Qz [48]) (Qz [49,47,50]) (lV [([49],[49])]) (lV [([49],[50])])) (lV [([49],[50])])=true:=by rw[hy.rs];exact v_3
 rw[e,j]at h;exact h
theorem QAP(hy:Pb F y [[120]] [[([49],[0,1])]] [([49],[49])])(hx:Ks F r [([49],[49])])(hc:BS r [([49],[49])])(hz:Ks F rz [([49],[50])])(j:BS rz [([49],[50])]):
  QU prog 37 [y.v,tx [48],r.v,tx [49,47,50],rz.v,.int .i64 1] w F (λ(c:Sr)=>.tuple #[c.v,.int .i64 0]) (λc F=>BQ F c [(13/8,7/4)]):=by
 have hb:=Di (m:=1) (y:=lV [([49],[49])]) tG;have g:=Di (m:=1) (y:=lV [([49],[50])]) tG;have f:=jt (b:=0) ⟨tF,tF⟩;have i:=Hz (t:=Qz [48]) tG;have t2:=Hz (t:=Qz [49,47,50]) tG;have h:=Cs (y:=y) (a:=[48]) (b:=[49,47,50]) (l:=[([49],[49])]) (lw:=[([49],[50])]) (o:=1) hF hGl hy.r hy.t hx hc tF tF hz j (λ_=>by
  rw[hy.rs];have h1:=OT (n:=1) (f.ty (t:=(Qz [48],Qz [48])) (.pt i.cl) hb.1 hb.2.1) (f.ty (t:=(Qz [48],Qz [49,47,50])) ⟨i.cl,t2.cl⟩ g.1 g.2.1) (by rw[bR];exact t2.cl.add Dj i.cl.neg) tF f.n1 (tD f.n2) (tD f.n3);exact⟨h1.1,λv k=>(h1.2 v k).mono tF⟩)
 have e:NS y [48] [([49],[49])] [49,47,50] [([49],[50])] 1=0:=by unfold NS Ys;rw[hy.e,hy.nn];decide +kernel
 have s:O2 (NS y [48] [([49],[49])] [49,47,50] [([49],[50])] 1) (some (Yc y.rs (Qz [48]) (Qz [49,47,50]) (lV [([49],[49])]) (lV [([49],[50])]) (bC 1)))=(0,[(13/8,7/4)]):=by rw[e,hy.rs];exact s_4
 rw[s]at h;exact h
theorem kJ(hy:Pb F y [[120]] [[([49],[0,1])]] [([49],[49])])(hx:Ks F r [([49],[49])])(hc:BS r [([49],[49])]):
  QU prog 84 [y.v,tx [48],r.v,tx [49,47,50],.int .i64 1,.int .i64 2] w F (λ(d:Sr×Sr)=>.tuple #[.agg #[tx [49,47,50],d.1.v,d.2.v],.int .i64 0]) (λd F=>BQ F d.1 [(1,9/4)]/\BQ F d.2 [(3/2,2)]):=by
 have h:=gL (y:=y) (a:=[48]) (b:=[49,47,50]) (l:=[([49],[49])]) (o:=1) (bits:=2) hF hGl hy.r hy.t hx hc tF tF (λ_=>by
  rw[hy.rs];exact(Nr (jt (b:=2) ⟨tF,tF⟩) (x:=lV [([49],[49])]) (Tk tG) (Hz (t:=Qz [48]) tG) (Hz (t:=Qz [49,47,50]) tG) tG).1)
 have e:MC y [48] [([49],[49])] [49,47,50] 1 2=0:=by unfold MC Ys;rw[hy.e,hy.nn];decide +kernel
 have c:k7 (MC y [48] [([49],[49])] [49,47,50] 1 2) (KR y.rs (Qz [48]) (Qz [49,47,50]) (lV [([49],[49])]) (bC 1) 2) [49,47,50]=(([49,47,50],[(1,9/4)],[(3/2,2)]),0):=by rw[e,hy.rs];exact s_5
 rw[c]at h;exact h
theorem kK(hy:Pb F y [[120]] [[([49],[0,2])]] [([49],[49])])(hx:Ks F r [([49],[49])])(hc:BS r [([49],[49])]):
  QU prog 83 [y.v,tx [48],r.v,tx [50],.int .i64 4] w F (λ(c:Sr)=>.tuple #[c.v,.int .i64 25]) (λc F=>BQ F c []):=by
 have h:=Am (y:=y) (a:=[48]) (b:=[50]) (l:=[([49],[49])]) (bits:=4) hF hGl hy.r hy.t hx hc tF tF (λ_=>by
  rw[hy.rs];exact(Nr (QER (b:=4) ⟨tF,tF⟩) (x:=lV [([49],[49])]) (Tk tG) (Hz (t:=Qz [48]) tG) (Hz (t:=Qz [50]) tG) tG).1.tr)
 have e:MH y [48] [([49],[49])] [50] 4=0:=by unfold MH Ys;rw[hy.e,hy.nn];decide +kernel
 have f:O2 (MH y [48] [([49],[49])] [50] 4) (Yu y.rs (Qz [48]) (Qz [50]) (lV [([49],[49])]) 4)=(25,[]):=by rw[e,hy.rs];exact s_6
 rw[f]at h;exact h
theorem QAQ(hy:Pb F y [[120]] [[([49],[0,2])]] [([49],[49])])(hx:Ks F r [([45,51],[50])])(hc:BS r [([45,51],[50])]):
  QU prog 41 [y.v,.agg #[tx [48],tx [48]],r.v] w F (λ(c:Sr)=>.tuple #[c.v,.int .i64 0]) (λc F=>NxR F c [9]):=by
 have hb:=Di (m:=2) (y:=JB ([48],[48])::lV [([45,51],[50])]) tG;have a:=QER (b:=0) ⟨tF,tF⟩;have h:=Oa (y:=y) (t:=([48],[48])) (l:=[([45,51],[50])]) hF hGl hy.r hy.t ⟨tF,tF⟩ hx hc (λ_=>by
  rw[hy.rs];exact⟨λi hi=>Bn (S:=100) (a.po i hi) hb.1 tF hb.2.2 tF tF tF tF,λi hi=>(Wf (S:=100) (a.po i hi) hb.1 hb.2.2).mono tF,by
   show ∀x∈K9 R2 _,_;rw[v_7];decide +kernel⟩)
 have e:V3 y ([48],[48]) [([45,51],[50])]=0:=by unfold V3;rw[hy.e,hy.nn];decide +kernel
 have f:uU (V3 y ([48],[48]) [([45,51],[50])]) (K9 y.rs (JB ([48],[48])::lV [([45,51],[50])]))=(0,[9]):=by rw[e,hy.rs];exact s_7
 rw[f]at h;exact h
theorem QAR(hy:Pb F y [[120],[118]] [[([49],[0,0,1])],[([45,49],[0,1,0])]] [([49],[49]),([48],[48])])(hx:Ks F r [([45,51],[50]),([48],[57])])(hc:BS r [([45,51],[50]),([48],[57])]):
  Qf prog 42 [y.v,.agg #[tx [48],tx [48]],r.v] w F (.tuple #[tx [49],.int .i64 0]):=by
 have hb:=Di (m:=3) (y:=JB ([48],[48])::lV [([45,51],[50]),([48],[57])]) tG;have b:∀p∈RC,∀v,v<2->ke 8 2 2 3 (XO (ZT (v+1) p)):=λp hp v a=>Le ((by decide +kernel:∀p∈RC,∀v,v<2->dA 8 2 2 3 (XO (ZT (v+1) p))=true) p hp v a);have h:=SD (y:=y) (t:=([48],[48])) (l:=[([45,51],[50]),([48],[57])]) hF hGl hy.r hy.t ⟨tF,tF⟩ hx hc (λ_=>by
  rw[hy.rs];show QCV RC (JB ([48],[48])::lV [([45,51],[50]),([48],[57])]) 2;exact⟨by
   show ∀p∈RC,∀t∈p,((∀x∈t.2,0<=x/\x<=1000000)/\t.2.length<=1000)/\2<t.2.length;decide +kernel,tG,tG,tG,tG,λp hp v a=>Bn (S:=100) (b p hp v a) hb.1 tF hb.2.2 tF tF tF tF,λp hp v a=>(Wf (S:=100) (b p hp v a) hb.1 hb.2.2).mono tF,tG,tG,tG⟩)
 have e:V3 y ([48],[48]) [([45,51],[50]),([48],[57])]=0:=by unfold V3;rw[hy.e,hy.nn];decide +kernel
 have c:cS (V3 y ([48],[48]) [([45,51],[50]),([48],[57])]) (VK y.rs (JB ([48],[48])::lV [([45,51],[50]),([48],[57])]) ([([45,51],[50]),([48],[57])]:List (List UInt8×List UInt8)).length y.rs.length)=(0,[49]):=by rw[e,hy.rs];exact s_8
 rw[c]at h;exact h
theorem QAO{q:Option Addr}{c:Nat}(hy:Pb F y [[120],[118]] [[([49],[0,0,1])],[([45,49],[0,1,0])]] [([49],[49]),([48],[48])])(g:Qy F q 2 1 ([[49,47,50],[49]].map tx)):
  QU prog 71 [y.v,.slice q 2 c,.int .i64 2,.int .i64 10] w F (λ(c:Sr×List Wl)=>.tuple #[c.1.v,.int .i64 0]) (λc F=>IE F c T0):=by
 have h:=QAe (y:=y) (es:=[[49,47,50],[49]]) (o:=2) (b:=10) (ce:=c) hF hGl hy.r hy.t g rfl (.inr tF) (λ_=>by
  rw[hy.rs,hy.vs];exact OP (QHF (b:=10) ⟨tF,tF⟩) _ _ _ (Tk tG) (Hz tG) ⟨⟨Hz (t:=Qz [49,47,50]) tG,tG⟩,⟨Hz (t:=Qz [49]) tG,tG⟩,trivial⟩)
 have e:tuE y [[49,47,50],[49]] 2 10=0:=by unfold tuE;rw[hy.e];decide +kernel
 have f:Gl y.rs (bC 2) 10 ((0:Int):Rat) y.vs (([[49,47,50],[49]]:List (List UInt8)).map Qz)=some T0:=by rw[hy.rs,hy.vs];exact v_9
 have a:=s_9;revert f a;generalize T0=T;intro f a;rw[e,f,a]at h;exact h
end
abbrev TbD:=List UInt8×List (List UInt8×List UInt8)×List (List UInt8×List UInt8)
def yA(ds:List TbD)(i:Nat):Rat:=if i=0 then((0:Int):Rat)else Qz (el ds (i-1)).1
def bxD(n:Nat)(ds:List TbD)(i:Nat):Int:=Qs [Nb (yA ds i) (el ds i).1,YZ n (el ds i).2.1,YZ n (el ds i).2.2]
def QAg(n:Nat)(ds:List TbD):Int:=if ds.length>1000 then 5 else Qs ((bQ ds.length).map (bxD n ds))
theorem QAf(n:Nat)(tb:List Wl):Dz n tb=QAg n (tb.map Wl.d):=by
 unfold Dz QAg;rw[ab];split
 ·rfl
 congr 1;refine List.map_congr_left λi hi=>?_;have hi:=List.mem_range.1 hi;have b:el (tb.map Wl.d) i=(el tb i).d:=Ed Wl.d hi;have a:yA (tb.map Wl.d) i=Hd tb i:=by
  unfold yA Hd;split
  ·rfl
  rw[Ed Wl.d (show i-1<tb.length by omega)];rfl
 unfold k6 bxD;rw[b,a];rfl
def kpD(x:Rat×Rat)(P:List Tm)(d:TbD):Bool:=!(decide (Yw x.2 (J3 ((Qz d.1,Qz d.1)::lV d.2.2) P).1<0)||decide (Yw (J3 ((Qz d.1,Qz d.1)::lV d.2.2) P).2 x.1<0))
def QBp(x:Rat×Rat)(P:List Tm)(tb:List Wl):tb.all (pB x P)=(tb.map Wl.d).all (kpD x P):=by rw[List.all_map];rfl
def cB(l:List Int):Bool:=(l.all λx=>decide (0<=x)&&decide (x<=1000000))&&decide (l.length<=1000)
theorem Sy{l:List Int}(h:cB l=true):PW l:=by
 unfold cB at h;simp only[ai,decide_eq_true_eq,ak]at h;exact⟨λx hx=>h.1 x hx,h.2⟩
def QBg(p q:List Tm)(N:Nat):Bool:=(p.all λt=>decide (t.2.length=N)&&cB t.2)&&((q.all λt=>decide (t.2.length=N)&&cB t.2)&&((p.all λs=>q.all λt=>cB (Wm s.2 t.2))&&(decide (p.length<=10000)&&(decide (q.length<=10000)&&(decide (Yr p<=20000000)&&(decide (Yr q<=20000000)&&decide (Yr (Zr p q)<=40000000)))))))
def QBd{p q:List Tm}{N:Nat}(h:QBg p q N=true):kU p q N:=by
 unfold QBg at h;simp only[ai,decide_eq_true_eq,ak]at h;obtain⟨h1,h2,h3,h4,h5,h6,h7,h8⟩:=h;exact⟨λt ht=>(h1 t ht).1,λt ht=>(h2 t ht).1,h4,h5,λt ht=>Sy (h1 t ht).2,λt ht=>Sy (h2 t ht).2,λs a t ht=>Sy (h3 s a t ht),h6,h7,h8⟩
def QCQ(p q:List Tm):Bool:=(p.all λt=>cB t.2)&&((q.all λt=>cB t.2)&&(decide (p.length<=400000000)&&(decide (q.length<=400000000)&&decide (Yr (p++q)<=40000000))))
def QCP{p q:List Tm}(h:QCQ p q=true):kc p q:=by
 unfold QCQ at h;simp only[ai,decide_eq_true_eq,ak]at h;obtain⟨h1,h2,h3,h4,h5⟩:=h;exact⟨λt ht=>Sy (h1 t ht),λt ht=>Sy (h2 t ht),h3,h4,h5⟩
def PK:Pt:=[([49],[0,2,0]),([49],[0,0,2])]
theorem QFl:Cf RC (Xq PK) 3 where
 n:=rfl
 n1:=tF
 lp:=tF
 pw:=λt ht=>⟨Sy ((by decide +kernel:∀t∈Xq PK,cB t.2=true) t ht),(by decide +kernel:∀t∈Xq PK,t.2.length=3) t ht⟩
 sp:=tG
 der:=λv a=>(by decide +kernel:∀v,v<3->Yr (ZT v (Xq PK))<=40000000) v (by have:RC.length=2:=rfl;omega)
 mul:=λk hk=>QBd ((by decide +kernel:∀k,k<2->QBg (XO (ZT (k+1) (Xq PK))) (el RC k) 3=true) k hk)
 add:=λk hk=>QCP ((by decide +kernel:∀k,k<2->QCQ (Ul RC (Xq PK) k) (XO (Zr (XO (ZT (k+1) (Xq PK))) (el RC k)))=true) k hk)
def QFI:Ul RC (Xq PK) RC.length=[]:=tG
def QFH:QAg 2 (To T0)=0:=tG
def QFJ:(To T0).all (kpD (J3 ((((0:Int):Rat),((0:Int):Rat))::([([49],[49]),([48],[48])]:List (List UInt8×List UInt8)).map JB) (Xq PK)) (Xq PK))=true:=tG
def CG:ke 8 2 2 3 (Xq PK):=Le tG
def dB(d:TbD):Bool:=decide (d.1.length<=1000)&&(decide (d.2.1.length=2)&&(decide (d.2.2.length=2)&&((d.2.1.all λs=>decide (s.1.length<=1000)&&decide (s.2.length<=1000))&&((d.2.2.all λs=>decide (s.1.length<=1000)&&decide (s.2.length<=1000))&&QAv 2000 ((Qz d.1,Qz d.1)::lV d.2.2)))))
def QHk:∀d∈To T0,dB d=true:=tG
def yE:(To T0).length=2:=tG
def CT{b:Wl}(h:dB b.d=true):b.e.length<=1000/\b.wl.length=2/\b.ll.length=2/\(∀s∈b.wl,s.1.length<=1000/\s.2.length<=1000)/\(∀s∈b.ll,s.1.length<=1000/\s.2.length<=1000)/\∀x∈(Qz b.e,Qz b.e)::lV b.ll,Xf x 2000:=by
 unfold dB at h;simp only[ai,decide_eq_true_eq,ak]at h;obtain⟨h1,h2,h3,h4,h5,h6⟩:=h;exact⟨h1,h2,h3,h4,h5,LB h6⟩
theorem kM{a:NQ}{c:Sr×List Wl}(C:Fits F w)(o:JE F)(hy:Pb F y [[120],[118]] [[([49],[0,0,1])],[([45,49],[0,1,0])]] [([49],[49]),([48],[48])])(A:Qy F a.1.q a.1.n 2 (a.2.flatMap VM))(D:Yy F a.2)(k:Up a)(hp:ZX a.2=PK)(hx:IE F c T0):
  Qf prog 51 [y.v,a.1.v,c.1.v] w F (.tuple #[.bool true,.int .i64 0]):=by
 have hd:=hx.d;have u:c.2.length=2:=by have:=congrArg aV hd;rwa [ab,yE]at this
 have E:=hx.a.len;have hb:∀b∈c.2,dB b.d=true:=λb hb=>QHk _ (by rw[<-hd];exact aK hb);have hc:QCR c.1 c.2:=⟨O,.inr λb hm=>by
  have h1:=CT (hb b hm);have h2:=hx.a.bx b hm;have h3:=h2.1.len;have h4:=h2.2.len;exact⟨O,⟨O,λs l=>tD<|h1.2.2.2.1 s l⟩,⟨O,λs l=>tD<|h1.2.2.2.2.1 s l⟩⟩⟩
 have e:NY y PK c.2=0:=by
  unfold NY;have m:y.nm.n=2:=hy.nn;rw[hy.e,m,QAf,hd,e_c,QFH];decide +kernel
 have f:=hy.vs;have B:pA y PK=true:=by unfold pA;rw[hy.rs];exact decide_eq_true QFI
 have z:yB y PK=J3 ((((0:Int):Rat),((0:Int):Rat))::([([49],[49]),([48],[48])]:List (List UInt8×List UInt8)).map JB) (Xq PK):=by unfold yB;rw[f]
 have h:=pC (y:=y) (a:=a) (r:=c.1) (tb:=c.2) C o hy.r hy.t A D k hx.a hc (λ_=>by
  rw[hp];have g:∀x∈(((0:Int):Rat),((0:Int):Rat))::y.vs,Xf x 100:=by rw[f];exact LB tG
  have j:((((0:Int):Rat),((0:Int):Rat))::y.vs).length=3:=by rw[f];rfl
  have i:∀b∈c.2,((Qz b.e,Qz b.e)::lV b.ll).length=3:=λb hm=>by rw[aE,Yg,(CT (hb b hm)).2.2.1]
  exact⟨by rw[hy.rs,hy.nn];exact QFl,Bn (S:=100) CG j tF g tF tF tF tF,(Wf (S:=100) CG j g).mono tF,λb hm=>Bn (S:=2000) CG (i b hm) tF (CT (hb b hm)).2.2.2.2.2 tF tF tF tF,λb hm=>(Wf (S:=2000) CG (i b hm) (CT (hb b hm)).2.2.2.2.2).mono tF⟩)
 rw[hp,yC e B,QBp,hd,z,QFJ]at h;exact h
def ZR{b:Nat}{T:TypeId}(h:F b=some ((l.flatMap NU).toArray,T)):Ks F ⟨some ⟨b,0,none⟩,l.length,l.length⟩ l:=⟨Qy.of h (Dq (f:=NU) K1 l),rfl⟩
def QFc(n:Nat)(l:List (List UInt8×List UInt8)):Bool:=decide (n<=1000000)&&l.all λs=>decide (s.1.length<=1000000)&&decide (s.2.length<=1000000)
def VS{q:Option Addr}{c:Nat}(h:QFc n l=true):BS ⟨q,n,c⟩ l:=by
 unfold QFc at h;simp only[ai,decide_eq_true_eq,ak]at h;exact⟨h.1,λs a=>h.2 s a⟩
def Pb.st{nl:List (List UInt8)}{sl:List (List UInt8×List UInt8)}(h:Pb F y nl rl sl):Ks F y.st sl:=⟨by rw[<-h.s];exact h.r.st,by rw[<-h.s];exact h.r.P0⟩
def Pb.kg{nl:List (List UInt8)}{sl:List (List UInt8×List UInt8)}(h:Pb F y nl rl sl):BS y.st sl:=⟨h.t.sn,by rw[<-h.s];exact h.t.st⟩
theorem YC{la lb:List (List UInt8×List UInt8)}(b:Fits F w)(ha:Ks F ra la)(hb:Ks F rb lb)(a:ra.n<=1000000)(h:la=lb):Qf prog 35 [ra.v,rb.v] w F (.bool true):=by
 have h1:=Cy b ha hb a
 rwa [decide_eq_true h]at h1
theorem Pd{la lb:List (List UInt8)}(f:Fits F w)(ha:Qy F ra.q ra.n 1 (la.map tx))(hb:Qy F rb.q rb.n 1 (lb.map tx))(b:la.length=ra.n)(a:lb.length=rb.n)(c:ra.n<=1000000)(h:la=lb):Qf prog 22 [ra.v,rb.v] w F (.bool true):=by
 have h1:=LQ f ha hb b a c
 rwa [decide_eq_true h]at h1
def BQ.n1{c:Sr}{v:List (Rat×Rat)}(h:BQ F c v)(a:v.length<=1000000):c.n<=1000000:=by rw[h.2.1];exact a
theorem CX(z:Fits F w)(i:JE F):Qf prog 16 [] w F (.bool true):=by
 refine QU.intro (G:=λF=>JE F) func16 rfl tH rfl rfl z (λF' hF'=>i.le hF')<|wa<|wZ rfl<|wa<|QI rfl (λ_ _ f k=>Aq (s:=[49]) f (by show 1<=1000000;decide)) λg=>Qc jk λb1=>QW (vs:=[_,_,_]) I I I J6 I .here .h3 wu<|wY<|QG<|Kr (r:=[0,1,2,3,4,5,6,7,8,9]) we mixed tE rfl<|Jr 0 tE rfl rfl<|QK (wO I J6 .here)<|JC<|Jr 2 tE rfl rfl<|QK (Q4 I Zb Xa (wV I I I))<|JC ?_
 refine NO 1 3 tE tE rfl rfl rfl rfl rfl rfl ?_ ?_
 ·refine QR I (λ_ _ f k=>VC f) (λ_=>JC<|Xe 3 tE tE rfl rfl rfl ?_);refine Qo I (Q5 XF) Jd Xa I I (λb27=>?_) (λw h=>h.imp tP tN);refine JC<|Xe 4 tE tE rfl rfl rfl<|QR rfl (λ_ _ f k=>ID (y:=g) (r:=⟨some ⟨b27,0,none⟩,1,1⟩) f k.1.1.1 k.1.1.2 (ZR (l:=[([49],[50])]) k.2) (VS tG)) λo=>Yl _ (λ_ _ f h=>ax h.2.QEU h.2.len) λA=>?_
  obtain⟨u,T⟩:=A;have u:o.1.n=1:=u;rw[u]at T;refine JC<|Jr 5 tE rfl rfl<|QK (QD I)<|JC<|Jr 6 tE rfl rfl<|QK (Qa I I)<|JC<|Jr 7 tE rfl rfl<|QK (Qa I I)<|JC<|Jr 8 tE rfl rfl<|QK (QF I)<|JC<|Jr 9 tE rfl rfl<|QK (QF I)<|JC<|Yk<|QC<|wa<|QA (wO I J6 .here)<|QA (QH I YM J0)<|QA (Qe I J0 .here (.skip (.skip .h1)))<|QI I (λw F z ⟨⟨⟨⟨i,b⟩,_⟩,m⟩,B⟩=>kL (y:=g) (r:=g.st) z i b b.st b.kg) λH=>wW I ?_
  refine wD 8 I<|QA (wO I J6 .here)<|QA (QH I YM J0)<|QA (Qe I J0 .here (.skip (.skip .h1)))<|QA (Q4 I Zb Xa (wV I I I))<|Qb I (Q5 XF) Jd Xa I I λb43=>QI I (λw F z ⟨⟨⟨⟨⟨⟨i,b⟩,_⟩,m⟩,B⟩,C⟩,j⟩=>kN (y:=g) (r:=g.st) (rz:=⟨some ⟨b43,0,none⟩,1,1⟩) z i b b.st b.kg (ZR (l:=[([49],[50])]) j) (VS tG)) λ_=>wD 9 I<|QA (wO I J6 .here)<|QA (QH I YM J0) ?_
  refine QA (Qe I J0 .here (.skip (.skip .h1)))<|QA (Q4 I Zb Xa (wV I I I))<|Qb I (Q5 XF) Jd Xa I I λb52=>QI I (λw F z ⟨⟨⟨⟨⟨⟨⟨⟨i,b⟩,_⟩,m⟩,B⟩,C⟩,j⟩,_⟩,x⟩=>QAP (y:=g) (r:=g.st) (rz:=⟨some ⟨b52,0,none⟩,1,1⟩) z i b b.st b.kg (ZR (l:=[([49],[50])]) x) (VS tG)) λc53=>wD 9 I<|QA (wO I J6 .here)<|QA (QH I YM J0)<|QA (Qe I J0 .here (.skip (.skip .h1)))<|QI I (λw F z ⟨⟨⟨⟨⟨⟨⟨⟨⟨i,b⟩,_⟩,m⟩,B⟩,C⟩,j⟩,_⟩,x⟩,h53⟩=>kJ (y:=g) (r:=g.st) z i b b.st b.kg) λE=>wB 3 I<|Qc Wt λb10=>QW (vs:=[_,_,_]) I I I X8 I .here .h3 wu<|wD 3 I ?_
  refine QG<|JG we mixed tE<|QR I (λ_ _ f k=>Aq (s:=[49]) f (by show 1<=1000000;decide)) λc64=>QK (QH I YM J0)<|QK (Qe I J0 .u1 (.skip (.skip .h1)))<|QR I (λ_ _ f k=>kK (y:=c64) (r:=g.st) f k.1.1.1.1.1.1.1.1.1.1.1 k.2 k.1.1.1.1.1.1.1.1.1.1.2.st k.1.1.1.1.1.1.1.1.1.1.2.kg) λc67=>QK (QD I)<|QK (Qa I I)<|QK (Qa I I)<|QK (QF I)<|QK (QF I)<|Q7<|QC<|wa<|QI I (λ_ _ f k=>Aq (s:=[49]) f (by show 1<=1000000;decide)) λZ=>QI I (λ_ _ f k=>VC f) λ_=>QA (Q4 I Zb Xa (wV I I I))<|Qb I (Q5 XF) Jd Xa I I λb74=>QI I (λ_ _ f k=>QAQ (y:=Z) (r:=⟨some ⟨b74,0,none⟩,1,1⟩) f k.1.1.1.1.1.1.1.1.1.1.1.1.1.1.1 k.1.1.2 (ZR (l:=[([45,51],[50])]) k.2) (VS tG)) λc75=>wB 5 I ?_
  refine wY<|wa<|QI rfl (λ_ _ f k=>Gc f) λY=>QI rfl (λ_ _ f k=>VC f) λ_=>QA (Q4 rfl Zb Xa (wV rfl rfl rfl))<|QA (Q4 rfl Zb Xa (wV rfl rfl rfl))<|Qb rfl (Q5 XF) Jd Xa rfl rfl λb83=>QI rfl (λ_ _ f k=>QAR (y:=Y) (r:=⟨some ⟨b83,0,none⟩,2,2⟩) f k.1.1.1.1.1.1.1.1.1.1.1.1.1.1.1.1.1.1.1 k.1.1.2 (ZR (l:=[([45,51],[50]),([48],[57])]) k.2) (VS tG)) λ_=>wW rfl<|QA (Qa rfl rfl)<|QA (Qa rfl rfl)<|wX rfl<|wZ rfl<|wa<|QI rfl (λ_ _ f k=>Gc f) λX=>Qb rfl (Q5 YG) JF Im rfl rfl λb89=>QI rfl (λ_ _ f k=>QAO (y:=X) (q:=some ⟨b89,0,none⟩) (c:=2) f k.1.1.1.1.1.1.1.1.1.1.1.1.1.1.1.1.1.1.1.1.1.1 k.1.2 (Qy.of (n:=2) (sz:=1) (cs:=[[49,47,50],[49]].map tx) k.2 rfl)) λD=>JQ _ (λ_ _ f h=>ax h.2.a.len h.2.d) λA=>?_
  obtain⟨l90,U⟩:=A;have S:D.1.n=2:=by have:=congrArg aV U;rw[ab,yE]at this;omega
  refine wD 9 I<|QI I (λ_ _ f k=>Gc f) λV=>Qb I (Q5 Q2) JK R4 I I λL=>QA (Q4 I BC KV (wV I I I))<|Qb I (Q5 Q2) JK R4 I I λK=>QA (Q4 I BC KV (wV I I I))<|Qb I (Q5 Zg) Xh KV I I λb99=>wW I<|QI I (λ_ _ f h=>kM (y:=V) (a:=(ko b99 [zc [49] L [0,2,0],zc [49] K [0,0,2]])) (c:=D) f h.1.1.1.1.1.1.1.1.1.1.1.1.1.1.1.1.1.1.1.1.1.1.1.1.1.1.1 h.1.1.1.2 (O8 (ts:=[zc [49] L [0,2,0],zc [49] K [0,0,2]]) h.2) (QFj (WX (k:=[0,2,0]) h.1.1.2) (QFk (WX (k:=[0,0,2]) h.1.2))) (ub PK I tF tF) rfl h.1.1.1.1.2) λ_=>wD 8 I ?_
  refine wA 4 I<|QA (Qu I I O)<|wW I<|QA (Qu I I O)<|wW I<|QA (Qu I I O)<|wW I<|QA (Qu I I O)<|wW I<|QA (Qu I I O)<|wW I<|QA (Qu I I O)<|wW I<|QA (Qu I I O)<|wW I<|QA (Qu I I O)<|QA (QT (v:=.bool false) rfl rfl rfl)<|wB 4 I<|QA (QT (v:=.bool false) rfl rfl rfl) ?_
  refine wB 5 I<|QA (XL I)<|wB 5 I<|QA (XL I)<|wB 5 I<|QA (Qg I EC)<|QL I I ?_
  rw[S];refine QA (QT (v:=.bool false) rfl rfl rfl)<|wB 5 I<|QA (QT (v:=.bool false) rfl rfl (QE8 _))<|wB 5 I<|Qb I (Q5 YG) JF Im I I λR=>QL I I<|QI I (λ_ _ f k=>Pd (la:=[(9:Rat)].map JP) (lb:=[[57]]) (rb:=⟨some ⟨R,0,none⟩,1,1⟩) f k.1.1.1.1.1.1.1.1.1.1.1.1.1.2.1 (Qy.of (n:=1) (sz:=1) (cs:=[[57]].map tx) k.2 I) k.1.1.1.1.1.1.1.1.1.1.1.1.1.2.2.1.symm I (by rw[k.1.1.1.1.1.1.1.1.1.1.1.1.1.2.2.1];decide) tG) λ_=>QL I I<|QA (XL I)<|wD 3 I<|Yj I<|wC 4 I ?_
  refine wA 2 I<|QA (Qg I Sk) ?_
  rw[u];refine QA (QT (v:=.bool false) rfl rfl rfl)<|wB 4 I<|QA (Q3 (n:=o.1.n) (0) (λF h9=>h9.1.1.1.1.1.1.1.1.1.1.1.1.1.1.1.1.1.1.1.1.1.1.1.1.1.1.2.row) rfl wS Sk J0 O)<|QL I I<|QA (JA (n:=o.1.n) ((0)*1) (λF h9=>h9.1.1.1.1.1.1.1.1.1.1.1.1.1.1.1.1.1.1.1.1.1.1.1.1.1.1.2.row) O rfl J0 (XT (f:=Sr.v) (l:=o.2) O))<|QL I I<|QA (Q4 I Zb Xa (wV I I I))<|QL I I<|QA (Q4 I Zb Xa (wV I I I))<|QL I I<|QA (Q4 I Zb Xa (wV I I I))<|QL I I<|Qb I (Q5 XF) Jd Xa I I λQ=>QL I I<|QI I (λ_ _ f k=>YC (ra:=el o.2 0) (rb:=⟨some ⟨Q,0,none⟩,3,3⟩) f (k.1.1.1.1.1.1.1.1.1.1.1.1.1.1.1.1.1.1.1.1.1.1.1.1.1.1.1.2.el 0 tF).CW (ZR (l:=[([49],[50]),([49],[50]),([49,47,50],[49])]) k.2) ((k.1.1.1.1.1.1.1.1.1.1.1.1.1.1.1.1.1.1.1.1.1.1.1.1.1.1.1.2.el 0 tF).n1 tF) tG) λ_=>QL I I<|QA (XL I)<|wB 5 I ?_
  refine QA (Q4 I Zb Xa (wV I I I))<|QL I I<|Qb I (Q5 XF) Jd Xa I I λP=>QL I I<|QI I (λ_ _ f k=>YC (ra:=H) (rb:=⟨some ⟨P,0,none⟩,1,1⟩) f k.1.1.1.1.1.1.1.1.1.1.1.1.1.1.1.1.1.1.1.1.1.1.1.1.1.1.1.1.2.CW (ZR (l:=[([49],[57,47,52])]) k.2) (k.1.1.1.1.1.1.1.1.1.1.1.1.1.1.1.1.1.1.1.1.1.1.1.1.1.1.1.1.2.n1 tF) tG) λ_=>QL I I<|QA (XL I)<|wD 3 I<|Yj I<|wC 5 I<|QA (Q4 I Zb Xa (wV I I I))<|Qb I (Q5 XF) Jd Xa I I λN=>QI I (λ_ _ f k=>YC (ra:=c53) (rb:=⟨some ⟨N,0,none⟩,1,1⟩) f k.1.1.1.1.1.1.1.1.1.1.1.1.1.1.1.1.1.1.1.1.1.1.1.1.1.1.2.CW (ZR (l:=[([49,51,47,56],[55,47,52])]) k.2) (k.1.1.1.1.1.1.1.1.1.1.1.1.1.1.1.1.1.1.1.1.1.1.1.1.1.1.2.n1 tF) tG) λ_=>wB 2 I<|QA (QH I Ec JF)<|QL I I<|QA (Qe I JF .here .h1)<|QL I I ?_
  refine QA (VE I I)<|wB 3 I<|QA (QH I Ub J0)<|QL I I<|QA (Qe I J0 .here (.skip .h1))<|wB 3 I<|QI I (λ_ _ f k=>YC (ra:=E.1) (rb:=H) f k.1.1.1.1.1.1.1.1.1.1.1.1.1.1.1.1.1.1.1.1.1.1.1.1.1.1.2.1.CW k.1.1.1.1.1.1.1.1.1.1.1.1.1.1.1.1.1.1.1.1.1.1.1.1.1.1.1.1.1.1.1.2.CW (k.1.1.1.1.1.1.1.1.1.1.1.1.1.1.1.1.1.1.1.1.1.1.1.1.1.1.2.1.n1 tF) rfl) λ_=>wB 3 I<|QA (QH I N6 J0)<|QL I I<|QA (Qe I J0 .here (.skip (.skip .h1)))<|QL I I<|QA (Q4 I Zb Xa (wV I I I))<|QL I I<|Qb I (Q5 XF) Jd Xa I I λM=>QL I I<|QI I (λ_ _ f k=>YC (ra:=E.2) (rb:=⟨some ⟨M,0,none⟩,1,1⟩) f k.1.1.1.1.1.1.1.1.1.1.1.1.1.1.1.1.1.1.1.1.1.1.1.1.1.1.1.1.2.2.CW (ZR (l:=[([51,47,50],[50])]) k.2) (k.1.1.1.1.1.1.1.1.1.1.1.1.1.1.1.1.1.1.1.1.1.1.1.1.1.1.1.1.2.2.n1 tF) tG) λ_=>wB 2 I ?_
  refine wY<|QX ?_
  exact wg I I (rfl) tL
 refine Qo I (Q5 XF) Jd Xa I I (λb27=>?_) (λw h=>h.imp tP tM);refine JC<|Xe 1 tE tE rfl rfl rfl<|QR rfl (λ_ _ f k=>VC f) λ_=>JC<|Xe 4 tE tE rfl rfl rfl<|QR rfl (λ_ _ f k=>ID (y:=g) (r:=⟨some ⟨b27,0,none⟩,1,1⟩) f k.1.1.1 k.1.1.2 (ZR (l:=[([49],[50])]) k.1.2) (VS tG)) λo=>Yl _ (λ_ _ f h=>ax h.2.QEU h.2.len) λA=>?_
 obtain⟨u,T⟩:=A;have u:o.1.n=1:=u;rw[u]at T;refine JC<|Jr 5 tE rfl rfl<|QK (QD I)<|JC<|Jr 6 tE rfl rfl<|QK (Qa I I)<|JC<|Jr 7 tE rfl rfl<|QK (Qa I I)<|JC<|Jr 8 tE rfl rfl<|QK (QF I)<|JC<|Jr 9 tE rfl rfl<|QK (QF I)<|JC<|Yk<|QC<|wa<|QA (wO I J6 .here)<|QA (QH I YM J0)<|QA (Qe I J0 .here (.skip (.skip .h1)))<|QI I (λw F z ⟨⟨⟨⟨i,b⟩,m⟩,_⟩,B⟩=>kL (y:=g) (r:=g.st) z i b b.st b.kg) λH=>wW I ?_
 refine wD 8 I<|QA (wO I J6 .here)<|QA (QH I YM J0)<|QA (Qe I J0 .here (.skip (.skip .h1)))<|QA (Q4 I Zb Xa (wV I I I))<|Qb I (Q5 XF) Jd Xa I I λb43=>QI I (λw F z ⟨⟨⟨⟨⟨⟨i,b⟩,m⟩,_⟩,B⟩,C⟩,j⟩=>kN (y:=g) (r:=g.st) (rz:=⟨some ⟨b43,0,none⟩,1,1⟩) z i b b.st b.kg (ZR (l:=[([49],[50])]) j) (VS tG)) λ_=>wD 9 I<|QA (wO I J6 .here)<|QA (QH I YM J0) ?_
 refine QA (Qe I J0 .here (.skip (.skip .h1)))<|QA (Q4 I Zb Xa (wV I I I))<|Qb I (Q5 XF) Jd Xa I I λb52=>QI I (λw F z ⟨⟨⟨⟨⟨⟨⟨⟨i,b⟩,m⟩,_⟩,B⟩,C⟩,j⟩,_⟩,x⟩=>QAP (y:=g) (r:=g.st) (rz:=⟨some ⟨b52,0,none⟩,1,1⟩) z i b b.st b.kg (ZR (l:=[([49],[50])]) x) (VS tG)) λc53=>wD 9 I<|QA (wO I J6 .here)<|QA (QH I YM J0)<|QA (Qe I J0 .here (.skip (.skip .h1)))<|QI I (λw F z ⟨⟨⟨⟨⟨⟨⟨⟨⟨i,b⟩,m⟩,_⟩,B⟩,C⟩,j⟩,_⟩,x⟩,h53⟩=>kJ (y:=g) (r:=g.st) z i b b.st b.kg) λE=>wB 3 I<|Qc Wt λb10=>QW (vs:=[_,_,_]) I I I X8 I .here .h3 wu<|wD 3 I ?_
 refine QG<|JG we mixed tE<|QR I (λ_ _ f k=>Aq (s:=[49]) f (by show 1<=1000000;decide)) λc64=>QK (QH I YM J0)<|QK (Qe I J0 .u1 (.skip (.skip .h1)))<|QR I (λ_ _ f k=>kK (y:=c64) (r:=g.st) f k.1.1.1.1.1.1.1.1.1.1.1 k.2 k.1.1.1.1.1.1.1.1.1.1.2.st k.1.1.1.1.1.1.1.1.1.1.2.kg) λc67=>QK (QD I)<|QK (Qa I I)<|QK (Qa I I)<|QK (QF I)<|QK (QF I)<|Q7<|QC<|wa<|QI I (λ_ _ f k=>Aq (s:=[49]) f (by show 1<=1000000;decide)) λZ=>QI I (λ_ _ f k=>VC f) λ_=>QA (Q4 I Zb Xa (wV I I I))<|Qb I (Q5 XF) Jd Xa I I λb74=>QI I (λ_ _ f k=>QAQ (y:=Z) (r:=⟨some ⟨b74,0,none⟩,1,1⟩) f k.1.1.1.1.1.1.1.1.1.1.1.1.1.1.1 k.1.1.2 (ZR (l:=[([45,51],[50])]) k.2) (VS tG)) λc75=>wB 5 I ?_
 refine wY<|wa<|QI rfl (λ_ _ f k=>Gc f) λY=>QI rfl (λ_ _ f k=>VC f) λ_=>QA (Q4 rfl Zb Xa (wV rfl rfl rfl))<|QA (Q4 rfl Zb Xa (wV rfl rfl rfl))<|Qb rfl (Q5 XF) Jd Xa rfl rfl λb83=>QI rfl (λ_ _ f k=>QAR (y:=Y) (r:=⟨some ⟨b83,0,none⟩,2,2⟩) f k.1.1.1.1.1.1.1.1.1.1.1.1.1.1.1.1.1.1.1 k.1.1.2 (ZR (l:=[([45,51],[50]),([48],[57])]) k.2) (VS tG)) λ_=>wW rfl<|QA (Qa rfl rfl)<|QA (Qa rfl rfl)<|wX rfl<|wZ rfl<|wa<|QI rfl (λ_ _ f k=>Gc f) λX=>Qb rfl (Q5 YG) JF Im rfl rfl λb89=>QI rfl (λ_ _ f k=>QAO (y:=X) (q:=some ⟨b89,0,none⟩) (c:=2) f k.1.1.1.1.1.1.1.1.1.1.1.1.1.1.1.1.1.1.1.1.1.1 k.1.2 (Qy.of (n:=2) (sz:=1) (cs:=[[49,47,50],[49]].map tx) k.2 rfl)) λD=>JQ _ (λ_ _ f h=>ax h.2.a.len h.2.d) λA=>?_
 obtain⟨l90,U⟩:=A;have S:D.1.n=2:=by have:=congrArg aV U;rw[ab,yE]at this;omega
 refine wD 9 I<|QI I (λ_ _ f k=>Gc f) λV=>Qb I (Q5 Q2) JK R4 I I λL=>QA (Q4 I BC KV (wV I I I))<|Qb I (Q5 Q2) JK R4 I I λK=>QA (Q4 I BC KV (wV I I I))<|Qb I (Q5 Zg) Xh KV I I λb99=>wW I<|QI I (λ_ _ f h=>kM (y:=V) (a:=(ko b99 [zc [49] L [0,2,0],zc [49] K [0,0,2]])) (c:=D) f h.1.1.1.1.1.1.1.1.1.1.1.1.1.1.1.1.1.1.1.1.1.1.1.1.1.1.1 h.1.1.1.2 (O8 (ts:=[zc [49] L [0,2,0],zc [49] K [0,0,2]]) h.2) (QFj (WX (k:=[0,2,0]) h.1.1.2) (QFk (WX (k:=[0,0,2]) h.1.2))) (ub PK I tF tF) rfl h.1.1.1.1.2) λ_=>wD 8 I ?_
 refine wA 4 I<|QA (Qu I I O)<|wW I<|QA (Qu I I O)<|wW I<|QA (Qu I I O)<|wW I<|QA (Qu I I O)<|wW I<|QA (Qu I I O)<|wW I<|QA (Qu I I O)<|wW I<|QA (Qu I I O)<|wW I<|QA (Qu I I O)<|QA (QT (v:=.bool false) rfl rfl rfl)<|wB 4 I<|QA (QT (v:=.bool false) rfl rfl rfl) ?_
 refine wB 5 I<|QA (XL I)<|wB 5 I<|QA (XL I)<|wB 5 I<|QA (Qg I EC)<|QL I I ?_
 rw[S];refine QA (QT (v:=.bool false) rfl rfl rfl)<|wB 5 I<|QA (QT (v:=.bool false) rfl rfl (QE8 _))<|wB 5 I<|Qb I (Q5 YG) JF Im I I λR=>QL I I<|QI I (λ_ _ f k=>Pd (la:=[(9:Rat)].map JP) (lb:=[[57]]) (rb:=⟨some ⟨R,0,none⟩,1,1⟩) f k.1.1.1.1.1.1.1.1.1.1.1.1.1.2.1 (Qy.of (n:=1) (sz:=1) (cs:=[[57]].map tx) k.2 I) k.1.1.1.1.1.1.1.1.1.1.1.1.1.2.2.1.symm I (by rw[k.1.1.1.1.1.1.1.1.1.1.1.1.1.2.2.1];decide) tG) λ_=>QL I I<|QA (XL I)<|wD 3 I<|Yj I<|wC 4 I ?_
 refine wA 2 I<|QA (Qg I Sk) ?_
 rw[u];refine QA (QT (v:=.bool false) rfl rfl rfl)<|wB 4 I<|QA (Q3 (n:=o.1.n) (0) (λF h9=>h9.1.1.1.1.1.1.1.1.1.1.1.1.1.1.1.1.1.1.1.1.1.1.1.1.1.1.2.row) rfl wS Sk J0 O)<|QL I I<|QA (JA (n:=o.1.n) ((0)*1) (λF h9=>h9.1.1.1.1.1.1.1.1.1.1.1.1.1.1.1.1.1.1.1.1.1.1.1.1.1.1.2.row) O rfl J0 (XT (f:=Sr.v) (l:=o.2) O))<|QL I I<|QA (Q4 I Zb Xa (wV I I I))<|QL I I<|QA (Q4 I Zb Xa (wV I I I))<|QL I I<|QA (Q4 I Zb Xa (wV I I I))<|QL I I<|Qb I (Q5 XF) Jd Xa I I λQ=>QL I I<|QI I (λ_ _ f k=>YC (ra:=el o.2 0) (rb:=⟨some ⟨Q,0,none⟩,3,3⟩) f (k.1.1.1.1.1.1.1.1.1.1.1.1.1.1.1.1.1.1.1.1.1.1.1.1.1.1.1.2.el 0 tF).CW (ZR (l:=[([49],[50]),([49],[50]),([49,47,50],[49])]) k.2) ((k.1.1.1.1.1.1.1.1.1.1.1.1.1.1.1.1.1.1.1.1.1.1.1.1.1.1.1.2.el 0 tF).n1 tF) tG) λ_=>QL I I<|QA (XL I)<|wB 5 I ?_
 refine QA (Q4 I Zb Xa (wV I I I))<|QL I I<|Qb I (Q5 XF) Jd Xa I I λP=>QL I I<|QI I (λ_ _ f k=>YC (ra:=H) (rb:=⟨some ⟨P,0,none⟩,1,1⟩) f k.1.1.1.1.1.1.1.1.1.1.1.1.1.1.1.1.1.1.1.1.1.1.1.1.1.1.1.1.2.CW (ZR (l:=[([49],[57,47,52])]) k.2) (k.1.1.1.1.1.1.1.1.1.1.1.1.1.1.1.1.1.1.1.1.1.1.1.1.1.1.1.1.2.n1 tF) tG) λ_=>QL I I<|QA (XL I)<|wD 3 I<|Yj I<|wC 5 I<|QA (Q4 I Zb Xa (wV I I I))<|Qb I (Q5 XF) Jd Xa I I λN=>QI I (λ_ _ f k=>YC (ra:=c53) (rb:=⟨some ⟨N,0,none⟩,1,1⟩) f k.1.1.1.1.1.1.1.1.1.1.1.1.1.1.1.1.1.1.1.1.1.1.1.1.1.1.2.CW (ZR (l:=[([49,51,47,56],[55,47,52])]) k.2) (k.1.1.1.1.1.1.1.1.1.1.1.1.1.1.1.1.1.1.1.1.1.1.1.1.1.1.2.n1 tF) tG) λ_=>wB 2 I<|QA (QH I Ec JF)<|QL I I<|QA (Qe I JF .here .h1)<|QL I I ?_
 refine QA (VE I I)<|wB 3 I<|QA (QH I Ub J0)<|QL I I<|QA (Qe I J0 .here (.skip .h1))<|wB 3 I<|QI I (λ_ _ f k=>YC (ra:=E.1) (rb:=H) f k.1.1.1.1.1.1.1.1.1.1.1.1.1.1.1.1.1.1.1.1.1.1.1.1.1.1.2.1.CW k.1.1.1.1.1.1.1.1.1.1.1.1.1.1.1.1.1.1.1.1.1.1.1.1.1.1.1.1.1.1.1.2.CW (k.1.1.1.1.1.1.1.1.1.1.1.1.1.1.1.1.1.1.1.1.1.1.1.1.1.1.2.1.n1 tF) rfl) λ_=>wB 3 I<|QA (QH I N6 J0)<|QL I I<|QA (Qe I J0 .here (.skip (.skip .h1)))<|QL I I<|QA (Q4 I Zb Xa (wV I I I))<|QL I I<|Qb I (Q5 XF) Jd Xa I I λM=>QL I I<|QI I (λ_ _ f k=>YC (ra:=E.2) (rb:=⟨some ⟨M,0,none⟩,1,1⟩) f k.1.1.1.1.1.1.1.1.1.1.1.1.1.1.1.1.1.1.1.1.1.1.1.1.1.1.1.1.2.2.CW (ZR (l:=[([51,47,50],[50])]) k.2) (k.1.1.1.1.1.1.1.1.1.1.1.1.1.1.1.1.1.1.1.1.1.1.1.1.1.1.1.1.2.2.n1 tF) tG) λ_=>wB 2 I ?_
 refine wY<|QX ?_
 exact wg I I (rfl) tL
end Go.Proofs.YtjcphjpkimmmjaaGreatDoor
