/- Steps of the proof of the theorem in the last file. -/
import Derived.Test.YtogkbhegfnklhaaGreatDoorP3
set_option linter.all false
set_option maxHeartbeats 4000000
open Go.Proofs.Tryz
open Nat renaming le_refl -> aa,zero_add -> ae,mul_le_mul_right -> af,mul_zero -> ah,mul_le_mul_left -> ak,add_zero -> ao,not_lt_zero -> aw,le_mul_of_pos_left -> ax,zero_le -> az,add_mul -> aA,min_le_right -> aF,zero_mul -> aH,mul_succ -> aK,lt_or_ge -> aM,le_trans -> aQ,pow_pos -> aR,pow_one -> aS,mul_add -> aT
open Int renaming toNat_natCast -> ai,natAbs_natCast -> aD
open List renaming length_map -> aj,length_append -> aq,take_length -> ar,map_append -> au,perm_append_comm -> ay,mem_map_of_mem -> aB,getElem_of_mem -> aC,getElem_map -> aE
open And renaming intro -> aG
namespace Go.Proofs.YtogkbhegfnklhaaGreatDoor
variable{F:Gs}{c:Sr×List Px}{w:World}{y:YA}{B L Q i n:Nat}{l:List (List UInt8×List UInt8)}{tt:List (List (Rat×Rat))}{α:Type}{xs:List (Fr×Rat)}{vb:List Xf}
open Go.RowKit Ig
structure NW(F:Gs)(c:Sr×List Px)(rs:List (List Tm)):Prop where
 row:Qz F c.1.q c.1.n 1 (c.2.map λe=>e.1.v)
 pls:LG F c.2
 val:qk c.2=rs
 len:c.2.length=c.1.n
def NW.le{a:Gs}{rs:List (List Tm)}(h:NW F c rs)(k:Gs.le F a):NW a c rs:=⟨h.row.le k,λe he=>(h.pls e he).le k,h.val,h.len⟩
instance{c:Sr×List Px}{rs:List (List Tm)}: Up (λF=>NW F c rs):=⟨λk h=>NW.le h k⟩
def NW.EC{rs:List (List Tm)}(h:NW F c rs):rs.length=c.1.n:=by rw[<-h.val,<-h.len];simp[qk]
def NW.at{rs:List (List Tm)}(h:NW F c rs){i:Nat}(hi:i<c.1.n):Ws F (el c.2 i).1 (el c.2 i).2 (KP (el c.2 i).2)/\KP (el c.2 i).2=el rs i:=by
 have h1:=h.len;refine⟨h.pls _ (Qy O),?_⟩;rw[<-h.val,JB (show i<c.2.length by omega),JB (by simp[qk];omega)];simp[qk]
def IY(y:YA)(c:Sr×List Px):List Value:=[.slice y.nm.q y.nm.n y.nm.cap,.slice y.rt.q y.rt.n y.rt.cap,.slice y.st.q y.st.n y.st.cap,.int .i64 ((y.nm.n:Int)+1),c.1.v]
theorem QDI(hF:Fits F w)(X:JU F)(hy:KM F y)(ht:Sg y)(he:y.e=0):QU prog 31 [y.v] w F (λ(c:Sr×List Px)=>.tuple #[.agg (IY y c).toArray,.int .i64 0]) (λc F=>NW F c y.rs):=by
 have E:=hy.ok he;have hrl:=hy.EC;have hsl:=hy.Sq;have hn1:=E.n1;have g:=E.rn;have hsn:=E.sn;refine QU.go (G:=λF=>JU F/\KM F y) func31 hF ⟨X,hy⟩ ?_;refine QNz<|Qv I (vs:=[_,_,_]) I λb1=>Qe uT λb2=>QOm 6 I<|QA (wI I H5 .u1)<|QL I (λ_ _ f k=>G3 (y:=y) f k.1 k.2 ht) λ_=>?_
 rw[he];refine QOm 9 I ?_;refine QP I (λhc=>?_) λhc=>?_
 ·exact absurd hc (wu)
 refine QOn 4 I<|QA (wI I H5 .u1)<|QA (QH rfl G6 Ks)<|QA (Qa rfl Ks .u1 .h1)<|QA (Qb rfl Kt)<|QA (Qk rfl rfl O)<|QA (XM rfl QFU uT (.cons (vs:=[_,_,_]) rfl rfl rfl .h3 (.cons (vs:=[_]) rfl rfl rfl (.skip (.skip (.skip .h1))) (.cons (vs:=[_]) rfl rfl rfl (.skip (.skip (.skip (.skip .h1)))) .nil))))<|Qe uT λb5=>QV (vs:=[_,_,_,_,_]) rfl rfl rfl UC rfl .here .h5 wW<|QOm 5 I<|QA (QH rfl WO YQ)<|QA (Qa rfl YQ .u2 (.skip .h1))<|QA (Qb rfl WY)<|QMu rfl<|QMt<|QQ<|Jf (ι:=RdJ y) [(2,_),(5,_),(21,_),(22,_)] (λi=>[(23,.int .i64 ((i.i:Nat):Int))]) (λi=>(b5,.cells #[.slice y.nm.q y.nm.n y.nm.cap,.slice y.rt.q y.rt.n y.rt.cap,.slice y.st.q y.st.n y.st.cap,.int .i64 ((y.nm.n:Int)+1),i.v] 66 (0,0))::(b2,.cells [.slice none 0 0,.slice none 0 0,.slice none 0 0,.int .i64 0,.slice none 0 0].toArray 66 (0,0))::i.ob) (λi F=>LG F i.ps) (λi=>y.rl.length-i.i) (⟨0,.slice none 0 0,[],[],az _,.nil,rfl⟩) wV wS (tC) (λ_ _ _ h=>by cases h) λi=>?_
 have hi:=i.le;refine wA 6 I ?_;refine QP I (λhc=>?_) λhc=>?_
 ·have m:i.i<y.rl.length:=wg<|QOW hc
  have b:=Qy m;refine QOn 6 I<|QA (Qs (n:=y.rt.n) i.i (λF h9=>h9.1.1.2.rt) rfl rfl WY GI O)<|QA (Qu (n:=y.rt.n) ((i.i)*1) (λF h9=>h9.1.1.2.rt) O rfl GI (X0 (f:=λe:UM=>e.1.v) (l:=y.rl) O))<|wQ I<|Jq 7 tC mixed wi wi ?_
  simp only[List.take_succ_cons,List.take_zero,List.drop_succ_cons,List.drop_zero];refine QK (QH I C2 Gg)<|QK (Qa I Gg .here (.skip (.skip (.skip (.skip .h1)))))<|QK (QC I)<|QZ I (λ_ _ f k=>Lu f k.1.1.1 (k.1.1.2.pl _ b).1 (k.1.1.2.pl _ b).2 (ht.tm _ b) (E.pl _ b) O) λz=>KL _ (λ_ _ f h=>h.2.2.2.1) λY=>?_
  refine JK I (Jc Nw) Gi LR I I (λb31=>?_) (λw h=>h.imp tC w7);refine VG (ay (l₁:=[_,_])) ?_;refine V1 (n:=i.i) (k:=1) (sz:=1) (news:=[z.1.v]) I I Nw Gi LR I kD i.hr (Src.row (off:=0) w8 (λj q hq=>by rw[ae];rw[List.getElem?_toArray];exact hq) rfl) O O (λv hv=>by rw[List.mem_singleton.1 hv];rfl) QNG (λ_ h=>h.1.1) (λo x a=>?_);refine VG (ay (l₂:=[_,_]))<|QK (QH I C2 Gg)<|Zf<|QV (vs:=[o]) I I a.one.2 Gg I .here (.skip (.skip (.skip (.skip .h1)))) ⟨a.one.1,trivial⟩<|QE<|Qf<|QD<|QB<|QA (Qk I I O)<|wB 2 I ?_
  exact Qh (⟨i.i+1,o,x,i.ps++[z],m,by rw[au];exact a,by unfold qk;rw[au,Lo m,<-Y];exact congrArg (·++_) i.hq⟩) (by show y.rl.length-(i.i+1)<y.rl.length-i.i;omega) wW QNG λF h9=>⟨⟨⟨h9.1.1.1.1.1,h9.1.1.1.1.2⟩,trivial⟩,h9.1.1.2.snoc h9.1.2⟩
 have U:i.i=y.rl.length:=by have:=QOX hc;have:=i.le;omega
 refine Q7 ?_;refine QG<|QB ?_
 have H:=i.len;obtain⟨⟨rq,rn,rc⟩,K,g,L,d⟩:=Q2.fix (w0:=w) (F0:=F) (bs1:=[_,_]) (G:=_) i.hr;dsimp only at g L d;subst g;refine Vz d ?_;rw[K];dsimp only[Sr.v];refine QA (QR (vs:=[_,_,_,_,_]) I UC .here .h5 rfl)<|QV (vs:=[_,_,_,_,_]) I I I UC I .u1 .h5 wW<|wQ I<|QW ?_
 exact Xm (((⟨rq,i.i,rc⟩,i.ps):Sr×List Px)) I (.Jo (c:=[_,_,_,_,_]) I UC .u1 (wN I)) (rfl) λF h9=>⟨h9.2,h9.1.2,by have e:=i.hq;rw[U]at e;rw[e];exact List.take_of_length_le (by unfold YA.rs;rw[aj];exact aa _),H⟩
def Oa(h:M6 n l=0):l.length=n/\∀s∈l,XF s.1 s.2=0:=by
 unfold M6 at h;by_cases g:l.length≠n
 ·rw[if_pos g]at h;cases h
 rw[if_neg g]at h;exact⟨O,λs a=>Xt h _ (aB a)⟩
def lV(l:List (List UInt8×List UInt8)):List (Rat×Rat):=l.map Jp
def Wj(l:List (List UInt8×List UInt8)):(lV l).length=l.length:=by simp[lV]
def yR(x:Int):Qn [x]=x:=by
 unfold Qn;split
 ·rename_i h;rw[h];rfl
 rfl
def Ma.pn{y:SyP}{rs:List (List Tm)}{vs:List (Rat×Rat)}{k:Nat}(h:Ma F y rs vs)(hk:∀l∈rs,l.length<=k):∀e∈y.ps,e.1.n<=k:=λe he=>by
 have h1:=(h.pls e he).2.2.2.2;have h2:=hk (KP e.2) (by rw[<-h.val];exact aB (f:=λe:Px=>KP e.2) he);rw[GY]at h2;omega
def jF.short(h:jF y):∀l∈y.rs,l.length<=64:=λl a=>by
 unfold YA.rs at a;obtain⟨e,he,rfl⟩:=List.mem_map.1 a;unfold Hs;rw[aj];exact(h.pl e he).len
def ZV.nl{r:Sr}{l:List Vy}{vs:List (Rat×Rat)}(h:ZV F r l vs):r.n=vs.length:=h.P9.symm
def vC(F:Gs)(c:Sr)(vs:List (Rat×Rat)):Prop:=Qz F c.q c.n 2 (vs.flatMap QAp)/\c.n=vs.length/\c.n<=c.cap
theorem j9{r:Sr}(d:Fits F w)(a:JU F)(hx:qd F r l)(hc:BxT r l)(c:∀s∈l,XF s.1 s.2=0):FU prog 43 [r.v] w F (lV l):=Am d a hx.row hx.len hc.n λs b=>⟨c s b,hc.t s b⟩
def gV{b:Int}(h:Uy b=0):1<=b/\b<=16:=by
 unfold Uy at h;by_cases g:(decide (b<1)||decide (b>16))=true
 ·rw[if_pos g]at h;cases h
 simp only[Bool.or_eq_true,decide_eq_true_eq]at g;omega
instance :Inhabited Sr:=⟨⟨none,0,0⟩⟩
def Ll(y:YA)(t:List UInt8×List UInt8)(l:List (List UInt8×List UInt8))(o:Int):Int:=Qn [y.e,XF t.1 t.2,M6 y.nm.n l,Uy o]
def seR(e:Int)(a:List (List (Rat×Rat))):Int×List (List (Rat×Rat)):=if e≠0 then(e,[])else(if a.any K1=true then 4 else 0,if a.any K1=true then[]else a)
def uu{e:Int}(h:e≠0):seR e tt=(e,[]):=by unfold seR;rw[if_pos h]
def Fs(a:List (List (Rat×Rat))):seR 0 a=(if a.any K1=true then 4 else 0,if a.any K1=true then[]else a):=rfl
structure Oj(F:Gs)(c:Sr×List Sr)(tt:List (List (Rat×Rat))):Prop where
 row:Qz F c.1.q c.1.n 1 (c.2.map Sr.v)
 len:c.2.length=c.1.n
 QJk:c.1.n=tt.length
 el:∀j,j<tt.length->vC F (el c.2 j) (el tt j)
def Oj.nil(F:Gs):Oj F (⟨none,0,0⟩,[]) []:=⟨Qz.nil F none 1,rfl,rfl,λj h=>absurd h (aw _)⟩
structure SeJ(tt:List (List (Rat×Rat))) where
 i:Nat
 v:Value
 ob:List (Nat×Obj)
 rs:List Sr
 le:i<=tt.length
 len:rs.length=i
 hr:Q2 24 1 v i (rs.map Sr.v) ob
 no:∀j,j<i->K1 (el tt j)=false
def uA(h:i<tt.length)(k:K1 (el tt i)=true):tt.any K1=true:=List.any_eq_true.2 ⟨_,Qy h,k⟩
def any_none(h:∀j,j<tt.length->K1 (el tt j)=false):tt.any K1=false:=by
 cases e:tt.any K1 with
 |false=>rfl
 |true =>
  obtain⟨x,hx,k⟩:=List.any_eq_true.1 e;obtain⟨j,a,rfl⟩:=aC hx;have:=h j a;rw[JB a,k]at this;cases this
def QBQ{l:List BxL}{j:Nat}{v:Value}(h:i<l.length)(hv:[(el l i).1.v][j]?=some v):(l.map λe=>e.1.v)[i*1+j]?=some v:=by
 match j,hv with
 |0,hv=>rw[ao,Nat.mul_one,List.getElem?_map,List.getElem?_eq_getElem h,Option.map_some,<-JB h];exact hv
 |j+1,hv=>simp at hv
def Te[Inhabited α]{l:List α}{x:α}{j:Nat}(h:j<l.length):el (l++[x]) j=el l j:=by rw[JB h,JB (by rw[aq];omega),List.getElem_append_left h]
def OT[Inhabited α](l:List α)(x:α):el (l++[x]) l.length=x:=by rw[JB wu];simp
theorem ye{t:List UInt8×List UInt8}(c:Fits F w)(a:JU F)(h:XF t.1 t.2=0)(b:t.1.length<=1000000/\t.2.length<=1000000):VO prog 42 [.agg #[tx t.1,tx t.2]] w F (Jp t):=OS c a (B3 h).1 (B3 h).2.1 b
theorem ur{t:List UInt8×List UInt8}{r:Sr}{o:Int}(hF:Fits F w)(m:JU F)(hy:KM F y)(ht:Sg y)(htl:t.1.length<=1000000/\t.2.length<=1000000)(hx:qd F r l)(hc:BxT r l)(U:Ll y t l o=0->uF y.rs (Jp t) (lV l) o.toNat/\∀b∈(Jk y.rs (Jp t) (lV l) o.toNat),∀a∈b,GP a 100000000):
  QU prog 10 [y.v,.agg #[tx t.1,tx t.2],r.v,.int .i64 o] w F (λ(c:Sr×List Sr)=>.tuple #[c.1.v,.int .i64 (seR (Ll y t l o) (Jk y.rs (Jp t) (lV l) o.toNat)).1]) (λc F=>Oj F c (seR (Ll y t l o) (Jk y.rs (Jp t) (lV l) o.toNat)).2):=by
 refine QU.go (G:=λF=>JU F/\KM F y/\qd F r l) func10 hF ⟨m,hy,hx⟩ ?_;refine QNz<|Qv I (vs:=[_,_,_]) I λb4=>Qv I (vs:=[_,_]) I λb5=>QOm 6 I<|JO QNG mixed wi<|QK (wI I H5 .u1)<|QZ I (λ_ _ f k=>G3 (y:=y) f k.1 k.2.1 ht) λ_=>QK (wH I Xb .here)<|QZ I (λ_ _ f k=>HK f k.1.1 htl) λ_=>QK (wI I H5 .u1)<|QK (QC I)<|QZ I (λw F hF ⟨⟨⟨m,hy,hx⟩,_⟩,_⟩=>LB (y:=y) hF m hy hx hc) λ_=>QK (QC I)<|QZ I (λ_ _ f k=>To f) λ_=>?_
 refine JK I (Jc Yv) WR Fj I I (λb25=>?_) (λw h=>h.imp tC λF h=>h.1.1.1.1);refine QZ I (λ_ _ f k=>zS f (Qz.of (cs:=List.map JJ [_,_,_,_]) k.2 I) wj) (λ_=>QK (QF I)<|Qw<|QOo 7 I ?_);refine QP I (λd=>?_) λd=>?_
 ·have g:Ll y t l o≠0:=bne_iff_ne.1 d;refine wA 8 I ?_;exact Xm (((⟨none,0,0⟩,[]):Sr×List Sr)) I (wO I I) (by rw[uu g];rfl) λF h9=>by rw[uu g];exact Oj.nil F
 have g:Ll y t l o=0:=bne_eq_false_iff_eq.1 d;have U:=U g;have hye:y.e=0:=Xt g _ (.head _);have hts:=Xt g (XF t.1 t.2) (.tail _ (.head _));have hbx:M6 y.nm.n l=0:=Xt g _ (.tail _ (.tail _ (.head _)));have hor:=gV (Xt g (Uy o) (.tail _ (.tail _ (.tail _ (.head _)))));have ho:=hy.ok hye;have hn1:=ho.n1;have hn0:=ho.n0;have hrn:=ho.rn;have hxl:=(Oa hbx).1;have hrs:y.rs.length=y.nm.n:=by unfold YA.rs;rw[aj,hy.EC,hrn]
 obtain⟨n,rfl⟩:∃n:Nat,o=(n:Int):=⟨o.toNat,O⟩;rw[ai]at U;have htl2:(Jk y.rs (Jp t) (lV l) n).length=l.length:=by rw[ZM,Wj]
 refine QOn 4 I<|wQ rfl<|QG<|QG<|JO QNG mixed wi<|QK (wI I H5 .u1)<|QZ rfl (λ_ _ f k=>S1 (y:=y) f k.1.1.1.1.1.1.1 k.1.1.1.1.1.1.2.1 ht ho) λc31=>QK (wH I Xb .here)<|QZ rfl (λ_ _ f k=>ye f k.1.1.1.1.1.1.1.1 hts htl) λc33=>QK (QC rfl)<|QZ rfl (λ_ _ f k=>j9 f k.1.1.1.1.1.1.1.1.1 k.1.1.1.1.1.1.1.1.2.2 hc (Oa hbx).2) λc35=>KL _ (λw F hF ⟨⟨⟨⟨⟨⟨⟨⟨⟨⟨m,hy,hx⟩,_⟩,_⟩,_⟩,_⟩,E⟩,_⟩,H⟩,h33⟩,h35⟩=>aG h35.nl (aG H.EC (H.pn ho.short))) λhnn=>?_
 obtain⟨hn35,hn31,hp31⟩:=hnn;rw[Wj]at hn35;refine QK (QC I)<|QZ I (λ_ _ f k=>jt (n:=n) (x:=c33) f k.1.1.2 k.1.2 k.2 O O O O (λe he=>wg<|hp31 e he) U.1) λz=>KL _ (λ_ _ f h=>aG h.2.2.2.1 h.2.2.2.2.1) λh37p=>?_
 obtain⟨L,hl37⟩:=h37p;have hn37:z.1.n=l.length:=by rw[<-hl37,<-Wj l,<-ZM y.rs (Jp t) (lV l) n,<-L,aj]
 refine QK (Qb I Ep)<|QK (QC I)<|Qw<|QD<|QQ<|Jf (ι:=SeJ (Jk y.rs (Jp t) (lV l) n)) [(37,_),(38,_)] (λi=>[(11,i.v),(39,.int .i64 ((i.i:Nat):Int))]) (λi=>i.ob) (λi F=>∀j,j<i.i->vC F (el i.rs j) (el (Jk y.rs (Jp t) (lV l) n) j)) (λi=>l.length-i.i) (⟨0,.slice none 0 0,[],[],az _,rfl,.nil,λj h=>absurd h (aw _)⟩) wT wT (tA) (λ_ _ j h=>absurd h (aw _)) λi=>?_
 have hi:=i.le;refine wA 6 I ?_;refine QP I (λd=>?_) λd=>?_
 ·have hlt:i.i<l.length:=wg<|QOW d
  have hil:=i.len;refine XD _ (λw F hF ⟨⟨⟨⟨⟨⟨⟨⟨⟨⟨⟨⟨m,hy,hx⟩,_⟩,_⟩,_⟩,_⟩,E⟩,_⟩,H⟩,h33⟩,h35⟩,Y⟩,hS⟩=>(kE Y.2.1 L (show i.i<z.2.length by omega)).nl) (λhnel=>?_);rw[Kf _ _ _ _ (by rw[Wj];exact hlt)]at hnel;refine QOn 6 I<|QA (Qs (n:=z.1.n) i.i (λF h9=>h9.1.2.1) rfl rfl Ep Xg O)<|QA (J0 (n:=z.1.n) (vs:=[(el z.2 i.i).1.v]) (i.i*1) (λF h9=>h9.1.2.1) O rfl Xg I λj v hv=>QBQ (show i.i<z.2.length by omega) hv)<|Qe BP λb13=>QV (vs:=[_]) I I I Xg I .here .h1 wS<|QMt<|QNz<|QA (QH I ZO XG)<|QA (Qa I XG .here .h1)<|QL I (λw F hF ⟨⟨⟨⟨⟨⟨⟨⟨⟨⟨⟨⟨m,hy,hx⟩,_⟩,_⟩,_⟩,_⟩,E⟩,_⟩,H⟩,h33⟩,h35⟩,Y⟩,hS⟩=>yZ (r:=(el z.2 i.i).1) (l:=(el z.2 i.i).2) (vs:=el (Jk y.rs (Jp t) (lV l) n) i.i) hF m (kE Y.2.1 L O) (by rw[hnel];omega) (U.2 _ (Qy (by rw[ZM,Wj];omega)))) λK=>QOm 14 I ?_
  refine QP I (λd=>?_) λd=>?_
  ·have hL:K1 (el (Jk y.rs (Jp t) (lV l) n) i.i)=true:=by
    cases e:K1 (el (Jk y.rs (Jp t) (lV l) n) i.i)with
    |true=>rfl
    |false=>rw[e]at d;cases d
   have X:=uA (show i.i<(Jk y.rs (Jp t) (lV l) n).length by omega) hL;refine wA 7 I<|X4 ?_
   exact Xm (((⟨none,0,0⟩,[]):Sr×List Sr)) I (wO I I) (by rw[g,Fs,ai,if_pos X,hL];rfl) λF h9=>by rw[g,Fs,ai,if_pos X,if_pos X];exact Oj.nil F
  have hL:K1 (el (Jk y.rs (Jp t) (lV l) n) i.i)=false:=by
   cases e:K1 (el (Jk y.rs (Jp t) (lV l) n) i.i)with
   |false=>rfl
   |true=>rw[e]at d;cases d
  refine QOn 5 I<|JC I (Jc UF) ZF QEp I I λb54=>?_
  refine Z1 (bs1:=[_]) (ob:=i.ob) (n:=i.i) (k:=1) (sz:=1) (news:=[K.v]) I I UF ZF QEp I QGs i.hr (Src.row (off:=0) w8 (λj q hq=>by rw[ae];rw[List.getElem?_toArray];exact hq) rfl) O O (λv hv=>by rw[List.mem_singleton.1 hv];rfl) (λv55 ob55 hr55=>?_);refine wB 2 I<|Qf<|QD<|QB<|QA (Qk I I O)<|wB 2 I ?_
  exact Qh (⟨i.i+1,v55,ob55,i.rs++[K],O,by rw[aq,i.len];rfl,by rw[au];exact hr55,λj hj=>by
      rcases Nat.lt_succ_iff_lt_or_eq.1 hj with h | rfl
      ·exact i.no j h
      ·exact hL⟩) (by show l.length-(i.i+1)<l.length-i.i;omega) wV ((.cons _ QNG)) (λF ⟨⟨⟨⟨⟨⟨⟨⟨⟨⟨⟨⟨⟨⟨m,hy,hx⟩,_⟩,_⟩,_⟩,_⟩,E⟩,_⟩,H⟩,h33⟩,h35⟩,Y⟩,hS⟩,h46⟩,hs54⟩=>⟨⟨⟨⟨⟨⟨⟨⟨⟨⟨⟨⟨m,hy,hx⟩,trivial⟩,trivial⟩,trivial⟩,trivial⟩,E⟩,trivial⟩,H⟩,h33⟩,h35⟩,Y⟩,λj hj=>by
      rcases Nat.lt_succ_iff_lt_or_eq.1 hj with h | rfl
      ·show vC F (el (i.rs++[K]) j) _;rw[Te O];exact hS j h
      show vC F (el (i.rs++[K]) i.i) _;rw[show el (i.rs++[K]) i.i=K by conv=>{ lhs;rw[<-hil] };exact OT _ _];rw[hL]at h46;exact h46⟩)
 have hge:i.i=l.length:=by have:=QOX d;have:=i.le;omega
 have hno:(Jk y.rs (Jp t) (lV l) n).any K1=false:=any_none λj hj=>i.no j O;refine Q7 ?_;refine QG<|QB ?_
 have hxl:=i.len;obtain⟨⟨rq,rn,rc⟩,hv2,hrn,hrc,hfix⟩:=Q2.fix (w0:=w) (F0:=F) (bs1:=[]) (G:=_) i.hr;dsimp only at hrn hrc hfix;subst hrn;refine Vz hfix ?_;rw[hv2];dsimp only[Sr.v];refine QOm 6 I ?_;exact Xm (((⟨rq,i.i,rc⟩,i.rs):Sr×List Sr)) I (wO I I) (by rw[g,Fs,ai,hno];rfl) λF h9=>by rw[g,Fs,ai,hno];show Oj F (⟨rq,i.i,rc⟩,i.rs) (Jk y.rs (Jp t) (lV l) n);exact⟨h9.2,hxl,by show i.i=_;rw[htl2];exact hge,λj hj=>h9.1.2 j (by rw[htl2]at hj;omega)⟩
structure NtJ(n:Nat) where
 i:Nat
 le:i<=n
def jI(xs:List (Fr×Rat)):List (List UInt8):=xs.map λp=>Q5 p.2
def xJ(h:i<xs.length):(jI (xs.take (i+1))).map tx=(jI (xs.take i)).map tx++[tx (Q5 (el xs i).2)]:=by rw[Zb h];simp[jI]
def gG(h:i<=xs.length):((jI (xs.take i)).map tx).length=i:=by simp[jI];omega
def gL{vs:List Value}{z v:Value}(h:vs.length=i)(hi:i<n):Yz (vs++Jz [z] (n-i)) (0+i*1) [v] ((vs++[v])++Jz [z] (n-(i+1))):=xu h hi
theorem zQ{q:Option Addr}{c:Nat}(K:Fits F w)(z:JU F)(H:Qz F q n 4 (YO xs))(E:Vp F xs)(L:xs.length=n)(U:n<=1000000)(hz:∀p∈xs,J6 p.2<=100000000):
  QU prog 87 [.slice q n c] w F (λ(c:Sr)=>c.v) (λc F=>Qz F c.q c.n 1 ((jI xs).map tx)/\c.n=n/\c.n<=c.cap):=by
 refine QU.go (G:=λF=>JU F/\Qz F q n 4 (YO xs)/\Vp F xs) func87 K ⟨z,H,E⟩ ?_;refine wA 8 I<|QA (Qb I Zg)<|Gf (n:=n) (bytes:=16) rfl rfl D3 JQ QEn I QGr O O λo=>Vz (E':=⟨w,F,[(o,.cells ((jI (xs.take 0)).map tx++Jz [tx []] (n-0)).toArray 27 (0,0))],λF=>JU F/\Qz F q n 4 (YO xs)/\Vp F xs⟩) w6<|QOm 7 I<|QA (Qb I Zg)<|QOm 4 I<|Jf (ι:=NtJ xs.length) [(3,_),(9,_),(10,_)] (λi=>[(11,.int .i64 ((i.i:Nat):Int))]) (λi=>[(o,.cells ((jI (xs.take i.i)).map tx++Jz [tx []] (n-i.i)).toArray 27 (0,0))]) (λi F=>True) (λi=>xs.length-i.i) (⟨0,az _⟩) wU wS QNG wy λi=>?_
 have hi:=i.le;refine wA 6 I ?_;refine QP I (λg=>?_) λg=>?_
 ·have a:i.i<xs.length:=wg<|QOW g
  have m:=Qy a;refine QOn 7 I<|QA (Qs (n:=n) i.i (λF h9=>h9.1.2.1) rfl rfl Zg Qm O)<|QA (J0 (n:=n) (vs:=[.int .i64 (el xs i.i).1.n.s,.slice (el xs i.i).1.n.q (el xs i.i).1.n.n (el xs i.i).1.n.cap,.int .i64 (el xs i.i).1.d.s,.slice (el xs i.i).1.d.q (el xs i.i).1.d.n (el xs i.i).1.d.cap]) ((i.i)*4) (λF h9=>h9.1.2.1) O rfl Qm I λj v hv=>JX (f:=(λe=>GN e.1)) (l:=xs) (λ_=>rfl) O hv)<|Qe Yu λX=>QMv I<|QV (vs:=[_,_,_,_]) I I I Qm I .here .h4 wV<|QOm 5 I<|QA (wJ I Qm .here)<|QL I (λ_ _ f k=>TW f k.1.1 (k.1.2.2 _ m) (hz _ m)) λ_=>QA (Ql (i:=i.i) rfl rfl D3 JQ O)<|QV (vs:=[tx (Q5 (el xs i.i).2)]) I I I JQ I .u1 (gL (gG O) O) wS<|QE<|Qf<|QD<|QB<|QA (Qk I I O)<|wB 2 I ?_
  exact Qh (⟨i.i+1,a⟩) (by show xs.length-(i.i+1)<xs.length-i.i;omega) wV ((by rw[xJ a];exact .cons _ QNG)) λF h=>⟨h.1.1,trivial⟩
 have y:i.i=xs.length:=by have:=QOX g;have:=i.le;omega
 refine Q7 ?_;refine QG<|QB ?_
 have x:Jz [tx []] (n-i.i)=[]:=by rw[show n-i.i=0 from by omega];rfl
 rw[x,List.append_nil,y,ar];refine Kg (b:=o) .here<|QOm 5 I ?_
 exact QO ((⟨some ⟨o,0,none⟩,n,n⟩:Sr)) I (wN I) (rfl) λF h9=>⟨Qz.of h9.2 (by simp[jI];omega),rfl,aa _⟩
def UD(v:List (Rat×Rat)):List (List UInt8×List UInt8):=v.map λa=>(Q5 a.1,Q5 a.2)
def Pz(v:List (Rat×Rat)):(UD v).length=v.length:=by simp[UD]
def vC.bxa{c:Sr}{v:List (Rat×Rat)}(h:vC F c v):qd F c (UD v):=⟨by
 have e:(UD v).flatMap D0=v.flatMap QAp:=by unfold UD;rw[List.flatMap_map];rfl
 rw[e];exact h.1,by rw[Pz];exact h.2.1.symm⟩
def QDK{β:Type}(l:List α)(x:α)(f:α->List β):(l++[x]).flatMap f=l.flatMap f++f x:=by rw[List.flatMap_append];simp
def PZ[Inhabited α]{l:List α}{x:α}{i:Nat}(a:l.length=i):el (l++[x]) i=x:=by subst a;exact OT l x
def Cl.zero(d b:Nat):Cl Q d b 0:=⟨0,by rw[Rat.zero_divInt],wu⟩
theorem Cl.one(d b:Nat)(h0:0<Q):Cl Q d b 1:=⟨((Q^d:Nat):Int),by
 have a:((Q^d:Nat):Int)≠0:=wg (aR (n:=d) h0);rw[Rat.divInt_self' a],by rw[aD];exact ax _ (aR wj)⟩
theorem NY{P:Rat->Prop}:∀(l:List Rat) (s:Rat×Rat),P s.1->P s.2->(∀x∈l,P x)->P (l.foldl Xx s).1/\P (l.foldl Xx s).2
 |[],s,h1,h2,_=>⟨h1,h2⟩
 |x::l,s,h1,h2,h=>by
  have hx:=h x wu;exact NY l (Xx s x) (by unfold Xx;dsimp only;split<;>assumption) (by unfold Xx;dsimp only;split<;>assumption) λy hy=>h y (by simp[hy])
def V0(Q d b:Nat)(x:Rat×Rat):Prop:=Cl Q d b x.1/\Cl Q d b x.2
section
variable{Q d b e c:Nat}{x y:Rat×Rat}(h0:0<Q)
include h0
theorem V0.mono(h:V0 Q d b x)(hd:d<=e)(hb:b<=c):V0 Q e c x:=⟨h.1.mono h0 hd hb,h.2.mono h0 hd hb⟩
theorem V0.add(h:V0 Q d b x)(k:V0 Q d b y):V0 Q d (b+1) (RQ x y):=⟨h.1.add h0 k.1,h.2.add h0 k.2⟩
theorem V0.times(h:V0 Q d b x)(k:V0 Q e c y):V0 Q (d+e) (b+c) (XP x y):=by
 have h11:=h.1.mul h0 k.1;have h12:=h.1.mul h0 k.2;have f:=h.2.mul h0 k.1;have a:=h.2.mul h0 k.2;exact NY (P:=Cl Q (d+e) (b+c)) _ _ h11 h11 λz hz=>by
  simp only[List.mem_cons,List.not_mem_nil,or_false]at hz;rcases hz with rfl | rfl | rfl<;>assumption
theorem V0.LV(h:V0 Q d b x):GP x (b+d*sz (Q:Int)+2):=⟨h.1.J6 h0,h.2.J6 h0⟩
theorem V0.zero:V0 Q d b (0,0):=⟨.zero d b,.zero d b⟩
def D4(Q al be d b:Nat)(a:List Xf):Prop:=∀k,k<a.length->V0 Q (al*k+d) (be*k+b) (el a k)
variable{al be:Nat}{a a':List Xf}
theorem D4.mono{d' b':Nat}(h:D4 Q al be d b a)(hd:d<=d')(hb:b<=b'):D4 Q al be d' b' a:=λk hk=>(h k hk).mono h0 O O
theorem Ff(ha:D4 Q al be d b a)(hb:D4 Q al be e c a'){k:Nat}(hk:k<a.length)(f:a.length<=a'.length):∀i,i<=k+1->V0 Q (al*k+(d+e)) (be*k+(b+c)+i) (Vq a a' k i):=by
 intro i
 induction i with
 |zero=>intro _;exact V0.zero h0
 |succ i ih =>
  intro hi;rw[Bs];have h1:=ih O;have h2:=V0.times h0 (ha i O) (hb (k-i) O);have h:al*i+al*(k-i)=al*k:=by rw[<-aT];congr 1;omega
  have g:be*i+be*(k-i)=be*k:=by rw[<-aT];congr 1;omega
  exact V0.add h0 h1 (h2.mono h0 (c:=be*k+(b+c)+i) O O)
theorem jq(ha:D4 Q al be d b a)(hb:D4 Q al be e c a')(f:a.length<=a'.length)(g:a.length<=L):D4 Q al be (d+e) (b+c+L) (Yi a a'):=λk hk=>by
 rw[BV]at hk;unfold Yi;rw[Z8 _ hk];exact(Ff h0 ha hb hk f (k+1) (aa _)).mono h0 (aa _) O
theorem gR(ha:D4 Q al be d b a)(hb:D4 Q al be d b a')(c:a.length<=a'.length):D4 Q al be d (b+1) (VY a a'):=λk hk=>by
 rw[Hh]at hk;unfold VY;rw[Z8 _ hk];exact V0.add h0 (ha k hk) (hb k O)
theorem yy{r:Rat}(h:Cl Q 1 b r):D4 Q al be 1 b (WT r n):=λk hk=>by
 rw[Kx]at hk
 match k,hk with
 |0,_=>show V0 Q (al*0+1) (be*0+b) (r,r);rw[ah,ae,ah,ae];exact⟨h,h⟩
 |k+1,hk =>
  have a:el (WT r n) (k+1)=(0,0):=by rw[JB (by rw[Kx];exact hk)];simp[WT]
  rw[a];exact V0.zero h0
theorem kA{t:Xf}(h:V0 Q 1 b t):D4 Q al be 1 b (ZA t n):=λk hk=>by
 rw[Vg]at hk
 match n,k,hk with
 |0,0,_=>show V0 Q (al*0+1) (be*0+b) t;rw[ah,ae,ah,ae];exact h
 |n+1,0,_=>show V0 Q (al*0+1) (be*0+b) t;rw[ah,ae,ah,ae];exact h
 |n+1,1,_=>exact⟨.one _ _ h0,.one _ _ h0⟩
 |n+1,k+2,hk =>
  have a:el (ZA t (n+1)) (k+2)=(0,0):=by rw[JB (by rw[Vg];exact hk)];simp[ZA]
  rw[a];exact V0.zero h0
theorem CH{y z:List Xf}(hy:D4 Q al be d b y)(hz:D4 Q al be 1 B z)(a:y.length<=z.length)(c:y.length<=L):∀i,D4 Q al be (d+i) (b+i*(B+L)) (GS y z i):=by
 intro i
 induction i with
 |zero=>rw[ao,aH,ao];exact hy
 |succ i ih =>
  rw[Nb];have h1:=jq h0 (L:=L) ih hz (by rw[Kv];exact a) (by rw[Kv];exact c);refine h1.mono h0 O ?_;rw[aA];omega
def ZW(ks:List Int):Nat->Nat
 |0=>0
 |v+1=>ZW ks v+(Qg ks v).toNat
omit h0 in
theorem Rf(ks:List Int){v w:Nat}(h:v<=w):ZW ks v<=ZW ks w:=by
 induction w with
 |zero=>rw[Nat.le_zero.1 h];exact aa _
 |succ w ih =>
  rcases aM v (w+1)with g | g
  ·exact aQ (ih O) (Nat.le_add_right _ _)
  rw[Nat.le_antisymm h g];exact aa _
theorem CU{r:Rat}{ks:List Int}{all:List (List Xf)}(hr:Cl Q 1 B r)(ha:∀v,v<all.length->D4 Q al be 1 B (el all v)/\(el all v).length=n+1)(a:n+1<=L):∀v,v<=all.length->D4 Q al be (1+ZW ks v) (B+ZW ks v*(B+L)) (Ki r ks all n v):=by
 intro v
 induction v with
 |zero=>intro _;show D4 Q al be (1+0) (B+0*(B+L)) (WT r n);rw[ao,aH,ao];exact yy h0 hr
 |succ v ih =>
  intro hv;have h1:=ha v hv;rw[Nc];have h2:=CH h0 (L:=L) (ih O) h1.1 (by rw[X1,h1.2];exact aa _) (by rw[X1];exact a) (Qg ks v).toNat;refine h2.mono h0 (by show 1+ZW ks v+_<=1+(ZW ks v+_);omega) ?_;show B+ZW ks v*(B+L)+_<=B+(ZW ks v+_)*(B+L);rw[aA];omega
theorem Mn{D:Nat}{p:List Tm}{all:List (List Xf)}(hp:∀u∈p,Cl Q 1 B u.1/\ZW u.2 all.length<=D)(ha:∀v,v<all.length->D4 Q al be 1 B (el all v)/\(el all v).length=n+1)(c:n+1<=L):∀j,j<=p.length->D4 Q al be (1+D) (B+D*(B+L)+j) (Z6 (p.take j) all n):=by
 intro j
 induction j with
 |zero=>intro _;exact(yy h0 (b:=0) (.zero 1 0)).mono h0 O O
 |succ j ih =>
  intro a;have hu:=hp _ (Qy a);rw[BX a];have h1:=CU h0 (ks:=(el p j).2) hu.1 ha c all.length (aa _);have h2:ZW (el p j).2 all.length*(B+L)<=D*(B+L):=af _ hu.2;exact gR h0 (ih O) (h1.mono h0 (b':=B+D*(B+L)+j) O O) (by rw[ZD,X1];exact aa _)
theorem D4.LV(h:D4 Q al be d b a)(c:a.length<=n+1){M:Nat}(f:be*n+b+(al*n+d)*sz (Q:Int)+2<=M):∀x∈a,GP x M:=λx hx=>by
 obtain⟨k,hk,rfl⟩:=aC hx;rw[<-JB hk];have h1:=V0.LV h0 (h k hk);have h2:be*k<=be*n:=ak _ O;have h3:(al*k+d)*sz (Q:Int)<=(al*n+d)*sz (Q:Int):=af _ (by have:al*k<=al*n:=ak _ O;omega);exact h1.mono O
end
structure TyC(Q B D T n:Nat)(rs:List (List Tm))(t:Xf)(vb:List Xf):Prop where
 q0:0<Q
 inv:∀k,k<n->Cl Q 1 0 ((((k+1:Nat):Int):Rat)⁻¹)
 Nd:∀i,i<rs.length->∀u∈el rs i,Cl Q 1 B u.1/\ZW u.2 (vb.length+1)<=D/\u.2.length=vb.length+1/\∀k∈u.2,0<=k/\k<=1000
 len:∀i,i<rs.length->(el rs i).length<=T
 tm:V0 Q 1 B t
 box:∀x∈vb,V0 Q 1 B x
 hn:rs.length=vb.length
def Z9{rs:List (List Tm)}{t:Xf}(k:Nat):(ZA t k::Jk rs t vb k).length=vb.length+1:=by rw[List.length_cons,ZM]
theorem gE{D T:Nat}{rs:List (List Tm)}{t:Xf}(h:TyC Q B D T n rs t vb):∀k,k<=n->∀i,i<vb.length->D4 Q (D+1) (D*(B+(n+1))+T) 1 B (el (Jk rs t vb k) i):=by
 intro k
 induction k with
 |zero =>
  intro _ i hi;have f:el (Jk rs t vb 0) i=[el vb i]:=by
   show el (vb.map λx=>[x]) i=_;rw[JB (by rw[aj];exact hi),aE,JB hi]
  rw[f];intro j b;have d:j=0:=by simpa using b
  subst d;rw[ah,ae,ah,ae];exact h.box _ (Qy hi)
 |succ k ih =>
  intro hk i hi;have ih:=ih O;have f:el (Jk rs t vb (k+1)) i=el (Jk rs t vb k) i++[XP (el (Z6 (el rs i) (ZA t k::Jk rs t vb k) k) k) ((((k+1:Nat):Int):Rat)⁻¹,(((k+1:Nat):Int):Rat)⁻¹)]:=by
   rw[Jk,Z8 _ hi]
  have m:(el (Jk rs t vb k) i).length=k+1:=Kf rs t vb k hi;have ha:∀v,v<(ZA t k::Jk rs t vb k).length->D4 Q (D+1) (D*(B+(n+1))+T) 1 B (el (ZA t k::Jk rs t vb k) v)/\(el (ZA t k::Jk rs t vb k) v).length=k+1:=λv hv=>by
   rw[Z9]at hv
   match v,hv with
   |0,_=>exact⟨kA h.q0 h.tm,Vg t k⟩
   |v+1,hv=>exact⟨ih v O,Kf rs t vb k O⟩
  rw[f];intro j b;rw[aq,m]at b;rcases aM j (k+1)with g | g
  ·rw[Te O];exact ih i hi j O
  have c:j=k+1:=by simp at b;omega
  subst c;rw[PZ m];have a:i<rs.length:=by rw[h.hn];exact hi
  have h1:=Mn h.q0 (L:=n+1) (D:=D) (p:=el rs i) (λu hu=>⟨(h.Nd i a u hu).1,by rw[Z9];exact(h.Nd i a u hu).2.1⟩) ha O (el rs i).length (aa _);rw[ar]at h1;have h2:=h1 k (by rw[ZD];omega);have o:=h.len i a;have h3:=V0.times h.q0 h2 (y:=((((k+1:Nat):Int):Rat)⁻¹,(((k+1:Nat):Int):Rat)⁻¹)) ⟨h.inv k O,h.inv k O⟩;refine h3.mono h.q0 ?_ ?_
  ·rw[aK];omega
  rw[aK];omega
def Dl{D T:Nat}{rs:List (List Tm)}{t:Xf}(h:TyC Q B D T n rs t vb){k:Nat}(hk:k<=n):∀v,v<(ZA t k::Jk rs t vb k).length->D4 Q (D+1) (D*(B+(n+1))+T) 1 B (el (ZA t k::Jk rs t vb k) v)/\(el (ZA t k::Jk rs t vb k) v).length=k+1:=λv hv=>by
 rw[Z9]at hv
 match v,hv with
 |0,_=>exact⟨kA h.q0 h.tm,Vg t k⟩
 |v+1,hv=>exact⟨gE h k hk v O,Kf rs t vb k O⟩
def tyM(Q B D T n:Nat):Nat:=(D*(B+(n+1))+T)*n+(2*B+D*(B+(n+1))+T+n+1)+((D+1)*n+(D+2))*sz (Q:Int)+2
theorem TyC.ok{D T:Nat}{rs:List (List Tm)}{t:Xf}(h:TyC Q B D T n rs t vb)(E:tyM Q B D T n<=20000000):uF rs t vb n:=by
 unfold tyM at E;have a:∀u w:Nat,u<=w->u*sz (Q:Int)<=w*sz (Q:Int):=λu w g=>af _ g;have hm:∀k,k<n->∀i,i<rs.length->∀u∈el rs i,∀v,v<=vb.length+1->D4 Q (D+1) (D*(B+(n+1))+T) (1+ZW u.2 v) (B+ZW u.2 v*(B+(n+1))) (Ki u.1 u.2 (ZA t k::Jk rs t vb k) k v):=λk hk i hi u hu v hv =>
  CU h.q0 (L:=n+1) (h.Nd i hi u hu).1 (Dl h O) O v (by rw[Z9];exact hv)
 have f:∀i,i<rs.length->∀u∈el rs i,∀v,v<=vb.length+1->ZW u.2 v<=D/\ZW u.2 v*(B+(n+1))<=D*(B+(n+1)):=λi hi u hu v hv=>by
  have h1:=aQ (Rf u.2 hv) (h.Nd i hi u hu).2.1;exact⟨h1,af _ h1⟩
 refine⟨λk hk i hi u hu=>⟨⟨by rw[Z9];exact(h.Nd i hi u hu).2.2.1,(h.Nd i hi u hu).2.2.2⟩,λv hv j x=>?_⟩,λk hk i hi u hu=>?_,λk hk i hi j=>?_,λk hk i hi=>?_⟩
 ·rw[(h.Nd i hi u hu).2.2.1]at hv;have h1:=hm k hk i hi u hu v O;have h2:=Dl h (k:=k) O v (by rw[Z9];exact hv);have h3:=CH h.q0 (L:=n+1) h1 h2.1 (by rw[X1,h2.2];exact aa _) (by rw[X1];omega) j;have h4:=f i hi u hu (v+1) hv;have h5:ZW u.2 v+j<=ZW u.2 (v+1):=by show _<=ZW u.2 v+_;omega
  have h6:ZW u.2 v*(B+(n+1))+j*(B+(n+1))<=D*(B+(n+1)):=by rw[<-aA];exact af _ O
  have h7:=h3.mono h.q0 (d':=1+D) (b':=B+D*(B+(n+1))) O O;have o:(GS (Ki u.1 u.2 (ZA t k::Jk rs t vb k) k v) (el (ZA t k::Jk rs t vb k) v) j).length=k+1:=by rw[Kv,X1]
  have c:=a ((D+1)*n+(1+D)) ((D+1)*n+(D+2)) O;have H:=a ((D+1)*n+1) ((D+1)*n+(D+2)) O;have F:=a ((D+1)*n+(1+D+1)) ((D+1)*n+(D+2)) O;refine⟨λm b=>⟨?_,?_⟩,λm b y d=>?_⟩
  ·exact h7.LV h.q0 (n:=n) O O _ (Qy b)
  ·exact h2.1.LV h.q0 (n:=n) O O _ (Qy O)
  have h8:=V0.LV h.q0 (Ff h.q0 h7 h2.1 b O y d);refine h8.mono ?_;have g1:(D*(B+(n+1))+T)*m<=(D*(B+(n+1))+T)*n:=ak _ O;have K:((D+1)*m+(1+D+1))*sz (Q:Int)<=((D+1)*n+(1+D+1))*sz (Q:Int):=a _ _ (by have:(D+1)*m<=(D+1)*n:=ak _ O;omega);omega
 ·have h1:=hm k hk i hi u hu (vb.length+1) (aa _);have h4:=f i hi u hu (vb.length+1) (aa _);have c:=a ((D+1)*n+(1+D)) ((D+1)*n+(D+2)) O;exact(h1.mono h.q0 (d':=1+D) (b':=B+D*(B+(n+1))) O O).LV h.q0 (n:=n) (by rw[X1];omega) O
 ·have c:=a ((D+1)*n+(1+D)) ((D+1)*n+(D+2)) O;have z:=h.len i hi;have x:(el rs i).take j=(el rs i).take (min j (el rs i).length):=by rw[List.take_eq_take_min]
  rw[x];have h1:=Mn h.q0 (L:=n+1) (D:=D) (p:=el rs i) (n:=k) (λu hu=>⟨(h.Nd i hi u hu).1,by rw[Z9];exact(h.Nd i hi u hu).2.1⟩) (Dl h O) O (min j (el rs i).length) (aF _ _);exact h1.LV h.q0 (n:=n) (by rw[ZD];omega) (wg<|aF j (el rs i).length)
 have c:=a ((D+1)*n+(1+D)) ((D+1)*n+(D+2)) O;have z:=h.len i hi;have h1:=Mn h.q0 (L:=n+1) (D:=D) (p:=el rs i) (n:=k) (λu hu=>⟨(h.Nd i hi u hu).1,by rw[Z9];exact(h.Nd i hi u hu).2.1⟩) (Dl h O) O (el rs i).length (aa _);rw[ar]at h1;exact h1.LV h.q0 (n:=n) (by rw[ZD];omega) O _ (Qy (by rw[ZD];omega))
def QFY(l:List Xf):Prop:=∀i,i<l.length->(el l i).1<=(el l i).2
def QDO{β:Type}[Inhabited α][Inhabited β](f:α->β){l:List α}{i:Nat}(h:i<l.length):el (l.map f) i=f (el l i):=by
 rw[JB (by simpa using h),JB h,aE]
instance :Inhabited (List UInt8×List UInt8):=⟨([],[])⟩
def yE{k:Nat}(h0:0<Q)(hd:(k+1) ∣ Q):Cl Q 1 0 ((((k+1:Nat):Int):Rat)⁻¹):=by
 obtain⟨q,rfl⟩:=hd;have a:0<q:=Nat.pos_of_ne_zero (by rintro rfl;simp at h0);refine⟨q,?_,?_⟩
 ·rw[aS,Int.natCast_mul];have e:Rat.divInt (q:Int) (((k+1:Nat):Int)*(q:Int))=Rat.divInt (1*(q:Int)) (((k+1:Nat):Int)*(q:Int)):=by rw[Int.one_mul]
  rw[e,Rat.divInt_mul_right O,Rat.divInt_eq_div,Rat.div_def,Rat.intCast_one,Rat.one_mul]
 rw[aS,aD,Nat.pow_zero,Nat.one_mul];exact ax _ O
def Q0:Nat:=2^64*720720
def QCT:0<Q0:=wk
def R1:List (List Tm):=([[([49],[0,1])]]:List Pt).map Hs
def QGI:∀k,k<16->Cl Q0 1 0 ((((k+1:Nat):Int):Rat)⁻¹):=λk hk=>yE QCT (Nat.dvd_of_mod_eq_zero ((by decide +kernel:∀k,k<16->Q0%(k+1)=0) k hk))
end Go.Proofs.YtogkbhegfnklhaaGreatDoor
