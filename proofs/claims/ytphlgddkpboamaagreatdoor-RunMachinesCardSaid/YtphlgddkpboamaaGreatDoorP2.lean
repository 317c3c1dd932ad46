/- Steps of the proof of the theorem in the last file. -/
import Derived.Test.YtphlgddkpboamaaGreatDoorP1
import Derived.MapKept
import Derived.Maps.RangeRun
import Derived.RangeFuncLeaves
import Derived.RangeFuncSeq
import Derived.OwnWalkIn
import Derived.OrdersIn
import Derived.KernelRfl
import Derived.Scope
import Derived.Control
set_option linter.all false
set_option maxHeartbeats 4000000
open Go.Proofs.Tryz
open Go.Lib renaming trimPrefix -> aa,hasPrefix -> ak,decDigits -> ao,decDigits_length -> aW
open Rat renaming divInt -> ae,add_assoc -> aT,add_zero -> aX,zero_add -> bO,add_comm -> eN,neg_num -> eT,neg_divInt_neg -> eX,mkRat_self -> fv,pow_zero -> fB,pow_succ -> fC,le_trans -> fD,neg_den -> fN
open Go.Value renaming bool -> af,int -> ar
open List renaming length_take -> ah,eq_nil_of_length_eq_zero -> ai,length_append -> aj,length_cons -> au,length_drop -> ay,drop_of_length_le -> aB,length_singleton -> aG,getElem?_toArray -> aR,take_length -> aS,length_eq_zero_iff -> bh,cons_append -> bj,take_of_length_le -> bw,nil_append -> bA,getElem?_eq_none -> bD,replicate -> bF,mem_cons_of_mem -> bH,mem_cons_self -> bL,drop_append -> bY,foldl_cons -> ee,takeWhile_cons_of_pos -> ew,range -> ey,drop_zero -> eB,mem_of_find?_eq_some -> eC,sum_cons -> eE,all_cons -> eF,getElem?_cons_succ -> eH,range' -> eP,length_zipWith -> eU,length_nil -> fh,isPrefixOf -> fi,find?_some -> fj,take_zero -> fm,length -> fH
open Nat renaming mul_lt_mul_of_lt_of_lt -> aq,eq_zero_or_pos -> ax,pow_le_pow_right -> aV,gcd -> aY,zero_le -> ba,le_refl -> bg,zero_add -> bz,pow_le_pow_left -> bJ,sub_zero -> bP,lt_or_ge -> bQ,le_trans -> bS,div_le_self -> er,eq_of_beq_eq_true -> eO,zero_mul -> fF,sub_self -> fG,pow_one -> fO,add_mul -> fP
open Bool renaming and_eq_true -> aA,eq_iff_iff -> aD,or_eq_true -> bB,or_eq_false_iff -> eR,not_eq_false' -> eW,false_and -> fu,true_and -> fA
open And renaming intro -> aC
open Int renaming gcd -> aE,natAbs_mul -> aF,mul_ne_zero -> aM,toNat_of_nonneg -> bK,toNat_natCast -> bT,pow_succ -> bU,ediv_le_self -> bZ,mul_le_mul_of_nonneg_left -> ep,natAbs_tdiv -> eu,mul_ediv_cancel_left -> eI,lt_trichotomy -> fe,gcd_dvd_left -> fk,natCast_mul -> fp,ofNat_tmod -> fw,ofNat_tdiv -> fy,lt_or_le -> fJ,mul_neg -> fQ
open Go.Region renaming waitsFor -> aH,ready -> bN,binds -> eG,waitsFor_spec -> eM
open Go.Fence renaming wide -> aK
open Go.MapKept renaming run_getObj_map -> aQ,run_setObj_map -> eD,bytes_beq -> eQ
open Go.Result renaming andThen_ok -> aZ
open List.Perm renaming refl -> bm
open Option.some renaming inj -> bI
open Go.Sem renaming run_pure -> bV,run_bind -> bW
open Array renaming ext' -> eV
open Go.IntWalk renaming i64_in -> eY
open Go.Instr renaming beginRound -> eZ,mapUpdate -> fg,findNow -> fq,lookup -> fz
open ByteArray renaming mk -> fb
open Go.Oper renaming semAt_plain -> ff,uponIn -> fK
open List.Pairwise renaming nil -> fI
open Go.Exit renaming noGoto -> fL
open Go.Act renaming put -> fM
namespace Go.Proofs.YtphlgddkpboamaaGreatDoor
variable{T kt yT:TypeId}{x:Rat}{y:Operand}{a b:List Int}{F F':Gs}{z zx:Int}{w:World}{s:List UInt8}{P:Program}{N i k:Nat}{m:Sl}{q:Option Addr}{assign body c:Code}{vs:List Value}{R:Ending->World->Prop}
open Go.RowKit Ig
section
variable{P:Program}{N:Nat}{m:Sl}{S:World->Prop}{ty:TypeId}
def Nr(P:Program)(T:TypeId):Bool:=match P.underlying T with
 |some .bool=>true
 |_=>false
def xa(h:Nr P T=true):P.underlying T=some .bool:=by
 unfold Nr at h;split at h
 ·assumption
 cases h
def Ei(hT:Nr P T=true)(a b:Bool)(w:World):(Op.equal T (.bool a) (.bool b)).run P w = .ok (a==b) w:=by
 have e:∃n,Op.maxDepth=n+1:=⟨Op.maxDepth-1,wk⟩;obtain⟨n,e⟩:=e;unfold Op.equal;rw[e];unfold Op.equalIn;simp[run_underlying (xa hT)]
theorem vf{x:Operand}{a b:Bool}(hT:Nr P T=true)(hx:ev m x=some (.bool a))(hy:ev m y=some (.bool b)):Qt P N m S (.binOp .eql T x y yT) ty (.bool (a==b)):=λs w _ _ _ _ ha _=>by
 simp only[execOp,ha.ev hx,ha.ev hy,eqGuard,binOp,bW,bV,aZ,Ei hT];rfl
theorem ve{x:Operand}{a b:Bool}(hT:Nr P T=true)(hx:ev m x=some (.bool a))(hy:ev m y=some (.bool b)):Qt P N m S (.binOp .neq T x y yT) ty (.bool (!(a==b))):=λs w _ _ _ _ ha _=>by
 simp only[execOp,ha.ev hx,ha.ev hy,eqGuard,binOp,bW,bV,aZ,Ei hT];rfl
end
structure Ri where
 neg:Bool
 r:Sr
 l:List Int
@[reducible] def Ri.v (x:Ri):Value:=.agg #[.bool x.neg,.slice x.r.q x.r.n x.r.cap]
def GW(neg:Bool)(l:List Int):Int:=if neg=true then -dv B9 l else dv B9 l
def YF(F:Gs)(x:Ri)(z:Int):Prop:=JJ F x.r x.l/\DG B9 x.l/\NZ x.l/\z=GW x.neg x.l/\(x.neg=true->0<dv B9 x.l)
def YF.le{x:Ri}(h:YF F x z)(k:Gs.le F F'):YF F' x z:=⟨h.1.le k,h.2⟩
instance{x:Ri}{z:Int}: Up (λF=>YF F x z):=⟨λk h=>YF.le h k⟩
abbrev GH(P:Program)(f:FuncId)(args:List Value)(w:World)(F:Gs)(z:Int):Prop:=QS P f args w F Ri.v λx F=>YF F x z
structure Kz(neg:Bool)(l:List Int)(z:Int):Prop where
 dg:DG B9 l
 nz:NZ l
 e:z=GW neg l
 ng:neg=true->0<dv B9 l
def YF.p{x:Ri}(h:YF F x z):Kz x.neg x.l z:=⟨h.2.1,h.2.2.1,h.2.2.2.1,h.2.2.2.2⟩
def Kz.v0{neg:Bool}{l:List Int}(h:Kz neg l z):0<=dv B9 l:=Qw Q3 h.dg
def Kz.abs{neg:Bool}{l:List Int}(h:Kz neg l z):(z.natAbs:Int)=dv B9 l:=by
 have:=h.v0;rw[h.e,GW];split<;>omega
theorem QGl{l:List Int}(h:DG B9 l)(z:NZ l):l.length<=sz (dv B9 l):=by
 rcases ax l.length with g | g
 ·omega
 have h1:=By Q3 h z (by intro e;rw[e]at g;simp at g);have h2:=Bl (dv B9 l);have h3:=Qw Q3 h;rcases bQ (sz (dv B9 l)) l.length with q | q
 ·exfalso;have h4:(2:Int)^(l.length-1)<=B9^(l.length-1):=by
   have:∀n:Nat,(2:Int)^n<=B9^n:=by
    intro n
    induction n with
    |zero=>simp
    |succ n ih =>
     rw[bU,bU];exact Int.mul_le_mul ih wk wk (Int.le_of_lt (pow_pos Q3 n))
   exact this _
  have h5:(2:Int)^sz (dv B9 l)<=2^(l.length-1):=Ig.YI wk O;have h6:((dv B9 l).natAbs:Int)<((2^sz (dv B9 l):Nat):Int):=Int.ofNat_lt.2 h2;rw[Int.natCast_pow]at h6;have:((2:Nat):Int)=2:=rfl;rw[this]at h6;omega
 exact q
def Kz.len{neg:Bool}{l:List Int}(h:Kz neg l z):l.length<=sz z:=by
 have:=QGl h.dg h.nz;have e:sz (dv B9 l)=sz z:=by
  rw[<-h.abs];unfold sz;simp
 omega
def Kz.neg{neg:Bool}{l:List Int}(h:Kz neg l z):neg=decide (z<0):=by
 have h0:=h.v0;cases neg with
 |true=>have:=h.ng I;have e:=h.e;simp only[GW,if_true]at e;symm;rw[decide_eq_true_eq];omega
 |false=>have e:=h.e;simp only[GW]at e;symm;rw[decide_eq_false_iff_not];simp at e;omega
def Kz.zero{neg:Bool}{l:List Int}(h:Kz neg l z):l=[]↔z=0:=by
 have:=Gz SZ h.dg h.nz;have e:=h.abs;rw[<-this];omega
def Lo{l:List Int}(h:DG B9 l):(0<(Qx l).length)↔0<dv B9 l:=by
 have h1:=Gz SZ h.Qx (XN l);rw[Ju]at h1;have h2:=Qw Q3 h;rw[<-bh]at h1;omega
theorem ZJ{r:Sr}{l:List Int}{neg:Bool}(hF:Fits F w)(hR:JJ F r l)(dg:DG B9 l)(hl:l.length<=1000000000):GH prog 256 [.bool neg,r.v] w F (GW neg l):=by
 obtain⟨q,n,c⟩:=r;have hn:=hR.2.1;dsimp only[Sr.v]at hn ⊢;have hlz:=XQ l;have htp:=Lo dg;have hv0:=Qw Q3 dg;refine QS.go (G:=λF=>JJ F ⟨q,n,c⟩ l) func256 hF hR ?_;refine QLF<|Qk Xf λb4=>QMW 5 I<|QL I (λ_ _ f k=>Vy f (r:=⟨q,n,c⟩) k (hl)) λc6=>QMW 7 I ?_
 refine Qa (t:=8) rfl (λhb8=>?_) λhb8=>?_
 ·refine wB 3 I<|QA (Qc I Qd)<|wB 4 I<|QA (ZT I OW Xf (wQ I I I))<|QV (vs:=[_,_]) I I I Qv I .here .h2 wU<|QJl<|QU ?_
  exact QM ((⟨decide ((((Qx l).length:Nat):Int)>0),⟨q,(Qx l).length,c⟩,Qx l⟩:Ri)) I (.J5 (c:=[_,_]) I Qv .here .nil) (rfl) λF ⟨hR,h6⟩=>⟨h6,dg.Qx,XN _,by show GW neg l=GW (decide ((((Qx l).length:Nat):Int)>0)) (Qx l);rw[GW,GW,Ju];cases neg<;>simp_all<;>omega,λhh=>by show 0<dv B9 (Qx l);rw[Ju];simp_all⟩
 refine wB 5 I<|QA (ZT I OW Xf (wQ I I I))<|QV (vs:=[_,_]) I I I Qv I .here .h2 wU<|QJl<|QU ?_
 exact QM ((⟨false,⟨q,(Qx l).length,c⟩,Qx l⟩:Ri)) I (.J5 (c:=[_,_]) I Qv .here .nil) (rfl) λF ⟨hR,h6⟩=>⟨h6,dg.Qx,XN _,by show GW neg l=GW false (Qx l);rw[GW,GW,Ju];cases neg<;>simp_all<;>omega,λhh=>by show 0<dv B9 (Qx l);rw[Ju];simp_all⟩
theorem Ag:Nr prog 4=true:=wj
def xV{x y:Int}(h:YY x y>=0):y<=x:=by
 unfold YY at h;split at h
 ·omega
 split at h<;>omega
def CY{x y:Int}(h:¬YY x y>=0):x<=y:=by
 unfold YY at h;split at h
 ·omega
 split at h<;>omega
theorem Rn{x:Ri}(hF:Fits F w)(hx:YF F x zx)(hz:sz zx<=1000000):GH prog 253 [x.v] w F (-zx):=by
 obtain⟨xn,⟨xq,xm,xc⟩,xl⟩:=x;have px:=hx.p;have lx:=px.len;have kx:=hx.1.2.1;have vx:=px.v0;dsimp only at px lx kx vx;dsimp only[Ri.v];have eqn : -zx=GW (!xn) xl:=by rw[px.e];cases xn<;>simp[GW]
 refine QS.go (G:=λF=>YF F ⟨xn,⟨xq,xm,xc⟩,xl⟩ zx) func253 hF hx ?_;refine QLF<|Q9 I (vs:=[_,_]) I λb1=>Qk Xf λb2=>QJl<|QLF<|QA (QH I YK Zi)<|QA (Qp I Zi .u1 .h1)<|QA (Xv I)<|QA (QH I J9 Qu)<|QA (Qp I Qu .u1 (.skip .h1))<|QL I (λ_ _ f k=>ZJ f (r:=⟨xq,xm,xc⟩) (l:=xl) (neg:=!xn) k.1 (px.dg) O) λc8=>QV (vs:=[_,_]) I I I Qv I .here .h2 wU<|QJl<|QU ?_
 exact QM (c8) rfl (.J5 (c:=[_,_]) I Qv .here .nil) (rfl) λF h9=>(by rw[eqn];exact h9.2)
theorem Zp{x y:Ri}{zy:Int}(hF:Fits F w)(hx:YF F x zx)(hy:YF F y zy)(hzx:sz zx<=1000000)(hzy:sz zy<=1000000):GH prog 167 [x.v,y.v] w F (zx*zy):=by
 obtain⟨xn,⟨xq,xm,xc⟩,xl⟩:=x;have px:=hx.p;have lx:=px.len;have kx:=hx.1.2.1;have vx:=px.v0;dsimp only at px lx kx vx;obtain⟨yn,⟨yq,ym,yc⟩,yl⟩:=y;have py:=hy.p;have ly:=py.len;have ky:=hy.1.2.1;have vy:=py.v0;dsimp only at py ly ky vy;dsimp only[Ri.v];refine QS.go (G:=λF=>YF F ⟨xn,⟨xq,xm,xc⟩,xl⟩ zx/\YF F ⟨yn,⟨yq,ym,yc⟩,yl⟩ zy) func167 hF ⟨hx,hy⟩ ?_;refine QLF<|Q9 I (vs:=[_,_]) I λb2=>Q9 I (vs:=[_,_]) I λb3=>Qk Xf λb4=>QJl<|QG<|JE (.cons _ tA) mixed wj<|QJ (QH I YK Zi)<|QJ (Qp I Zi .u1 .h1)<|QJ (QH I YK Zi)<|QJ (Qp I Zi .here .h1)<|QJ (ve Ag I I)<|QJ (QH I J9 Qu)<|QJ (Qp I Qu .u1 (.skip .h1))<|QJ (QH I J9 Qu)<|QJ (Qp I Qu .here (.skip .h1)) ?_
 refine QZ I (λ_ _ f k=>Vz f (a:=xl) (b:=yl) (ra:=⟨xq,xm,xc⟩) (rb:=⟨yq,ym,yc⟩) k.1.1 (k.2.1) (px.dg) (py.dg) O (by first | omega | (simp;done) | (simp;omega))) (λc14=>?_);rcases c14 with ⟨v14,l14⟩;dsimp only;refine Gm _ (λw F hF ⟨⟨hx,hy⟩,⟨h14,h14p⟩⟩=>aC h14.2 h14p) (λp14=>?_);have eqn:zx*zy=GW (!(xn==yn)) l14:=by
  have e14:=p14.2.2.1;rw[px.e,py.e];unfold GW;rw[e14];cases xn<;>cases yn<;>simp[fQ,Int.neg_mul]
 have m14:=p14.2.2.2.2;refine QZ I (λ_ _ f k=>ZJ f (r:=v14) (l:=l14) (neg:=!(xn==yn)) k.2.1 (p14.2.1) O) (λc15=>Jx (vs:=[_,_]) I I I Qv I .here tA (λ_ h=>h.1.1) .h2 wU<|Qy<|QD<|QU ?_);exact QM (c15) rfl (.J5 (c:=[_,_]) I Qv .here .nil) (rfl) λF h9=>(by rw[eqn];exact h9.2)
theorem U4{x y:Ri}{zy:Int}(hF:Fits F w)(hx:YF F x zx)(hy:YF F y zy)(hzx:sz zx<=1000000)(hzy:sz zy<=1000000):GH prog 247 [x.v,y.v] w F (zx+zy):=by
 obtain⟨xn,⟨xq,xm,xc⟩,xl⟩:=x;have px:=hx.p;have lx:=px.len;have kx:=hx.1.2.1;have vx:=px.v0;dsimp only at px lx kx vx;obtain⟨yn,⟨yq,ym,yc⟩,yl⟩:=y;have py:=hy.p;have ly:=py.len;have ky:=hy.1.2.1;have vy:=py.v0;dsimp only at py ly ky vy;dsimp only[Ri.v];refine QS.go (G:=λF=>YF F ⟨xn,⟨xq,xm,xc⟩,xl⟩ zx/\YF F ⟨yn,⟨yq,ym,yc⟩,yl⟩ zy) func247 hF ⟨hx,hy⟩ ?_;refine QLF<|Q9 I (vs:=[_,_]) I λb2=>Q9 I (vs:=[_,_]) I λb3=>Qk Xf λb4=>QMW 5 I<|QA (QH I YK Zi)<|QA (Qp I Zi .u2 .h1)<|QA (QH I YK Zi)<|QA (Qp I Zi .u1 .h1)<|QA (vf Ag I I)<|QF<|QD ?_
 refine QO I (λhc=>?_) λhc=>?_
 ·have hne:xn=yn:=by simpa using hc
  refine QG<|JE (.cons _ tA) mixed wj<|QJ (QH I YK Zi)<|QJ (Qp I Zi .u1 .h1)<|QJ (QH I J9 Qu)<|QJ (Qp I Qu .u1 (.skip .h1))<|QJ (QH I J9 Qu)<|QJ (Qp I Qu .here (.skip .h1)) ?_
  refine QZ I (λ_ _ f k=>PH f (a:=xl) (b:=yl) (ra:=⟨xq,xm,xc⟩) (rb:=⟨yq,ym,yc⟩) k.1.1 (k.2.1) (px.dg) (py.dg) O (by first | omega | (simp;done) | (simp;omega))) (λc16=>?_);rcases c16 with ⟨v16,l16⟩;dsimp only;refine Gm _ (λw F hF ⟨⟨hx,hy⟩,⟨h16,h16p⟩⟩=>aC h16.2 h16p) (λp16=>?_);have eqn:zx+zy=GW xn l16:=by
   have e16:=p16.2.2.1;rw[px.e,py.e,hne];unfold GW;rw[e16];cases yn<;>simp<;>omega
  have m16:=p16.2.2.2;refine QZ I (λ_ _ f k=>ZJ f (r:=v16) (l:=l16) (neg:=xn) k.2.1 (p16.2.1) O) (λc17=>Jx (vs:=[_,_]) I I I Qv I .here tA (λ_ h=>h.1.1) .h2 wU<|Qy<|QD<|QU ?_);exact QM (c17) rfl (.J5 (c:=[_,_]) I Qv .here .nil) (rfl) λF h9=>(by rw[eqn];exact h9.2)
 have hne:xn=!yn:=by cases xn<;>cases yn<;>simp_all
 refine QMX 5 I<|QA (QH I J9 Qu)<|QA (Qp I Qu .u2 (.skip .h1))<|QA (QH I J9 Qu)<|QA (Qp I Qu .u1 (.skip .h1))<|QL I (λ_ _ f k=>Vh f (a:=xl) (b:=yl) (ra:=⟨xq,xm,xc⟩) (rb:=⟨yq,ym,yc⟩) k.1.1 (k.2.1) (px.dg) (py.dg) (px.nz) (py.nz) O O) λ_=>QMW 3 I ?_
 refine QO I (λhc=>?_) λhc=>?_
 ·have hle:dv B9 yl<=dv B9 xl:=xV (QLr hc);have hll:=Kq py.dg px.dg py.nz hle;refine QG<|JE (.cons _ tA) mixed wj<|QJ (QH I YK Zi)<|QJ (Qp I Zi .u1 .h1)<|QJ (QH I J9 Qu)<|QJ (Qp I Qu .u1 (.skip .h1))<|QJ (QH I J9 Qu)<|QJ (Qp I Qu .here (.skip .h1)) ?_
  refine QZ I (λ_ _ f k=>Hg f (a:=xl) (b:=yl) (ra:=⟨xq,xm,xc⟩) (rb:=⟨yq,ym,yc⟩) k.1.1.1 (k.1.2.1) (px.dg) (py.dg) O O (hle)) (λc30=>?_);rcases c30 with ⟨v30,l30⟩;dsimp only;refine Gm _ (λw F hF ⟨⟨⟨hx,hy⟩,_⟩,⟨h30,h30p⟩⟩=>aC h30.2 h30p) (λp30=>?_);have eqn:zx+zy=GW xn l30:=by
   have e30:=p30.2.2.1;rw[px.e,py.e,hne];unfold GW;rw[e30];cases yn<;>simp<;>omega
  have m30:=p30.2.2.2;refine QZ I (λ_ _ f k=>ZJ f (r:=v30) (l:=l30) (neg:=xn) k.2.1 (p30.2.1) O) (λc31=>Jx (vs:=[_,_]) I I I Qv I .here tA (λ_ h=>h.1.1) .h2 wU<|Qy<|QD<|QU ?_);exact QM (c31) rfl (.J5 (c:=[_,_]) I Qv .here .nil) (rfl) λF h9=>(by rw[eqn];exact h9.2)
 have hle:dv B9 xl<=dv B9 yl:=CY (QLs hc);have hll:=Kq px.dg py.dg px.nz hle;refine QMX 3 I<|JE (.cons _ tA) mixed wj<|QJ (QH I YK Zi)<|QJ (Qp I Zi .here .h1)<|QJ (QH I J9 Qu)<|QJ (Qp I Qu .here (.skip .h1))<|QJ (QH I J9 Qu)<|QJ (Qp I Qu .u1 (.skip .h1)) ?_
 refine QZ I (λ_ _ f k=>Hg f (a:=yl) (b:=xl) (ra:=⟨yq,ym,yc⟩) (rb:=⟨xq,xm,xc⟩) k.1.2.1 (k.1.1.1) (py.dg) (px.dg) O O (hle)) (λc38=>?_);rcases c38 with ⟨v38,l38⟩;dsimp only;refine Gm _ (λw F hF ⟨⟨⟨hx,hy⟩,_⟩,⟨h38,h38p⟩⟩=>aC h38.2 h38p) (λp38=>?_);have eqn:zx+zy=GW yn l38:=by
  have e38:=p38.2.2.1;rw[px.e,py.e,hne];unfold GW;rw[e38];cases yn<;>simp<;>omega
 have m38:=p38.2.2.2;refine QZ I (λ_ _ f k=>ZJ f (r:=v38) (l:=l38) (neg:=yn) k.2.1 (p38.2.1) O) (λc39=>Jx (vs:=[_,_]) I I I Qv I .here tA (λ_ h=>h.1.1) .h2 wU<|Qy<|QD<|QU ?_);exact QM (c39) rfl (.J5 (c:=[_,_]) I Qv .here .nil) (rfl) λF h9=>(by rw[eqn];exact h9.2)
structure QHw(A B:Int) where
 ra:Sr
 rb:Sr
 a:List Int
 b:List Int
 da:DG B9 a
 db:DG B9 b
 za:NZ a
 zb:NZ b
 la:a.length<=10000000
 lb:b.length<=10000000
 nb:b.length=rb.n
 h:aE (dv B9 a) (dv B9 b)=aE A B
def Fv(x y:Int):aE y (x%y)=aE x y:=by
 rw[Int.gcd_comm y,Int.emod_def]
 first | rw[Int.gcd_sub_mul_left_left] | rw[Int.gcd_sub_mul_right_left] | rw[Int.gcd_sub_mul_left] | simp
theorem ND{ra rb:Sr}(hF:Fits F w)(hA:JJ F ra a)(hB:JJ F rb b)(da:DG B9 a)(db:DG B9 b)(za:NZ a)(zb:NZ b)(la:a.length<=10000000)(lb:b.length<=10000000):
  QS prog 246 [ra.v,rb.v] w F (λ(c:Sr×List Int)=>.slice c.1.q c.1.n c.1.cap) (λc F=>JJ F c.1 c.2/\DG B9 c.2/\NZ c.2/\dv B9 c.2=(aE (dv B9 a) (dv B9 b):Int)):=by
 refine QS.go (G:=λF=>JJ F ra a/\JJ F rb b) func246 hF ⟨hA,hB⟩ ?_;refine wA 7 I<|XC (ι:=QHw (dv B9 a) (dv B9 b)) [] (λi=>[(0,.slice i.ra.q i.ra.n i.ra.cap),(1,.slice i.rb.q i.rb.n i.rb.cap)]) (λi=>[]) (λi F=>JJ F i.ra i.a/\JJ F i.rb i.b) (λi=>(dv B9 i.b).toNat) (⟨ra,rb,a,b,da,db,za,zb,la,lb,hB.2.1,rfl⟩) trivial wU QKK w7 λi=>?_
 have hla:=i.la;have hlb:=i.lb;have hnb:=i.nb;refine wA 4 I<|QA (Qc I Qd)<|QMW 3 I ?_
 refine QO I (λhc=>?_) λhc=>?_
 ·have hpos:0<dv B9 i.b:=by
   have h1:=Gz SZ i.db i.zb;have h2:=Qw Q3 i.db;rw[<-bh]at h1;have:=QLr hc;omega
  have hm0:=Int.emod_nonneg (dv B9 i.a) (Int.ne_of_gt hpos);have hm1:=Int.emod_lt_of_pos (dv B9 i.a) hpos;refine QMX 3 I<|wS rfl<|QJm rfl<|QL rfl (λ_ _ f k=>V0 f (a:=i.a) (b:=i.b) (ra:=i.ra) (rb:=i.rb) k.2.1 (k.2.2) (i.da) (i.db) (i.za) (i.zb) (hpos) O O) λc13=>QJm rfl<|QA (Qe rfl rfl)<|QA (Qe rfl rfl)<|QJn rfl<|wR rfl<|ZO _ (λ_ _ f h=>aC h.2.2.2 h.2.2.1.2.1) λq13=>?_
  obtain⟨q13,n13⟩:=q13;refine wA 6 I<|Qg ?_
  exact Qj (⟨i.rb,c13.2.1,i.b,c13.2.2,i.db,q13.1,i.zb,q13.2.1,i.lb,by have:=Kq q13.1 i.db q13.2.1 (by rw[q13.2.2];omega);omega,n13,by rw[q13.2.2,Fv];exact i.h⟩) (by show(dv B9 c13.2.2).toNat<(dv B9 i.b).toNat;rw[q13.2.2];omega) wU QKK λF h9=>⟨⟨h9.1.1.1,h9.1.1.2⟩,⟨h9.1.2.2,h9.2.2.1⟩⟩
 have hz:i.b=[]:=by
  have:=QLs hc;exact ai O
 refine JK ?_;refine wA 7 I ?_;exact QM ((i.ra,i.a):Sr×List Int) rfl (wO I) (rfl) λF h9=>⟨h9.2.1,i.da,i.za,by have e:=i.h;rw[hz,Pr,Int.gcd_zero_right]at e;have:=Qw Q3 i.da;show dv B9 i.a=_;omega⟩
section
variable{P:Program}{N:Nat}{m:Sl}{S:World->Prop}{ty:TypeId}
def ON{x:Operand}{a b:Int}(hx:ev m x=some (.int .i64 a))(hy:ev m y=some (.int .i64 b))(h:1<b)(h0 : -9223372036854775808<=a)(h1:a<=9223372036854775807):Qt P N m S (.binOp .quo T x y yT) ty (.int .i64 (a.tdiv b)):=by
 have:=U8 (P:=P) (N:=N) (m:=m) (S:=S) (ty:=ty) (T:=T) (yT:=yT) hx hy O;have e:=eu a b;have e2:a.natAbs.div b.natAbs<=a.natAbs:=er _ _;have e3:a.natAbs.div b.natAbs<=a.natAbs/2:=Nat.div_le_div_left O wk;rw[eY _ O]at this;exact this
end
def PD(neg:Bool)(m:Nat):Int:=if neg=true then -(m:Int)else(m:Int)
def jL(neg:Bool)(m:Nat):(PD neg m).tmod 1000000000=PD neg (m%1000000000):=by
 unfold PD;split
 ·rw[Int.neg_tmod];exact congrArg Neg.neg (fw m 1000000000).symm
 exact(fw m 1000000000).symm
def U2(neg:Bool)(m:Nat):(PD neg m).tdiv 1000000000=PD neg (m/1000000000):=by
 unfold PD;split
 ·rw[Int.neg_tdiv];exact congrArg Neg.neg (fy m 1000000000).symm
 exact(fy m 1000000000).symm
def L1(n:Int):n=PD (decide (n<0)) n.natAbs:=by
 unfold PD;by_cases h:n<0
 ·simp[h];omega
 simp[h];omega
def BG(neg:Bool)(m:Nat):PD neg m=m\/PD neg m = -(m:Int):=by
 unfold PD;split
 ·exact .inr rfl
 exact .inl rfl
structure WhI(M:Nat) where
 m:Nat
 out:List Int
 v:Value
 ob:List (Nat×Obj)
 le:m<=M
 l3:out.length<=3
 dg:DG B9 out
 h:dv B9 out+B9^out.length*(m:Int)=M
 hr:Q6 3 1 v out.length (out.map Qs) ob
def WhI.two{M:Nat}(i:WhI M)(hM:M<=9223372036854775808)(h0:0<i.m):i.out.length<=2:=by
 rcases bQ 2 i.out.length with g | g
 ·exfalso;have e:i.out.length=3:=wi i.l3;have h:=i.h;have h1:=Qw Q3 i.dg;rw[e]at h;have h2:B9^3*1<=B9^3*(i.m:Int):=ep O wk;have h3:B9^3=1000000000000000000000000000:=wk;rw[h3]at h2 h;omega
 exact g
def Ul{l:List Int}{m M:Nat}(h:dv B9 l+B9^l.length*(m:Int)=M):dv B9 (l++[((m%1000000000:Nat):Int)])+B9^(l++[((m%1000000000:Nat):Int)]).length*((m/1000000000:Nat):Int)=M:=by
 rw[XG,aj,aG,bU,Int.mul_assoc,Int.add_assoc,<-Int.mul_add,<-h];have e:((m%1000000000:Nat):Int)+B9*((m/1000000000:Nat):Int)=m:=by
  have h9:B9=1000000000:=rfl;rw[h9];omega
 rw[e]
theorem Vd{n:Int}(hF:Fits F w)(hn : -9223372036854775808<=n/\n<=9223372036854775807):GH prog 249 [.int .i64 n] w F n:=by
 refine QS.go (G:=λF=>True) func249 hF trivial ?_;refine QLF<|Qk Xf λb2=>QMW 16 I<|XC (ι:=WhI n.natAbs) [(2,_),(4,_)] (λi=>[(0,.int .i64 (PD (decide (n<0)) i.m)),(3,i.v)]) (λi=>(b2,.cells [.bool false,.slice none 0 0].toArray 222 (0,0))::i.ob) (λi F=>True) (λi=>i.m) (⟨n.natAbs,[],.slice none 0 0,[],bg _,wv,DG.nil _,wv,.nil⟩) wU ⟨congrArg (λz:Int=>some (ar .i64 z)) (L1 n),rfl,trivial⟩ QKK wz λi=>?_
 have hle:=i.le;have hM:n.natAbs<=9223372036854775808:=O;have hcs:=BG (decide (n<0)) i.m;have hsr : -9223372036854775808<=PD (decide (n<0)) i.m/\PD (decide (n<0)) i.m<=9223372036854775807:=by unfold PD;split<;>rename_i g<;>simp at g<;>omega
 refine wA 7 I ?_;refine QO I (λhc=>?_) λhc=>?_
 ·have h9:B9=1000000000:=rfl;have hm0:0<i.m:=by
   rcases ax i.m with g | g
   ·rw[g]at hc;cases hd:decide (n<0)<;>simp[PD,hd]at hc
   exact g
  have l2:=i.two hM hm0;refine QMX 6 I<|QA (yM I I wk) ?_
  rw[jL];refine QMW 10 I ?_;refine QO I (λhc=>?_) λhc=>?_
  ·have e1:PD (decide (n<0)) (i.m%1000000000) = -(((i.m%1000000000):Nat):Int):=by
    have:=QLr hc;rcases BG (decide (n<0)) (i.m%1000000000)with g | g<;>omega
   rw[e1];refine wA 2 I<|QA (Jg I I O)<|QMW 7 I<|JG I (J2 Qd) QY HZ I I λb18=>KZ (bs':=[(b2,.cells [.bool false,.slice none 0 0].toArray 222 (0,0))]++i.ob) (bm _) ?_
   refine Yi (ob:=i.ob) (k:=1) (sz:=1) (news:=[.int .i64 (0 - -(((i.m%1000000000):Nat):Int))]) I I Qd QY HZ I WR i.hr (Src.row (off:=0) w9 (λj v hv=>by rw[bz];show([.int .i64 (0 - -(((i.m%1000000000):Nat):Int))].toArray)[j]?=some v;rw[aR];exact hv) rfl) O O (ZC wT) (λv19 ob19 hr19=>?_);refine QMW 5 I<|QA (ON I I wk O O) ?_
   rw[U2];refine wB 2 I<|Qg ?_
   exact Qj (⟨i.m/1000000000,i.out++[(((i.m%1000000000):Nat):Int)],v19,ob19,O,by rw[aj,aG];omega,i.dg.append (DG.cons O (by show _<B9;rw[h9];omega) (DG.nil _)),Ul i.h,by simpa[Qs]using hr19⟩) (by show i.m/1000000000<i.m;omega) wW QKK λF h=>⟨h.1.1,trivial⟩
  have e1:PD (decide (n<0)) (i.m%1000000000)=(((i.m%1000000000):Nat):Int):=by
   have:=QLs hc;rcases BG (decide (n<0)) (i.m%1000000000)with g | g<;>omega
  rw[e1];refine QMX 6 I<|JG I (J2 Qd) QY HZ I I λb18=>KZ (bs':=[(b2,.cells [.bool false,.slice none 0 0].toArray 222 (0,0))]++i.ob) (bm _) ?_
  refine Yi (ob:=i.ob) (k:=1) (sz:=1) (news:=[.int .i64 ((((i.m%1000000000):Nat):Int))]) I I Qd QY HZ I WR i.hr (Src.row (off:=0) w9 (λj v hv=>by rw[bz];show([.int .i64 ((((i.m%1000000000):Nat):Int))].toArray)[j]?=some v;rw[aR];exact hv) rfl) O O (ZC wT) (λv19 ob19 hr19=>?_);refine QMW 5 I<|QA (ON I I wk O O) ?_
  rw[U2];refine wB 2 I<|Qg ?_
  exact Qj (⟨i.m/1000000000,i.out++[(((i.m%1000000000):Nat):Int)],v19,ob19,O,by rw[aj,aG];omega,i.dg.append (DG.cons O (by show _<B9;rw[h9];omega) (DG.nil _)),Ul i.h,by simpa[Qs]using hr19⟩) (by show i.m/1000000000<i.m;omega) wW QKK λF h=>⟨h.1.1,trivial⟩
 have hm0:i.m=0:=by
  rcases hcs with g | g
  ·rw[g]at hc;simp at hc;exact hc
  rw[g]at hc;simp at hc;exact hc
 refine JK ?_;refine QG ?_;have hfin:=i.h;rw[hm0]at hfin;have l3:=i.l3;obtain⟨r,hv,hrn,hrc,hfix⟩:=Q6.fix (w0:=w) (F0:=F) (bs1:=[(b2,.cells [.bool false,.slice none 0 0].toArray 222 (0,0))]) (G:=λF=>True/\True) i.hr;refine Da hfix ?_;rw[hv];refine wA 3 I<|QL I (λ_ _ f k=>ZJ f (r:=r) (l:=i.out) (neg:=decide (n<0)) ⟨by rw[hrn];exact k.2,by rw[hrn],O⟩ (i.dg) O) λc24=>QV (vs:=[_,_]) I I I Qv I .here .h2 wU<|QJl<|QU ?_
 have e:n=GW (decide (n<0)) i.out:=by
  have e2:=L1 n;unfold GW;unfold PD at e2;split at e2<;>rename_i hs<;>simp only[hs]<;>simp<;>omega
 exact QM (c24) rfl (.J5 (c:=[_,_]) I Qv .here .nil) (rfl) λF ⟨⟨⟨hT,_⟩,hX⟩,h24⟩=>(by rw[<-e]at h24;exact h24)
theorem VE{x:Int}{least:Nat}(hF:Fits F w)(h0:0<=x)(hn:x<=9223372036854775807)(hl:least<=1000):Qi prog 251 [.int .i64 x,.int .i64 (least:Int)] w F (tx (BP x.toNat least)):=by
 have:=To (n:=x.toNat) (least:=least) hF O hl;rw[bK h0]at this;exact this
def MJ{n:Nat}(h:0<n):BP n 1=ao n:=by
 have hne:(ao n).length≠0:=λe=>VK n (ai e);unfold BP hd GO;rw[if_neg O,show 1-(ao n).length=0 by omega];rfl
def Ni(n:Nat):BP n 9=GO 9 (ao n):=by
 unfold BP hd;split
 ·rename_i h;subst h;rw[ZW];decide
 rfl
theorem Gd{n:Nat}(h:n<1000000000):(BP n 9).length=9:=by
 rw[Ni,R3];have:=Km (u:=n) (k:=9) O wk;rw[aW];exact this
structure Cj(l:List Int) where
 k:Nat
 s:List UInt8
 le:k<l.length
 ps:0<dv B9 (l.drop k)
 sl:s.length<=20+9*(l.length-k)
 h:s=ao (dv B9 (l.drop k)).toNat
theorem GB{l:List Int}(hd:DG B9 l)(hz:NZ l)(h0:0<l.length):dv B9 (l.drop (l.length-1))=Qb l (l.length-1)/\0<Qb l (l.length-1):=by
 have e:=XL (l:=l) (k:=l.length-1) O;rw[aB (i:=l.length-1+1) O]at e;refine⟨by rw[e];simp[dv],?_⟩;obtain⟨h1,_⟩:=PV (n:=l.length-1) hd hz O;omega
def Cj.start{l:List Int}(hd:DG B9 l)(hz:NZ l)(h0:0<l.length):Cj l:=⟨l.length-1,BP (Qb l (l.length-1)).toNat 1,O,by rw[(GB hd hz h0).1];exact(GB hd hz h0).2,by
  have b:=hd.Qb Q3 (l.length-1);have h9:B9=1000000000:=rfl;rw[MJ (wi<|(GB hd hz h0).2),aW];have:=Km (u:=(Qb l (l.length-1)).toNat) (k:=9) (by rw[h9]at b;omega) wk;omega,by
  rw[MJ (wi<|(GB hd hz h0).2),(GB hd hz h0).1]⟩
def Cj.add{l:List Int}(i:Cj l)(hd:DG B9 l)(hk:0<i.k):dv B9 (l.drop (i.k-1))=Qb l (i.k-1)+B9*dv B9 (l.drop i.k):=by
 have hle:=i.le;rw[XL O,YL,show i.k-1+1=i.k by omega]
def Cj.next{l:List Int}(i:Cj l)(hd:DG B9 l)(hk:0<i.k):Cj l:=⟨i.k-1,i.s++BP (Qb l (i.k-1)).toNat 9,wi i.le,by
  rw[i.add hd hk];have b:=hd.Qb Q3 (i.k-1);have p:=i.ps;have:B9*1<=B9*dv B9 (l.drop i.k):=ep O wk;have h9:B9=1000000000:=rfl;omega,by
  have b:=hd.Qb Q3 (i.k-1);have h9:B9=1000000000:=rfl;rw[h9]at b;have hle:=i.le;have hsl:=i.sl;rw[aj,Gd O];omega,by
  have b:=hd.Qb Q3 (i.k-1);have h9:B9=1000000000:=rfl;rw[h9]at b;have p:=i.ps;have e:=WJ (q:=(dv B9 (l.drop i.k)).toNat) O 9 (Qb l (i.k-1)).toNat wk O;rw[Ni,i.h,<-e,i.add hd hk];congr 1;generalize dv B9 (l.drop i.k)=D at *
  rw[h9];omega⟩
theorem Dg{x:Ri}(hF:Fits F w)(hx:YF F x zx)(hz:sz zx<=1000000):Qi prog 255 [x.v] w F (tx (Xm zx)):=by
 obtain⟨xn,⟨xq,xm,xc⟩,xl⟩:=x;have px:=hx.p;have lx:=px.len;have kx:=hx.1.2.1;have vx:=px.v0;dsimp only at px lx kx vx;dsimp only[Ri.v];have h9:B9=1000000000:=rfl;refine QS.go (G:=λF=>YF F ⟨xn,⟨xq,xm,xc⟩,xl⟩ zx) func255 hF hx ?_;refine QLF<|Q9 I (vs:=[_,_]) I λb1=>QMW 6 I<|QA (QH I J9 Qu)<|QA (Qp I Qu .here (.skip .h1))<|QA (Qc I Qd)<|QMW 3 I ?_
 refine QO I (λhc=>?_) λhc=>?_
 ·have hx0:zx=0:=(px.zero).1 (ai (by have:=hc;simp at this;omega));refine wA 6 I ?_;exact QMn I I (by rw[hx0,Jd wk];exact congrArg (λl=>tx l) ZW) wz
 have hl0:0<xl.length:=by
  rcases ax xm with g | g
  ·rw[g]at hc;simp at hc
  omega
 obtain⟨d1,d2⟩:=GB px.dg px.nz hl0;have b0:=px.dg.Qb Q3 (xl.length-1);rw[h9]at b0;refine QMX 4 I<|QA (QH I J9 Qu)<|QA (Qp I Qu .here (.skip .h1))<|QA (QH I J9 Qu)<|QA (Qp I Qu .here (.skip .h1))<|QA (Qc I Qd)<|QA (Jg I I O)<|QA (Qo (n:=xm) (xl.length-1) (λF hx=>(hx.1).1) rfl wN Qd QY O)<|QA (Ql (n:=xm) ((xl.length-1)*1) (λF hx=>(hx.1).1) O rfl QY (JP (o:=xl) O))<|QL I (λ_ _ f k=>VE f (least:=1) O O O) λ_=>QMW 6 I<|QA (QH I J9 Qu)<|QA (Qp I Qu .here (.skip .h1))<|QA (Qc I Qd)<|QA (Jg I I O)<|wR I<|QQ<|Jt (ι:=Cj xl) [(1,_)] (λi=>[(3,tx i.s),(4,.int .i64 ((i.k:Int)-1))]) (λi=>i.k) (Cj.start px.dg px.nz hl0) wT ⟨rfl,(congrArg (λz:Int=>some (ar .i64 z)) (by simp only[Cj.start];omega)),trivial⟩ λi=>?_
 have hle:=i.le;have hsl:=i.sl;refine wA 7 I ?_;refine QO I (λhc=>?_) λhc=>?_
 ·have hk0:0<i.k:=wi<|QLr hc
  have b1:=px.dg.Qb Q3 (i.k-1);rw[h9]at b1;have ln:=Gd (n:=(Qb xl (i.k-1)).toNat) O;refine QMX 6 I<|QA (QH I J9 Qu)<|QA (Qp I Qu .here (.skip .h1))<|QJm I<|QA (Qo (n:=xm) (i.k-1) (λF h9=>(h9.1.1).1) rfl wN Qd QY O)<|QA (Ql (n:=xm) ((i.k-1)*1) (λF h9=>(h9.1.1).1) O rfl QY (JP (o:=xl) O))<|QL I (λ_ _ f k=>VE f (least:=9) O O O) λ_=>QA (Xe I I O)<|wB 2 I<|Qg<|QMY 3 I<|QA (Jg I I O)<|wB 2 I ?_
  exact Qj (i.next px.dg hk0) (by show i.k-1<i.k;omega) ⟨rfl,rfl,(congrArg (λz:Int=>some (ar .i64 z)) (by simp only[Cj.next];omega)),trivial⟩ QKK w8
 have hk0:i.k=0:=wi<|QLs hc
 have hi:=i.h;rw[hk0,eB]at hi;have ha:=px.abs;refine JK ?_;refine QG<|QLF<|QA (QH I YK Zi)<|QA (Qp I Zi .here .h1)<|QF<|QD ?_
 refine QO I (λhc=>?_) λhc=>?_
 ·have hneg:zx<0:=by have:=px.neg;rw[hc]at this;exact QLr this.symm
  refine wS I<|QA (Xe I I wy)<|wR I<|QU ?_
  exact QMn I I (by rw[Zr hneg,hi];exact congrArg (λn=>tx (45::ao n)) O) wz
 have hneg:¬zx<0:=by have:=px.neg;rw[hc]at this;exact QLs this.symm
 refine QMX 9 I ?_;exact QMn I I (by rw[Jd O,hi];exact congrArg (λn=>tx (ao n)) O) wz
structure PaI(s:List UInt8) where
 s':List UInt8
 out:List Int
 v:Value
 ob:List (Nat×Obj)
 dg:DG B9 out
 al:J7 s'=true
 ll:s'.length+9*out.length<=s.length
 h:(Q4 s':Int)*B9^out.length+dv B9 out=Q4 s
 hr:Q6 3 1 v out.length (out.map Qs) ob
def R7:((10^9:Nat):Int)=B9:=wk
theorem jX{s:List UInt8}{out:List Int}(h:(Q4 s:Int)*B9^out.length+dv B9 out=z)(hl:9<=s.length):(Q4 (s.take (s.length-9)):Int)*B9^(out++[(Q4 (s.drop (s.length-9)):Int)]).length+dv B9 (out++[(Q4 (s.drop (s.length-9)):Int)])=z:=by
 have e:=Zc (s.take (s.length-9)) (s.drop (s.length-9));rw[List.take_append_drop,ay,show s.length-(s.length-9)=9 by omega]at e;rw[XG,aj,aG,bU,<-h,e,Int.natCast_add,fp,R7];generalize B9^out.length=p;generalize ((Q4 (s.take (s.length-9)):Nat):Int)=a;generalize ((Q4 (s.drop (s.length-9)):Nat):Int)=b;generalize B9=B
 grind
def Gv(h:ak s [45]=true):1<=s.length:=by
 rcases ax s.length with g | g
 ·rw[ai g]at h;simp[ak]at h
 omega
theorem H5{Q:Exit->Act->World->Prop}{ops:Array Oper}{l:List Oper}{E E':Env}(h:∀w,St E w->St E' w)(k:JS P ops Q l N m E'):JS P ops Q l N m E:=λa w ha hw=>k a w ha (h w hw)
def vr{t:List UInt8}{out:List Int}(h:(Q4 t:Int)*B9^out.length+dv B9 out=Q4 (aa s [45])):GW (ak s [45]) (out++[(Q4 t:Int)])=Zq s:=by
 have e:dv B9 (out++[(Q4 t:Int)])=Q4 (aa s [45]):=by
  rw[XG,<-h,Int.mul_comm];omega
 unfold GW Zq;rw[e];unfold aa;cases ak s [45]<;>simp
def NB{s:List UInt8}(h:J7 s=true)(hl:s.length<=9):(Q4 s:Int)<B9:=by
 have h1:=KF h;have h2:10^s.length<=10^9:=aV wk hl;have h3:=R7;omega
theorem Vg(hF:Fits F w)(hs:J7 (aa s [45])=true)(hl:s.length<=1000000):GH prog 252 [tx s] w F (Zq s):=by
 refine QS.go (G:=λF=>True) func252 hF trivial ?_;refine QLF<|Qk Xf λb2=>QF<|QD ?_
 refine Xq [(0,_),(2,_)] [(3,.bool (ak s [45]))] wU ?_ ?_
 ·refine wA 2 I<|QA (Ji I J6)<|wB 2 I ?_
  refine Qa (t:=8) rfl (λhb8=>?_) λhb8=>?_
  ·refine wB 3 I<|QA (Yc (i:=0) rfl rfl J6 (wi<|QLr hb8))<|wB 5 I ?_
   exact Jc ⟨rfl,rfl,(congrArg (λb=>some (af b)) (by have h0:0<s.length:=(wi<|QLr hb8);rw[YH h0];exact Vm I)),trivial⟩ QKK w7
  refine wB 6 I ?_;exact Jc ⟨rfl,rfl,(congrArg (λb=>some (af b)) (by have h0:s.length=0:=(wi<|QLs hb8);rw[ai h0];rfl)),trivial⟩ QKK w7
 refine Xq [(2,_),(3,_)] [(0,tx (aa s [45]))] wU ?_ ?_
 ·refine wA 5 I ?_;refine QO I (λhc=>?_) λhc=>?_
  ·refine wA 2 I<|QA (ZQ (1) rfl rfl J6 I (Gv hc))<|wB 2 I ?_
   exact Jc ⟨rfl,rfl,(congrArg (λl=>some (tx l)) (by unfold aa;rw[if_pos hc];rfl)),trivial⟩ QKK w7
  refine QN ?_;exact Jc ⟨rfl,rfl,(congrArg (λl=>some (tx l)) (by unfold aa;rw[hc];rfl)),trivial⟩ QKK w7
 have hln:(aa s [45]).length<=s.length:=EZ _ _;refine wA 7 I<|XC (ι:=PaI (aa s [45])) [(2,_),(3,_)] (λi=>[(0,tx i.s'),(4,i.v)]) (λi=>(b2,.cells [.bool false,.slice none 0 0].toArray 222 (0,0))::i.ob) (λi F=>True) (λi=>i.s'.length) (⟨aa s [45],[],.slice none 0 0,[],DG.nil _,hs,wv,wv,.nil⟩) wU wU QKK wz λi=>?_
 have hll:=i.ll;refine wA 4 I<|QA (Ji I J6)<|QMW 3 I ?_
 refine QO I (λhc=>?_) λhc=>?_
 ·have h9:9<i.s'.length:=wi<|QLr hc
  refine QMX 8 I<|QA (Ji I J6)<|QA (Jg I I O)<|QA (ZQ (i.s'.length-9) rfl rfl J6 wN O)<|QL I (λ_ _ f k=>Hf f (BS i.al _) (by rw[ay];omega)) λ_=>JG I (J2 Qd) QY HZ I I λb26=>KZ (bs':=[(b2,.cells [.bool false,.slice none 0 0].toArray 222 (0,0))]++i.ob) (bm _) ?_
  refine Yi (ob:=i.ob) (k:=1) (sz:=1) (news:=[.int .i64 ((Q4 (i.s'.drop (i.s'.length-9)):Int))]) I I Qd QY HZ I WR i.hr (Src.row (off:=0) w9 (λj v hv=>by rw[bz];show([.int .i64 ((Q4 (i.s'.drop (i.s'.length-9)):Int))].toArray)[j]?=some v;rw[aR];exact hv) rfl) O O (ZC wT) (λv27 ob27 hr27=>?_);refine QMW 6 I<|QA (Ji I J6)<|QA (Jg I I O)<|QA (VG (i.s'.length-9) rfl rfl J6 wN O)<|wB 2 I<|Qg ?_
  exact Qj (⟨i.s'.take (i.s'.length-9),i.out++[(Q4 (i.s'.drop (i.s'.length-9)):Int)],v27,ob27,i.dg.append (DG.cons O (NB (BS i.al _) (by rw[ay];omega)) (DG.nil _)),GF i.al _,by rw[ah,aj,aG];omega,jX i.h O,by simpa[Qs]using hr27⟩) (by show(i.s'.take (i.s'.length-9)).length<i.s'.length;rw[ah];omega) wW QKK λF h=>⟨h.1.1.1,trivial⟩
 have h9:i.s'.length<=9:=wi<|QLs hc
 refine JK ?_;refine wA 5 I<|QL I (λ_ _ f k=>Hf f (i.al) O) λ_=>JG I (J2 Qd) QY HZ I I λb37=>KZ (bs':=[(b2,.cells [.bool false,.slice none 0 0].toArray 222 (0,0))]++i.ob) (bm _) ?_
 refine Yi (ob:=i.ob) (k:=1) (sz:=1) (news:=[.int .i64 ((Q4 i.s':Int))]) I I Qd QY HZ I WR i.hr (Src.row (off:=0) w9 (λj v hv=>by rw[bz];show([.int .i64 ((Q4 i.s':Int))].toArray)[j]?=some v;rw[aR];exact hv) rfl) O O (ZC wT) (λv38 ob38 hr38=>?_);obtain⟨r,hv,hrn,hrc,hfix⟩:=Q6.fix (w0:=w) (F0:=F) (bs1:=[(b2,.cells [.bool false,.slice none 0 0].toArray 222 (0,0))]) (G:=_) hr38;refine H5 hfix ?_;rw[hv];refine QL I (λw F hF ⟨⟨⟨⟨hT,_⟩,_⟩,hs37⟩,hX⟩=>ZJ hF (r:=r) (l:=i.out++[(Q4 i.s':Int)]) (neg:=ak s [45]) ⟨by rw[hrn];simpa[Qs]using hX,by rw[hrn];simp,O⟩ (i.dg.append (DG.cons O (NB i.al h9) (DG.nil _))) (by first | omega | (simp;omega))) (λc39=>QV (vs:=[_,_]) I I I Qv I .here .h2 wU<|QJl<|QU ?_);exact QM (c39) rfl (.J5 (c:=[_,_]) I Qv .here .nil) (rfl) λF ⟨⟨⟨⟨⟨hT,_⟩,_⟩,hs37⟩,hX⟩,h39⟩=>(by rw[vr i.h]at h39;exact h39)
def W9(z:Int):(Xm z).length<=sz z+2:=by
 have h:(ao z.natAbs).length<=sz z+1:=by
  rw[aW];refine Km ?_ O;have h1:=Bl z;have h2:2^sz z<=10^sz z:=bJ wk _;have h3:10^sz z<=10^(sz z+1):=aV wk O;omega
 rcases fJ z 0 with g | g
 ·rw[Zr g,au];omega
 rw[Jd g];omega
def Pf(n:Nat):(ao n).length<=sz (n:Int)+1:=by
 rw[aW];refine Km ?_ O;have h1:=Bl (n:Int);have h2:2^sz (n:Int)<=10^sz (n:Int):=bJ wk _;have h3:10^sz (n:Int)<=10^(sz (n:Int)+1):=aV wk O;simp at h1;omega
theorem Ho(x:Rat):(Q8 x).length<=2*Zv x+4:=by
 have h1:=W9 x.num;have h2:=Pf x.den;have h3:=JZ x;have h4:=JQ x;unfold Q8;split
 ·omega
 rw[aj,au];omega
def Nt{l:List UInt8}(h:l.contains 47=false):l.all (λc=>!JW c)=true:=by
 rw[List.all_eq_true];intro c hc;have:c≠47:=by rintro rfl;simp[hc]at h
 simp[JW,this]
def W7(z:Int):(Xm z).contains 47=false:=PU z wk wk
def DI(h:x.den=1):Q8 x=Xm x.num/\ahead JW (Q8 x)=(Q8 x).length:=by
 have e:Q8 x=Xm x.num:=by unfold Q8;rw[if_pos h]
 exact⟨e,by rw[e];exact Nv (Nt (W7 _))⟩
def Kh(h:x.den≠1):ahead JW (Q8 x)=(Xm x.num).length/\ahead JW (Q8 x)<(Q8 x).length/\(Q8 x).take (ahead JW (Q8 x))=Xm x.num/\(Q8 x).drop (ahead JW (Q8 x)+1)=ao x.den:=by
 have e:Q8 x=Xm x.num++47::ao x.den:=by unfold Q8;rw[if_neg h]
 have h1:ahead JW (Q8 x)=(Xm x.num).length:=by
  refine Nu (by rw[e];simp) ?_ ?_
  ·rw[e,List.take_append_of_le_length (bg _),aS];exact Nt (W7 _)
  simp[e,JW]
 rw[h1];refine⟨rfl,by rw[e];simp,?_,?_⟩
 ·rw[e];simp
 rw[e,bY];simp
def Mg(x:Rat):(ahead JW (Q8 x)=(Q8 x).length)↔x.den=1:=by
 constructor
 ·intro h;by_cases g:x.den=1
  ·exact g
  have:=(Kh g).2.1;omega
 intro h;exact(DI h).2
def NL(z:Int):J7 (aa (Xm z) [45])=true:=by rw[BE];exact JF _
def F3(n:Nat):J7 (aa (ao n) [45])=true:=by rw[Z1 (JF n)];exact JF _
def FN(n:Nat):Zq (ao n)=n:=by rw[Xn (JF n),Jq]
@[reducible] def Ri.v2 (c:Ri×Ri):Value:=.tuple #[c.1.v,c.2.v]
theorem Yo(hF:Fits F w)(hl:Zv x<=100000):QS prog 165 [tx (Q8 x)] w F Ri.v2 (λc F=>YF F c.1 x.num/\YF F c.2 x.den):=by
 have hlen:=Ho x;refine QS.go (G:=λF=>True) func165 hF trivial ?_;refine QLF<|Qk Xf λb2=>Qk Xf λb3=>QMW 11 I<|QL I (λ_ _ f k=>Vf f O) λ_=>QMW 8 I<|QA (Ji I J6)<|QMW 3 I ?_
 refine QO I (λhc=>?_) λhc=>?_
 ·have hd:x.den=1:=(Mg x).1 (by have:(ahead JW (Q8 x):Int)=((Q8 x).length:Int):=(by simpa using hc);omega);rw[(DI hd).1];refine wS I<|QL I (λ_ _ f k=>Vg f (NL _) (by have:=W9 x.num;have:=JZ x;omega)) λc14=>QL I (λ_ _ f k=>Vd f wk) λc15=>QV (vs:=[_,_]) I I I Qv I .u1 .h2 wU<|QV (vs:=[_,_]) I I I Qv I .here .h2 wU<|QJl<|QU ?_
  exact X4 ((c14,c15):Ri×Ri) rfl (.J5 (c:=[_,_]) I Qv .u1 (.J5 (c:=[_,_]) I Qv .here .nil)) (rfl) λF ⟨⟨⟨hT,_⟩,h14⟩,h15⟩=>⟨by rw[Zb]at h14;exact h14,by have e:(x.den:Int)=1:=(by rw[hd];rfl);rw[e];exact h15⟩
 have hd:¬x.den=1:=λg=>by have:=(Mg x).2 g;rw[this]at hc;simp at hc
 obtain⟨k1,k2,k3,k4⟩:=Kh hd;refine QMX 3 I<|JE (.cons _ (.cons _ .slnil)) mixed wj<|QJ (QC I)<|QJ (QC I)<|QJ (VG (ahead JW (Q8 x)) I I J6 I O) ?_
 rw[k3];refine QZ I (λ_ _ f k=>Vg f (NL _) (by have:=W9 x.num;have:=JZ x;omega)) (λc19=>QJ (QC I)<|QJ (QC I)<|QJ (Qn I I O)<|QJ (ZQ ((ahead JW (Q8 x)+1)) I I J6 wN O) ?_);rw[k4];refine QZ I (λ_ _ f k=>Vg f (F3 _) (by have:=Pf x.den;have:=JQ x;omega)) (λc24=>Jx (vs:=[_,_]) I I I Qv I .u1 (.cons _ .slnil) (λ_ h=>h.1.1) .h2 wU<|Jx (vs:=[_,_]) I I I Qv I .here (.cons _ .slnil) (λ_ h=>h.1.1) .h2 wU<|Qy<|QD<|QU ?_);exact X4 ((c19,c24):Ri×Ri) rfl (.J5 (c:=[_,_]) I Qv .u1 (.J5 (c:=[_,_]) I Qv .here .nil)) (rfl) λF ⟨⟨⟨hT,_⟩,SZ⟩,h24⟩=>⟨by rw[Zb]at SZ;exact SZ,by rw[FN]at h24;exact h24⟩
structure QHt(zx zy:Int) where
 n:Ri
 d:Ri
 zn:Int
 zd:Int
 h:0<zd
 e:ae zn zd=ae zx zy
 sn:sz zn<=500000
 sd:sz zd<=500000
theorem j7{n d:Int}(h:0<d){neg:Bool}{l p:List Int}(hn:Kz neg l n)(hp:dv B9 p=dv B9 l/(aE n d:Int)):GW neg p=(ae n d).num:=by
 rw[(Ze h).1];have hg:(0:Int)<(aE n d:Int):=wi (KL (x:=n) h);obtain⟨k,hk⟩:=fk (a:=n) (b:=d);have e:=hn.e;have hv:=hn.v0;unfold GW at e ⊢;rw[hp];cases neg with
 |true =>
  simp only[if_true]at e ⊢;have e2:dv B9 l=(aE n d:Int)*(-k):=by rw[fQ,<-hk];omega
  rw[e2,eI _ O];have e3:n/(aE n d:Int)=k:=by
   conv=>lhs;lhs;rw[hk]
   exact eI _ O
  rw[e3];omega
 |false =>
  simp only[Bool.false_eq_true,if_false]at e ⊢;rw[<-e]
def j8{n d:Int}(h:0<d){neg:Bool}{l p:List Int}(hn:Kz neg l d)(hp:dv B9 p=dv B9 l/(aE n d:Int)):dv B9 p=((ae n d).den:Int):=by
 rw[(Ze h).2,hp];have:=hn.abs;congr 1;omega
def Sb{n d:Int}{a b:Bool}{l m:List Int}(hn:Kz a l n)(hd:Kz b m d):aE (dv B9 l) (dv B9 m)=aE n d:=by
 rw[<-hn.abs,<-hd.abs];simp[aE]
def Sj(x y:Int):ae (-x) (-y)=ae x y:=eX x y
theorem Ew{l:List Int}(h:DG B9 l)(hz:NZ l):(l.length=1/\Qb l 0=1)↔dv B9 l=1:=by
 constructor
 ·rintro⟨h1,h2⟩;obtain⟨x,rfl⟩:=List.length_eq_one_iff.1 h1;simp[Qb]at h2;simp[dv,h2]
 intro e;have:l=[1]:=CM SZ h (DG.cons wk wk (DG.nil _)) hz (by simp[NZ]) (by rw[e];simp[dv]);subst this;exact⟨rfl,rfl⟩
def U7(h:(x.den:Int)=1):Xm x.num=Q8 x:=by unfold Q8;rw[if_pos O]
theorem PG(h:¬(x.den:Int)=1):Xm x.num++[47]++Xm (x.den:Int)=Q8 x:=by
 unfold Q8;rw[if_neg O,Jd (z:=(x.den:Int)) O];simp
theorem Yp{x y:Ri}{zy:Int}(hF:Fits F w)(hx:YF F x zx)(hy:YF F y zy)(h0:zy≠0)(hzx:sz zx<=500000)(hzy:sz zy<=500000):Qi prog 166 [x.v,y.v] w F (tx (Q8 (ae zx zy))):=by
 obtain⟨xn,⟨xq,xm,xc⟩,xl⟩:=x;have px:=hx.p;have lx:=px.len;have kx:=hx.1.2.1;have vx:=px.v0;dsimp only at px lx kx vx;obtain⟨yn,⟨yq,ym,yc⟩,yl⟩:=y;have py:=hy.p;have ly:=py.len;have ky:=hy.1.2.1;have vy:=py.v0;dsimp only at py ly ky vy;dsimp only[Ri.v];have hny:=py.neg;refine QS.go (G:=λF=>YF F ⟨xn,⟨xq,xm,xc⟩,xl⟩ zx/\YF F ⟨yn,⟨yq,ym,yc⟩,yl⟩ zy) func166 hF ⟨hx,hy⟩ ?_;refine QLF<|Q9 I (vs:=[_,_]) I λb2=>Q9 I (vs:=[_,_]) I λb3=>QMW 3 I ?_
 refine EK (ι:=QHt zx zy) [(2,_),(3,_)] (λi=>[]) (λi=>[(b3,.cells [.bool i.d.neg,.slice i.d.r.q i.d.r.n i.d.r.cap].toArray 222 (0,0)),(b2,.cells [.bool i.n.neg,.slice i.n.r.q i.n.r.n i.n.r.cap].toArray 222 (0,0))]) (λi F=>YF F i.n i.zn/\YF F i.d i.zd) wU ?_ ?_
 ·refine QLF<|QA (QH I YK Zi)<|QA (Qp I Zi .here .h1)<|QF<|QD ?_
  refine QO I (λhc=>?_) λhc=>?_
  ·refine Je 4 QKK mixed wj wj ?_;simp only[List.take_succ_cons,fm,List.drop_succ_cons,eB];refine QJ (wH I Qv .u1)<|QZ I (λ_ _ f k=>Rn f (x:=⟨xn,⟨xq,xm,xc⟩,xl⟩) k.1 O) λc14=>QJ (wH I Qv .here)<|QZ I (λ_ _ f k=>Rn f (x:=⟨yn,⟨yq,ym,yc⟩,yl⟩) k.1.2 O) λc16=>X7<|QV (vs:=[_,_]) I I I Qv I .u1 .h2 wU<|QV (vs:=[_,_]) I I I Qv I .here .h2 wU<|QF ?_
   exact ZP (⟨c14,c16,-zx,-zy,by rw[hc]at hny;have:=QLr hny.symm;omega,Sj _ _,by rw[Y6];exact hzx,by rw[Y6];exact hzy⟩) wU QKK λF h9=>⟨⟨h9.1.1.1,h9.1.1.2⟩,⟨h9.1.2,h9.2⟩⟩
  refine QN ?_;exact ZP (⟨⟨xn,⟨xq,xm,xc⟩,xl⟩,⟨yn,⟨yq,ym,yc⟩,yl⟩,zx,zy,by rw[hc]at hny;have:=QLs hny.symm;omega,rfl,hzx,hzy⟩) wU QKK λF ⟨hx,hy⟩=>⟨⟨hx,hy⟩,⟨hx,hy⟩⟩
 intro i;refine ZO _ (λ_ _ f h=>aC h.2.1.p (aC h.2.2.p (aC h.2.1.1.2.1 h.2.2.1.2.1))) (λpp=>?_);obtain⟨pn,pd,kn,kd⟩:=pp;have ln:=pn.len;have ld:=pd.len;have hsn:=i.sn;have hsd:=i.sd;have hi:=i.h;have gg:=Sb pn pd;have q1:=Vt (a:=i.zn) (b:=i.zd) O;have q2:=JZ (ae i.zn i.zd);have q3:=JQ (ae i.zn i.zd);have q4:sz (ae i.zn i.zd).num<=500000:=O;have q5:sz ((ae i.zn i.zd).den:Int)<=500000:=O;refine QLF<|QA (QH I J9 Qu)<|QA (Qp I Qu .u1 (.skip .h1))<|QA (QH I J9 Qu)<|QA (Qp I Qu .here (.skip .h1)) ?_
 refine QL I (λ_ _ f k=>ND f (a:=i.n.l) (b:=i.d.l) (ra:=i.n.r) (rb:=i.d.r) k.2.1.1 (k.2.2.1) (pn.dg) (pd.dg) (pn.nz) (pd.nz) O O) (λc21=>?_);rcases c21 with ⟨v21,l21⟩;dsimp only;refine XA _ (λw F hF ⟨⟨⟨hx,hy⟩,⟨hN,hD⟩⟩,⟨h21,h21p⟩⟩=>aC h21.2 h21p) (λp21=>wR rfl<|QG ?_);have g0:0<dv B9 l21:=by rw[p21.2.2.2,gg];have:=KL (x:=i.zn) i.h;omega
 have l21l:l21.length<=i.d.l.length:=by
  refine Kq p21.2.1 pd.dg p21.2.2.1 ?_;rw[p21.2.2.2,gg];have h1:(aE i.zn i.zd:Int)<=i.zd:=Int.le_of_dvd i.h (Int.gcd_dvd_right (a:=i.zn) (b:=i.zd));have h2:=pd.abs;omega
 refine QB<|QA (QH rfl J9 Qu)<|QA (Qp rfl Qu .u1 (.skip .h1))<|QJm rfl<|QL rfl (λ_ _ f k=>V0 f (a:=i.n.l) (b:=l21) (ra:=i.n.r) (rb:=v21) k.1.2.1.1 (k.2.1) (pn.dg) (p21.2.1) (pn.nz) (p21.2.2.1) (g0) O O) λc26=>QJm rfl<|QA (Qe rfl rfl)<|QA (Qe rfl rfl)<|QJn rfl<|wR rfl<|QG<|ZO _ (λ_ _ f h=>aC h.2.1.2 h.2.1.1.2.1) λp26=>?_
 obtain⟨p26,n26⟩:=p26;refine QB<|QA (QH rfl J9 Qu)<|QA (Qp rfl Qu .here (.skip .h1))<|QJm rfl<|QL rfl (λ_ _ f k=>V0 f (a:=i.d.l) (b:=l21) (ra:=i.d.r) (rb:=v21) k.1.1.2.2.1 (k.1.2.1) (pd.dg) (p21.2.1) (pd.nz) (p21.2.2.1) (g0) O O) λc33=>QJm rfl<|QA (Qe rfl rfl)<|QA (Qe rfl rfl)<|QJn rfl<|wR rfl<|QG<|ZO _ (λ_ _ f h=>aC h.2.1.2 h.2.1.1.2.1) λp33=>?_
 obtain⟨p33,n33⟩:=p33;have en:GW i.n.neg c26.1.2=(ae i.zn i.zd).num:=j7 i.h pn (by rw[p26.2.2,p21.2.2.2,gg]);have ed:dv B9 c33.1.2=((ae i.zn i.zd).den:Int):=j8 i.h pd (by rw[p33.2.2,p21.2.2.2,gg]);have ed2:GW false c33.1.2=((ae i.zn i.zd).den:Int):=by rw[<-ed];rfl
 have lnp:=Kq p26.1 pn.dg p26.2.1 (by rw[p26.2.2];exact bZ _ pn.v0);have lnq:=Kq p33.1 pd.dg p33.2.1 (by rw[p33.2.2];exact bZ _ pd.v0);have one1:=Ew p33.1 p33.2.1;have lr1:=W9 (ae i.zn i.zd).num;have lr2:=W9 ((ae i.zn i.zd).den:Int);refine QB<|QA (QH I YK Zi)<|QA (Qp I Zi .u1 .h1)<|QJm I<|QL I (λ_ _ f k=>ZJ f (r:=c26.1.1) (l:=c26.1.2) (neg:=i.n.neg) k.1.2.1.1 (p26.1) (by first | omega | (simp;omega))) λc39=>QL I (λ_ _ f k=>Dg f (zx:=(ae i.zn i.zd).num) (by rw[<-en];exact k.2) O) λ_=>QMW 7 I<|QA (Qc I Qd)<|wB 2 I ?_
 refine Qa (t:=44) rfl (λhb44=>?_) λhb44=>?_
 ·have hn1:c33.1.1.n=1:=by simp at hb44;omega
  refine wB 3 I<|QA (Qo (n:=c33.1.1.n) (0) (λF h9=>(h9.1.1.2.1.1).1) rfl wN Qd QY O)<|QK I I<|QA (Ql (n:=c33.1.1.n) ((0)*1) (λF h9=>(h9.1.1.2.1.1).1) O rfl QY (JP (o:=c33.1.2) O))<|QMW 5 I ?_
  refine QO I (λhc=>?_) λhc=>?_
  ·refine wA 7 I ?_;exact QMn I I (by rw[<-i.e];exact congrArg (λl=>tx l) (U7 (by rw[<-ed];exact one1.1 ⟨O,by simpa using hc⟩)).symm) wz
  refine QMX 5 I<|QA (Xe I I wy)<|QJm I<|QL I (λ_ _ f k=>ZJ f (r:=c33.1.1) (l:=c33.1.2) (neg:=false) k.1.1.2.1.1 (p33.1) (by first | omega | (simp;omega))) λc54=>QL I (λ_ _ f k=>Dg f (zx:=((ae i.zn i.zd).den:Int)) (by rw[<-ed2];exact k.2) O) λ_=>QA (Xe I I wy)<|wR I<|QU ?_
  exact QMn I I (by rw[<-i.e];exact congrArg (λl=>tx l) (PG λg=>by have:=one1.2 (by rw[ed];exact g);rw[this.2]at hc;simp at hc).symm) wz
 have hn1:c33.1.1.n≠1:=by simp at hb44;omega
 refine QMW 7 I<|Zg I<|QMX 5 I<|QA (Xe I I wy)<|QJm I<|QL I (λ_ _ f k=>ZJ f (r:=c33.1.1) (l:=c33.1.2) (neg:=false) k.1.1.2.1.1 (p33.1) (by first | omega | (simp;omega))) λc54=>QL I (λ_ _ f k=>Dg f (zx:=((ae i.zn i.zd).den:Int)) (by rw[<-ed2];exact k.2) O) λ_=>QA (Xe I I wy)<|wR I<|QU ?_
 exact QMn I I (by rw[<-i.e];exact congrArg (λl=>tx l) (PG λg=>by have:=one1.2 (by rw[ed];exact g);omega).symm) wz
def Zj(x:Rat):Rat:=if x.num<0 then -x else x
def OK(x:Rat):(Zj x).num=(x.num.natAbs:Int)/\(Zj x).den=x.den:=by
 unfold Zj;split
 ·exact⟨by rw[eT];omega,by rw[fN]⟩
 exact⟨O,rfl⟩
def FX(h:z<0):Xm z=45::Xm (-z):=by
 rw[Zr h,Jd (z:=-z) O];congr 2;omega
def Hk(h:x.num<0):Q8 x=45::Q8 (-x):=by
 unfold Q8;rw[eT,fN,FX h];split<;>rfl
theorem VF(x:Rat):ak (Q8 x) [45]=decide (x.num<0):=by
 by_cases h:x.num<0
 ·rw[Hk h];simp[ak,fi,h]
 have e:(decide (x.num<0))=false:=by simpa using h
 rw[e];unfold Q8;rw[Jd O];have hd:=JF x.num.natAbs;split
 ·exact Yd hd
 have hne:=VK x.num.natAbs;cases hl:ao x.num.natAbs with
 |nil=>exact absurd hl hne
 |cons c r =>
  have:=Yd hd;rw[hl]at this;simpa[ak,fi]using this
def Ru(x:Rat):aa (Q8 x) [45]=Q8 (Zj x):=by
 unfold aa Zj;rw[VF];by_cases h:x.num<0
 ·rw[if_pos (by simpa using h),if_pos h,Hk h];rfl
 rw[if_neg (by simpa using h),if_neg h]
def Lv(x:Rat):Zv (Zj x)=Zv x:=by
 unfold Zj;split
 ·exact Uo x
 rfl
def xo(x:Rat)(c:Int×Int×Bool):Prop:=c.2.2=true->c.1=x.num/\c.2.1=(x.den:Int)/\x.num.natAbs<1000000000/\x.den<1000000000
def El{l:List UInt8}(h:J7 l=true)(hl:l.length<=9):Q4 l<1000000000:=by
 have h1:=KF h;have h2:10^l.length<=10^9:=aV wk hl;omega
theorem Hi(hF:Fits F w)(hl:Zv x<=100000):QS prog 163 [tx (Q8 x)] w F (λ(c:Int×Int×Bool)=>.tuple #[.int .i64 c.1,.int .i64 c.2.1,.bool c.2.2]) (λc _=>xo x c):=by
 have hlen:=Ho x;have hlen2:=Ho (Zj x);rw[Lv]at hlen2;obtain⟨an,ad⟩:=OK x;have hah:=YN JW (Q8 (Zj x));have anT:Xm (Zj x).num=ao x.num.natAbs:=by rw[an,Jd O];rfl
 refine QS.go (G:=λF=>True) func163 hF trivial ?_;refine wA 17 I<|QA (Ji I J6)<|QMW 3 I ?_
 refine QO I (λhc=>?_) λhc=>?_
 ·refine wA 8 I ?_;exact X4 ((0,0,false):Int×Int×Bool) rfl (.tmp rfl (wP rfl rfl)) (rfl) λF hT=>λh=>by cases h
 refine QN<|QD ?_
 refine Xq [(5,_)] [(6,.bool (decide (x.num<0)))] wT ?_ ?_
 ·refine wA 2 I<|QA (Ji I J6)<|wB 2 I ?_
  refine Qa (t:=17) rfl (λhb17=>?_) λhb17=>?_
  ·refine wB 3 I<|QA (Yc (i:=0) rfl rfl J6 (wi<|QLr hb17))<|wB 5 I ?_
   exact Jc ⟨rfl,(congrArg (λb=>some (af b)) (by have h0:0<(Q8 x).length:=(wi<|QLr hb17);rw[<-VF,YH h0];exact Vm I)),trivial⟩ QKK w7
  refine wB 6 I ?_;exact Jc ⟨rfl,(congrArg (λb=>some (af b)) (by have h0:(Q8 x).length=0:=(wi<|QLs hb17);rw[<-VF,ai h0];rfl)),trivial⟩ QKK w7
 refine Xq [(6,_)] [(5,tx (Q8 (Zj x)))] wT ?_ ?_
 ·refine wA 5 I ?_;refine QO I (λhc=>?_) λhc=>?_
  ·refine wA 2 I<|QA (ZQ (1) rfl rfl J6 I (by have:=Gv (s:=Q8 x) (by rw[VF];exact hc);omega))<|wB 2 I ?_
   exact Jc ⟨rfl,(congrArg (λl=>some (tx l)) (by rw[<-Ru];unfold aa;rw[if_pos (by rw[VF];exact hc)];rfl)),trivial⟩ QKK w7
  refine QN ?_;exact Jc ⟨rfl,(congrArg (λl=>some (tx l)) (by rw[<-Ru];unfold aa;rw[VF,hc];rfl)),trivial⟩ QKK w7
 refine wS I<|QL I (λ_ _ f k=>Vf f O) λ_=>QMW 9 I ?_
 refine Qa (t:=29) rfl (λhb29=>?_) λhb29=>?_
 ·refine QMW 8 I<|Jv I<|wA 8 I ?_
  exact X4 ((0,0,false):Int×Int×Bool) rfl (.tmp rfl (wP rfl rfl)) (rfl) λF h9=>λh=>by cases h
 refine wB 3 I<|QA (Ji I J6)<|wB 3 I<|QA (Jg I I O)<|QMW 5 I ?_
 refine QO I (λhc=>?_) λhc=>?_
 ·refine wA 8 I ?_;exact X4 ((0,0,false):Int×Int×Bool) rfl (.tmp rfl (wP rfl rfl)) (rfl) λF h9=>λh=>by cases h
 have k9:ahead JW (Q8 (Zj x))<=9/\(Q8 (Zj x)).length-ahead JW (Q8 (Zj x))<=10:=by
  have ha:=YN JW (Q8 (Zj x))
  first | (simp at hc hb29;omega) | (simp at hc;omega)
 have kt:(Q8 (Zj x)).take (ahead JW (Q8 (Zj x)))=Xm (Zj x).num:=by
  by_cases hd:(Zj x).den=1
  ·obtain⟨e1,e2⟩:=DI hd;rw[e2,aS,e1]
  exact(Kh hd).2.2.1
 have kr:Q4 ((Q8 (Zj x)).take (ahead JW (Q8 (Zj x))))=x.num.natAbs:=by rw[kt,anT,Jq]
 have hnum:x.num.natAbs<1000000000:=by
  have h1:=El (l:=Xm (Zj x).num) (by rw[anT];exact JF _) (by rw[<-kt,ah];omega);rw[anT,Jq]at h1;exact h1
 have Ay:x.den<1000000000:=by
  rw[<-ad];by_cases hd:(Zj x).den=1
  ·omega
  obtain⟨e1,e2,e3,e4⟩:=Kh hd;have h1:=El (l:=ao (Zj x).den) (JF _) (by rw[<-e4,ay];omega);rw[Jq]at h1;exact h1
 refine QMX 6 I<|QA (VG (ahead JW (Q8 (Zj x))) I I J6 I O)<|QL I (λ_ _ f k=>Hf f (by rw[kt,anT];exact JF _) (by rw[ah];omega)) λ_=>?_
 rw[kr];refine QMW 4 I ?_;refine Xq [(6,_),(8,_)] [(9,.int .i64 (x.den:Int))] wU ?_ ?_
 ·refine wA 4 I<|QA (Ji I J6)<|QMW 3 I ?_
  refine QO I (λhc=>?_) λhc=>?_
  ·have hlt:=QLr hc;have hd:¬(Zj x).den=1:=λg=>by have:=(Mg (Zj x)).2 g;have:=QLr hc;omega
   have kd:=(Kh hd).2.2.2;have kd2:Q4 ((Q8 (Zj x)).drop (ahead JW (Q8 (Zj x))+1))=x.den:=by rw[kd,Jq,ad]
   refine wA 3 I<|QA (Qn I I O)<|QA (ZQ ((ahead JW (Q8 (Zj x))+1)) I I J6 wN O)<|QL I (λ_ _ f k=>Hf f (by rw[kd];exact JF _) (by rw[ay];omega)) λ_=>?_
   rw[kd2];refine wB 2 I ?_;exact Jc wV QKK w8
  have hd:(Zj x).den=1:=(Mg (Zj x)).1 (by have:=QLs hc;have:=YN JW (Q8 (Zj x));omega);refine QN ?_;exact Jc ⟨rfl,rfl,(congrArg (λz:Int=>some (ar .i64 z)) (by rw[<-ad,hd];rfl)),trivial⟩ QKK w7
 have hden:x.den<1000000000:=Ay;refine Xq [(9,_)] [(8,.int .i64 (x.num))] wT ?_ ?_
 ·refine wA 5 I ?_;refine QO I (λhc=>?_) λhc=>?_
  ·refine wA 2 I<|QA (Jg I I O)<|wB 2 I ?_
   exact Jc ⟨rfl,(congrArg (λz:Int=>some (ar .i64 z)) (wi<|QLr hc)),trivial⟩ QKK w7
  refine QN ?_;exact Jc ⟨rfl,(congrArg (λz:Int=>some (ar .i64 z)) (wi<|QLs hc)),trivial⟩ QKK w7
 refine wA 10 I ?_;exact X4 ((x.num,(x.den:Int),true):Int×Int×Bool) rfl (.tmp rfl (wP I I)) (rfl) λF h9=>λ_=>⟨rfl,rfl,hnum,hden⟩
section
variable{P:Program}{N:Nat}{m:Sl}{S:World->Prop}{ty:TypeId}
def vd{x:Operand}{a b:Int}(hx:ev m x=some (.int .i64 a))(hy:ev m y=some (.int .i64 b))(h:0<b)(h0 : -9223372036854775807<=a)(h1:a<=9223372036854775807):Qt P N m S (.binOp .quo T x y yT) ty (.int .i64 (a.tdiv b)):=by
 have:=U8 (P:=P) (N:=N) (m:=m) (S:=S) (ty:=ty) (T:=T) (yT:=yT) hx hy O;have e:=eu a b;have e2:a.natAbs.div b.natAbs<=a.natAbs:=er _ _;rw[eY _ O]at this;exact this
end
theorem jR{x y:Int}(hF:Fits F w)(h0:0<=x)(h1:x<=9223372036854775807)(k0:0<=y)(k1:y<=9223372036854775807):Qi prog 250 [.int .i64 x,.int .i64 y] w F (.int .i64 (aY x.toNat y.toNat:Nat)):=by
 have:=vV (a:=x.toNat) (b:=y.toNat) hF O O;rw[bK h0,bK k0]at this;exact this
def Oj(z:Int):(if 0-z>z then 0-z else z)=((z.natAbs:Nat):Int):=by split<;>omega
def Sn(n:Nat):BP n 1=ao n:=by
 rcases ax n with h | h
 ·subst h;unfold BP hd;rw[if_pos rfl,ZW];rfl
 exact MJ h
theorem Oc{n:Int}{d:Nat}(h:0<d):n.tdiv ((aY n.natAbs d:Nat):Int)=(ae n d).num:=by
 rw[(Ze (x:=n) (y:=(d:Int)) O).1];have e:(aY n.natAbs d:Nat)=aE n (d:Int):=by simp[aE]
 rw[e];exact Int.tdiv_eq_ediv_of_dvd (fk (a:=n) (b:=(d:Int)))
theorem Od{n:Int}{d:Nat}(h:0<d):(d:Int)/((aY n.natAbs d:Nat):Int)=((ae n d).den:Int):=by
 rw[(Ze (x:=n) (y:=(d:Int)) O).2];have e:(aY n.natAbs d:Nat)=aE n (d:Int):=by simp[aE]
 rw[e]
def jc(n:Int){d:Int}(h:d≠0):ae (if d<0 then 0-n else n) (d.natAbs:Int)=ae n d:=by
 split
 ·rename_i g;rw[show((d.natAbs:Nat):Int) = -d by omega,Int.zero_sub];exact eX n d
 rw[show((d.natAbs:Nat):Int)=d by omega]
def Oe{n:Int}{d:Nat}(h:0<d)(hn:n.natAbs<=4000000000000000000)(hd:d<=4000000000000000000):(ae n d).num.natAbs<=4000000000000000000/\(ae n d).den<=4000000000000000000/\0<(ae n d).den:=by
 have e1:=Oc (n:=n) h;have e2:=Od (n:=n) h;have k1:=eu n ((aY n.natAbs d:Nat):Int);have k2:n.natAbs.div ((aY n.natAbs d:Nat):Int).natAbs<=n.natAbs:=er _ _;have k3:(d:Int)/((aY n.natAbs d:Nat):Int)<=(d:Int):=bZ _ O;have k4:=(ae n d).den_pos;rw[e1]at k1;omega
def R4(z:Int):(if z<0 then[45]else[])++ao z.natAbs=Xm z:=by
 split
 ·rename_i h;rw[Zr h];rfl
 rw[Jd O];rfl
def Lw(h : -9223372036854775808<=z/\z<=9223372036854775807):sz z<=64:=by
 rw[XK];omega
theorem yC{num den:Int}(hF:Fits F w)(hn : -9223372036854775808<=num/\num<=9223372036854775807)(hd : -9223372036854775808<=den/\den<=9223372036854775807)(h0:den≠0):Qi prog 164 [.int .i64 num,.int .i64 den] w F (tx (Q8 (ae num den))):=by
 refine QS.go (G:=λF=>True) func164 hF trivial ?_;refine wA 6 I ?_
 refine Xq [(0,_),(1,_)] [(20,.bool (decide (num < -4000000000000000000\/num>4000000000000000000\/den < -4000000000000000000\/den>4000000000000000000)))] wU ?_ ?_
 ·refine wA 4 I ?_;refine Qa (t:=9) rfl (λhb9=>?_) λhb9=>?_
  ·refine wB 12 I ?_;exact Jc ⟨rfl,rfl,(congrArg (λb=>some (af b)) (by rw[aD];simp_all;try omega)),trivial⟩ QKK w7
  refine wB 6 I ?_;refine Qa (t:=13) rfl (λhb13=>?_) λhb13=>?_
  ·refine wB 8 I ?_;exact Jc ⟨rfl,rfl,(congrArg (λb=>some (af b)) (by rw[aD];simp_all;try omega)),trivial⟩ QKK w7
  refine wB 6 I ?_;refine Qa (t:=17) rfl (λhb17=>?_) λhb17=>?_
  ·refine wB 4 I ?_;exact Jc ⟨rfl,rfl,(congrArg (λb=>some (af b)) (by rw[aD];simp_all;try omega)),trivial⟩ QKK w7
  refine wB 6 I ?_;exact Jc ⟨rfl,rfl,(congrArg (λb=>some (af b)) (by rw[aD];simp_all;try omega)),trivial⟩ QKK w7
 refine QO I (λhc=>?_) λhc=>?_
 ·refine wS I<|QL I (λ_ _ f k=>Vd f O) λc22=>QJm I<|QL I (λ_ _ f k=>Vd f O) λc24=>QL I (λ_ _ f k=>Yp f (k.1.2) (k.2) (h0) (wi<|Lw hn) (wi<|Lw hd)) λ_=>wR I<|QU ?_
  exact QMn I I (rfl) wz
 have hb:¬(num < -4000000000000000000\/num>4000000000000000000\/den < -4000000000000000000\/den>4000000000000000000):=QLs hc;refine QN<|QD ?_
 refine Xq [] [(0,.int .i64 (if den<0 then 0-num else num)),(1,.int .i64 ((den.natAbs:Nat):Int))] trivial ?_ ?_
 ·refine wA 6 I ?_;refine QO I (λhc=>?_) λhc=>?_
  ·refine wA 2 I<|QA (Jg I I O)<|QJm I<|QA (Jg I I O)<|wB 3 I ?_
   exact Jc ⟨(congrArg (λz:Int=>some (ar .i64 z)) (if_pos (QLr hc)).symm),(congrArg (λz:Int=>some (ar .i64 z)) (wi<|QLr hc)),trivial⟩ QKK w7
  refine QN ?_;exact Jc ⟨(congrArg (λz:Int=>some (ar .i64 z)) (if_neg (QLs hc)).symm),(congrArg (λz:Int=>some (ar .i64 z)) (wi<|QLs hc)),trivial⟩ QKK w7
 have hq:=jc num h0;have b1:(if den<0 then 0-num else num).natAbs<=4000000000000000000:=by split<;>omega
 generalize (if den<0 then 0-num else num)=n1 at *
 obtain⟨c1,c2,c3⟩:=Oe (n:=n1) (d:=den.natAbs) O b1 O;have hg:0<aY n1.natAbs den.natAbs:=Nat.gcd_pos_of_pos_right _ O;have lr1:=W9 (ae n1 (den.natAbs:Int)).num;have lr2:=Pf (ae n1 (den.natAbs:Int)).den;have lz1:=Lw (z:=(ae n1 (den.natAbs:Int)).num) O;have lz2:=Lw (z:=((ae n1 (den.natAbs:Int)).den:Int)) O;have e1:=Oc (n:=n1) (d:=den.natAbs) O;have e2:=Od (n:=n1) (d:=den.natAbs) O;refine wA 4 I<|QA (Jg I I O)<|QA (IU I I) ?_
 rw[Oj];refine QJm I<|QL I (λ_ _ f k=>jR f O O O O) λ_=>wR I<|QG<|JE QKK mixed wj ?_
 simp only[bT];refine QJ (QC I)<|QJ (QC I)<|QJ (vd I I O O O) ?_
 rw[e1];refine QJ (QC I)<|QJ (QC I)<|QJ (VT I I O O O) ?_
 rw[e2];refine QJ (QE I)<|QJ (QE I)<|Qy<|QMY 6 I ?_
 refine Xq [(0,_),(1,_)] [(6,tx (if(ae n1 (den.natAbs:Int)).num<0 then[45]else[]))] wU ?_ ?_
 ·refine wA 6 I ?_;refine QO I (λhc=>?_) λhc=>?_
  ·refine wA 3 I ?_;exact Jc ⟨rfl,rfl,(congrArg (λl=>some (tx l)) (if_pos (QLr hc)).symm),trivial⟩ QKK w7
  refine QN ?_;exact Jc ⟨rfl,rfl,(congrArg (λl=>some (tx l)) (if_neg (QLs hc)).symm),trivial⟩ QKK w7
 refine wA 5 I<|QA (Jg I I O)<|QA (IU I I) ?_
 rw[Oj];refine QL I (λ_ _ f k=>VE f (least:=1) O O O) (λ_=>?_);simp only[bT,Sn];refine QA (Xe I I (by have e:=congrArg fH (R4 (ae n1 (den.natAbs:Int)).num);rw[aj]at e;omega))<|QMW 6 I ?_
 rw[R4];refine QMW 4 I ?_;refine QO I (λhc=>?_) λhc=>?_
 ·have hd1:¬((ae n1 (den.natAbs:Int)).den:Int)=1:=wi<|QLr hc
  refine wA 2 I<|QA (Xe I I (by simp only[aj,au,fh];omega))<|QJm I<|QL I (λ_ _ f k=>VE f (least:=1) O O O) λ_=>?_
  simp only[bT,Sn];refine QA (Xe I I (by simp only[aj,au,fh];omega))<|QMW 10 I ?_
  exact QMn I I (by rw[<-hq];exact congrArg (λl=>tx l) (by rw[<-PG hd1,Og])) wz
 have hd1:((ae n1 (den.natAbs:Int)).den:Int)=1:=wi<|QLs hc
 refine QMX 9 I ?_;exact QMn I I (by rw[<-hq];exact congrArg (λl=>tx l) (U7 hd1).symm) wz
def Er:Q8 0=[48]:=by
 have h:(0:Rat).num=0:=rfl;unfold Q8;rw[if_pos wu,h,Jd wk];exact ZW
def R5(x:Rat):x.num<0↔x<0:=by rw[<-Rat.not_le,<-Rat.num_nonneg];omega
theorem AH(x:Rat):Tz (Q8 x)=Q8 (-x):=by
 unfold Tz WG;rw[VF];by_cases h0:Q8 x=[48]
 ·rw[if_pos h0];have hx:x=0:=by
   have hv:=Zb x.num;by_cases hd:x.den=1
   ·rw[(DI hd).1]at h0;rw[h0]at hv;have:x.num=0:=by rw[<-hv];rfl
    exact Rat.num_eq_zero.1 this
   have:=(Kh hd).2.2.1;have h1:=(Kh hd).2.1;rw[h0]at h1;have h2:=(Kh hd).1;have h3:0<(Xm x.num).length:=by
    rcases ax (Xm x.num).length with g | g
    ·have e:=ai g;unfold Xm at e;rcases fJ x.num 0 with q | q
     ·have:=Zr q;unfold Xm at this;rw[this]at e;cases e
     have:=Jd q;unfold Xm at this;rw[this]at e;exact absurd e (VK _)
    exact g
   rw[h0]at h2;simp at h1;omega
  subst hx;have e:(-0:Rat)=0:=wk;rw[e,if_neg wk,if_pos rfl]
 rw[if_neg h0];by_cases hn:x.num<0
 ·rw[if_pos (show(decide (x.num<0))=true by simpa using hn),if_pos wk,Hk hn];rfl
 rw[if_neg (show ¬(decide (x.num<0))=true by simpa using hn),if_neg wk,if_neg wk];have h1:(-x).num<0:=by
  rw[eT];have:x.num≠0:=by
   intro e;have:=Rat.num_eq_zero.1 e;subst this;exact h0 Er
  omega
 have:=Hk h1;rw[Rat.neg_neg]at this;exact this.symm
def Ee(x:Rat):WG (Q8 x)=MV x.num:=by
 unfold WG;rw[VF];by_cases h0:x=0
 ·subst h0;rw[if_pos Er];rfl
 have hn:x.num≠0:=λe=>h0 (Rat.num_eq_zero.1 e);have h1:Q8 x≠[48]:=by
  intro e;have h2:=AH x;unfold Tz WG at h2;rw[if_pos e,if_neg wk,if_pos rfl,e]at h2;by_cases hd:x.den=1
  ·have hv:=Zb x.num;rw[<-(DI hd).1,e]at hv;exact hn hv.symm
  have:=(Kh hd).2.2.1;have hv:=Zb x.num;rw[<-this,e]at hv;have h3:=(Kh hd).2.1;rw[e]at h3;have h4:ahead JW [48]=1:=wk;rw[h4]at h3;exact absurd h3 wk
 rw[if_neg h1];unfold MV;by_cases g:x.num<0
 ·rw[if_pos (show(decide (x.num<0))=true by simpa using g),if_pos g]
 rw[if_neg (show ¬(decide (x.num<0))=true by simpa using g),if_neg g,if_neg hn]
def jK(x:Rat):MV x.num=if x<0 then -1 else if x=0 then 0 else 1:=by
 unfold MV;by_cases h:x<0
 ·rw[if_pos h,if_pos ((R5 x).2 h)]
 rw[if_neg h,if_neg (λg=>h ((R5 x).1 g))];by_cases h0:x=0
 ·rw[if_pos h0,if_pos (Rat.num_eq_zero.2 h0)]
 rw[if_neg h0,if_neg (λg=>h0 (Rat.num_eq_zero.1 g))]
theorem xT(x y:Rat):MV (x-y).num=Dt x y:=by
 rw[jK];unfold Dt;have h1:(x-y<0)↔x<y:=by grind
 have h2:(x-y=0)↔x=y:=by grind
 simp only[h1,h2]
def AP(n:Int):Q8 (n:Rat)=Xm n:=by unfold Q8;rw[if_pos wv];simp
theorem Ti{n:Int}(hF:Fits F w)(hn : -9223372036854775808<=n/\n<=9223372036854775807):Qi prog 180 [.int .i64 n] w F (tx (Q8 (n:Rat))):=by
 refine QS.go (G:=λF=>True) func180 hF trivial ?_;refine wA 8 I<|QL I (λ_ _ f k=>Vd f (hn)) λc4=>QL I (λ_ _ f k=>Dg f (k.2) (wi<|Lw hn)) λ_=>wR I<|QU ?_
 exact QMn I I (by rw[AP]) wz
theorem OI{y:Rat}(hF:Fits F w)(hx:Zv x<=100000)(hy:Zv y<=100000):Qi prog 162 [tx (Q8 x),tx (Q8 y)] w F (tx (Q8 (x+y))):=by
 refine QS.go (G:=λF=>True) func162 hF trivial ?_;refine wA 8 I<|QL I (λ_ _ f k=>Hi f (hx)) λc17=>XA _ (λ_ _ f k=>k.2) λp17=>QMW 12 I<|QL I (λ_ _ f k=>Hi f (hy)) λc23=>XA _ (λ_ _ f k=>k.2) λp23=>QMW 14 I ?_
 refine Qa (t:=28) rfl (λhb28=>?_) λhb28=>?_
 ·refine QMW 5 I ?_;refine QO I (λhc=>?_) λhc=>?_
  ·refine QG ?_;obtain⟨a1,a2,a3,a4⟩:=p17 hb28;obtain⟨b1,b2,b3,b4⟩:=p23 hc;have xd:=x.den_pos;have yd:=y.den_pos;have e1:(x.num*y.den).natAbs<1000000000*1000000000:=by rw[aF];exact aq a3 O
   have e2:(y.num*x.den).natAbs<1000000000*1000000000:=by rw[aF];exact aq b3 O
   have e3:(x.num*y.num).natAbs<1000000000*1000000000:=by rw[aF];exact aq a3 b3
   have e4:((x.den:Int)*y.den).natAbs<1000000000*1000000000:=by rw[aF];exact aq O O
   have e5:(x.den:Int)*y.den≠0:=by have h1:=X0 x;have h2:=X0 y;exact aM h1 h2
   rw[a1,a2,b1,b2];refine wA 3 I<|QA (VV I I O)<|wB 2 I<|QA (VV I I O)<|QA (Qn I I O)<|wB 2 I<|QA (VV I I O)<|QL I (λ_ _ f k=>yC f O O (e5)) λ_=>wR I<|QU ?_
   exact QMn I I (by rw[Kv]) wz
  refine QMX 3 I ?_;have s1:=JZ x;have s2:=JQ x;have s3:=JZ y;have s4:=JQ y;have m1:=X8 x.num y.den;have m2:=X8 y.num x.den;have m3:=X8 (x.den:Int) y.den;have m4:=X8 x.num y.num;have m5:=Eb (x.num*y.den) (y.num*x.den);have e5:(x.den:Int)*y.den≠0:=aM (X0 x) (X0 y);refine wA 2 I<|QL I (λ_ _ f k=>Yo f (hx)) λc44=>wB 3 I<|Qk Xf λb11=>Qk Xf λb12=>QV (vs:=[_,_]) I I I Qv I .u1 .h2 wU<|QV (vs:=[_,_]) I I I Qv I .here .h2 wU<|QMW 5 I<|QL I (λ_ _ f k=>Yo f (hy)) λc49=>wB 3 I<|Qk Xf λb13=>Qk Xf λb14=>QV (vs:=[_,_]) I I I Qv I .u1 .h2 wU<|QV (vs:=[_,_]) I I I Qv I .here .h2 wU<|QJl<|QG<|JE QKK mixed wj<|QJ (wH I Qv .u3)<|QJ (wH I Qv .here)<|QZ I (λ_ _ f k=>Zp f (k.1.2.1) (k.2.2) O O) λc54=>QJ (wH I Qv .u1)<|QJ (wH I Qv .u2)<|QZ I (λ_ _ f k=>Zp f (k.1.2.1) (k.1.1.2.2) O O) λc57=>QZ I (λ_ _ f k=>U4 f (k.1.2) (k.2) O O) λc58=>QJ (wH I Qv .u2)<|QJ (wH I Qv .here)<|QZ I (λ_ _ f k=>Zp f (k.1.1.1.1.2.2) (k.1.1.1.2.2) O O) λc61=>QZ I (λ_ _ f k=>Yp f (k.1.2) (k.2) (e5) O O) λ_=>QJ (QE I)<|Qy<|QD ?_
  refine QU ?_;exact QMn I I (by rw[Kv]) wz
 refine QMW 4 I<|Zg I<|QMX 3 I ?_
 have s1:=JZ x;have s2:=JQ x;have s3:=JZ y;have s4:=JQ y;have m1:=X8 x.num y.den;have m2:=X8 y.num x.den;have m3:=X8 (x.den:Int) y.den;have m4:=X8 x.num y.num;have m5:=Eb (x.num*y.den) (y.num*x.den);have e5:(x.den:Int)*y.den≠0:=aM (X0 x) (X0 y);refine wA 2 I<|QL I (λ_ _ f k=>Yo f (hx)) λc44=>wB 3 I<|Qk Xf λb11=>Qk Xf λb12=>QV (vs:=[_,_]) I I I Qv I .u1 .h2 wU<|QV (vs:=[_,_]) I I I Qv I .here .h2 wU<|QMW 5 I<|QL I (λ_ _ f k=>Yo f (hy)) λc49=>wB 3 I<|Qk Xf λb13=>Qk Xf λb14=>QV (vs:=[_,_]) I I I Qv I .u1 .h2 wU<|QV (vs:=[_,_]) I I I Qv I .here .h2 wU<|QJl<|QG<|JE QKK mixed wj<|QJ (wH I Qv .u3)<|QJ (wH I Qv .here)<|QZ I (λ_ _ f k=>Zp f (k.1.2.1) (k.2.2) O O) λc54=>QJ (wH I Qv .u1)<|QJ (wH I Qv .u2)<|QZ I (λ_ _ f k=>Zp f (k.1.2.1) (k.1.1.2.2) O O) λc57=>QZ I (λ_ _ f k=>U4 f (k.1.2) (k.2) O O) λc58=>QJ (wH I Qv .u2)<|QJ (wH I Qv .here)<|QZ I (λ_ _ f k=>Zp f (k.1.1.1.1.2.2) (k.1.1.1.2.2) O O) λc61=>QZ I (λ_ _ f k=>Yp f (k.1.2) (k.2) (e5) O O) λ_=>QJ (QE I)<|Qy<|QD ?_
 refine QU ?_;exact QMn I I (by rw[Kv]) wz
theorem Th{y:Rat}(hF:Fits F w)(hx:Zv x<=100000)(hy:Zv y<=100000):Qi prog 88 [tx (Q8 x),tx (Q8 y)] w F (tx (Q8 (x*y))):=by
 refine QS.go (G:=λF=>True) func88 hF trivial ?_;refine wA 8 I<|QL I (λ_ _ f k=>Hi f (hx)) λc17=>XA _ (λ_ _ f k=>k.2) λp17=>QMW 12 I<|QL I (λ_ _ f k=>Hi f (hy)) λc23=>XA _ (λ_ _ f k=>k.2) λp23=>QMW 14 I ?_
 refine Qa (t:=28) rfl (λhb28=>?_) λhb28=>?_
 ·refine QMW 5 I ?_;refine QO I (λhc=>?_) λhc=>?_
  ·refine QG ?_;obtain⟨a1,a2,a3,a4⟩:=p17 hb28;obtain⟨b1,b2,b3,b4⟩:=p23 hc;have xd:=x.den_pos;have yd:=y.den_pos;have e1:(x.num*y.den).natAbs<1000000000*1000000000:=by rw[aF];exact aq a3 O
   have e2:(y.num*x.den).natAbs<1000000000*1000000000:=by rw[aF];exact aq b3 O
   have e3:(x.num*y.num).natAbs<1000000000*1000000000:=by rw[aF];exact aq a3 b3
   have e4:((x.den:Int)*y.den).natAbs<1000000000*1000000000:=by rw[aF];exact aq O O
   have e5:(x.den:Int)*y.den≠0:=by have h1:=X0 x;have h2:=X0 y;exact aM h1 h2
   rw[a1,a2,b1,b2];refine wA 3 I<|QA (VV I I O)<|wB 2 I<|QA (VV I I O)<|QL I (λ_ _ f k=>yC f O O (e5)) λ_=>wR I<|QU ?_
   exact QMn I I (by rw[Kn]) wz
  refine QMX 3 I ?_;have s1:=JZ x;have s2:=JQ x;have s3:=JZ y;have s4:=JQ y;have m1:=X8 x.num y.den;have m2:=X8 y.num x.den;have m3:=X8 (x.den:Int) y.den;have m4:=X8 x.num y.num;have m5:=Eb (x.num*y.den) (y.num*x.den);have e5:(x.den:Int)*y.den≠0:=aM (X0 x) (X0 y);refine wA 2 I<|QL I (λ_ _ f k=>Yo f (hx)) λc40=>wB 3 I<|Qk Xf λb11=>Qk Xf λb12=>QV (vs:=[_,_]) I I I Qv I .u1 .h2 wU<|QV (vs:=[_,_]) I I I Qv I .here .h2 wU<|QMW 5 I<|QL I (λ_ _ f k=>Yo f (hy)) λc45=>wB 3 I<|Qk Xf λb13=>Qk Xf λb14=>QV (vs:=[_,_]) I I I Qv I .u1 .h2 wU<|QV (vs:=[_,_]) I I I Qv I .here .h2 wU<|QJl<|QG<|JE QKK mixed wj<|QJ (wH I Qv .u3)<|QJ (wH I Qv .u1)<|QZ I (λ_ _ f k=>Zp f (k.1.2.1) (k.2.1) O O) λc50=>QJ (wH I Qv .u2)<|QJ (wH I Qv .here)<|QZ I (λ_ _ f k=>Zp f (k.1.1.2.2) (k.1.2.2) O O) λc53=>QZ I (λ_ _ f k=>Yp f (k.1.2) (k.2) (e5) O O) λ_=>QJ (QE I)<|Qy<|QD<|QU ?_
  exact QMn I I (by rw[Kn]) wz
 refine QMW 4 I<|Zg I<|QMX 3 I ?_
 have s1:=JZ x;have s2:=JQ x;have s3:=JZ y;have s4:=JQ y;have m1:=X8 x.num y.den;have m2:=X8 y.num x.den;have m3:=X8 (x.den:Int) y.den;have m4:=X8 x.num y.num;have m5:=Eb (x.num*y.den) (y.num*x.den);have e5:(x.den:Int)*y.den≠0:=aM (X0 x) (X0 y);refine wA 2 I<|QL I (λ_ _ f k=>Yo f (hx)) λc40=>wB 3 I<|Qk Xf λb11=>Qk Xf λb12=>QV (vs:=[_,_]) I I I Qv I .u1 .h2 wU<|QV (vs:=[_,_]) I I I Qv I .here .h2 wU<|QMW 5 I<|QL I (λ_ _ f k=>Yo f (hy)) λc45=>wB 3 I<|Qk Xf λb13=>Qk Xf λb14=>QV (vs:=[_,_]) I I I Qv I .u1 .h2 wU<|QV (vs:=[_,_]) I I I Qv I .here .h2 wU<|QJl<|QG<|JE QKK mixed wj<|QJ (wH I Qv .u3)<|QJ (wH I Qv .u1)<|QZ I (λ_ _ f k=>Zp f (k.1.2.1) (k.2.1) O O) λc50=>QJ (wH I Qv .u2)<|QJ (wH I Qv .here)<|QZ I (λ_ _ f k=>Zp f (k.1.1.2.2) (k.1.2.2) O O) λc53=>QZ I (λ_ _ f k=>Yp f (k.1.2) (k.2) (e5) O O) λ_=>QJ (QE I)<|Qy<|QD<|QU ?_
 exact QMn I I (by rw[Kn]) wz
theorem jM{y:Rat}(hF:Fits F w)(hx:Zv x<=100000)(hy:Zv y<=100000):Qi prog 184 [tx (Q8 x),tx (Q8 y)] w F (tx (Q8 (x-y))):=by
 have hly:=Ho y;refine QS.go (G:=λF=>True) func184 hF trivial ?_;refine wA 9 I<|QL I (λ_ _ f k=>vQ f O) λ_=>?_
 rw[AH];refine QL I (λ_ _ f k=>OI f (hx) (by rw[Uo];exact hy)) (λ_=>wR I<|QU ?_);exact QMn I I (by rw[Rat.sub_eq_add_neg]) wz
theorem QAy{y:Rat}(hF:Fits F w)(hx:Zv x<=100000)(hy:Zv y<=100000):Qi prog 156 [tx (Q8 x),tx (Q8 y)] w F (.int .i64 (Dt x y)):=by
 refine QS.go (G:=λF=>True) func156 hF trivial ?_;refine wA 9 I<|QL I (λ_ _ f k=>jM f O O) λ_=>QL I (λ_ _ f k=>Hh f ) λ_=>wR I<|QU ?_
 exact QMn I I (by rw[Ee,xT]) wz
theorem FM(hF:Fits F w)(hl:s.length<=1000000)(h1:J7 (aa (s.take (ahead JW s)) [45])=true)(h2:ahead JW s<s.length->J7 (aa (s.drop (ahead JW s+1)) [45])=true):QS prog 165 [tx s] w F Ri.v2 (λc F=>YF F c.1 (Zq (s.take (ahead JW s)))/\(ahead JW s<s.length->YF F c.2 (Zq (s.drop (ahead JW s+1))))):=by
 have hah:=YN JW s;refine QS.go (G:=λF=>True) func165 hF trivial ?_;refine QLF<|Qk Xf λb2=>Qk Xf λb3=>QMW 11 I<|QL I (λ_ _ f k=>Vf f O) λ_=>QMW 8 I<|QA (Ji I J6)<|QMW 3 I ?_
 refine QO I (λhc=>?_) λhc=>?_
 ·have hd:ahead JW s=s.length:=by have:(ahead JW s:Int)=(s.length:Int):=(by simpa using hc);omega
  refine wS I<|QL I (λ_ _ f k=>Vg f (by rw[hd,aS]at h1;exact h1) O) λc14=>QL I (λ_ _ f k=>Vd f wk) λc15=>QV (vs:=[_,_]) I I I Qv I .u1 .h2 wU<|QV (vs:=[_,_]) I I I Qv I .here .h2 wU<|QJl<|QU ?_
  exact X4 ((c14,c15):Ri×Ri) rfl (.J5 (c:=[_,_]) I Qv .u1 (.J5 (c:=[_,_]) I Qv .here .nil)) (rfl) λF h9=>⟨by rw[hd,aS];exact h9.1.2,λg=>O⟩
 have hd:ahead JW s<s.length:=by rcases bQ (ahead JW s) s.length with g | g;exact g;exact absurd (show ahead JW s=s.length by omega) λe=>by rw[e]at hc;simp at hc
 refine QMX 3 I<|JE (.cons _ (.cons _ .slnil)) mixed wj<|QJ (QC I)<|QJ (QC I)<|QJ (VG (ahead JW s) rfl rfl J6 I O)<|QZ I (λ_ _ f k=>Vg f (h1) (by rw[ah];omega)) λc19=>QJ (QC I)<|QJ (QC I)<|QJ (Qn I I O)<|QJ (ZQ ((ahead JW s+1)) I I J6 wN O)<|QZ I (λ_ _ f k=>Vg f (h2 hd) (by rw[ay];omega)) λc24=>Jx (vs:=[_,_]) I I I Qv I .u1 (.cons _ .slnil) (λ_ h=>h.1.1) .h2 wU<|Jx (vs:=[_,_]) I I I Qv I .here (.cons _ .slnil) (λ_ h=>h.1.1) .h2 wU<|Qy<|QD<|QU ?_
 exact X4 ((c19,c24):Ri×Ri) rfl (.J5 (c:=[_,_]) I Qv .u1 (.J5 (c:=[_,_]) I Qv .here .nil)) (rfl) λF h9=>⟨h9.1.2,λ_=>h9.2⟩
def Mo(s:List UInt8):Bool:=!Jl ((aa s [45]).take (ahead JW (aa s [45])))||(ak s [45]&&(aa s [45]).take (ahead JW (aa s [45]))==[48])
def WQ(s:List UInt8):List UInt8:=(aa s [45]).drop (ahead JW (aa s [45])+1)
def Wg(s:List UInt8):Bool:=decide (ahead JW (aa s [45])<(aa s [45]).length)
def ML(s:List UInt8):Bool:=Wg s&&(!Jl (WQ s)||(WQ s==[48]||WQ s==[49]))
def Mn(s:List UInt8):Bool:=decide (600<ahead JW (aa s [45]))||decide (600<(WQ s).length)
def Pk(s:List UInt8):Bool:=Wg s&&!(aY (Q4 ((aa s [45]).take (ahead JW (aa s [45])))) (Q4 (WQ s))==1)
def Ww(s:List UInt8):Int:=if Mo s=true then 1 else if ML s=true then 1 else if Mn s=true then 4 else if Pk s=true then 1 else 0
def EW{l:List UInt8}(h:(!Jl l)=false):0<l.length:=by
 rcases ax l.length with g | g
 ·rw[ai g]at h;simp[Jl]at h
 exact g
def jC{p:UInt8->Bool}(h:∀c∈s,p c=true):s.takeWhile p=s:=by
 induction s with
 |nil=>rfl
 |cons c r ih=>rw[ew (h c wv),ih (λd hd=>h d (by simp[hd]))]
def Uq{l:List UInt8}(h:J7 l=true):sz (Q4 l:Int)<=4*l.length:=by
 rw[XK];have h1:=KF h;have h2:10^l.length<=2^(4*l.length):=by rw[Nat.pow_mul];exact bJ wk _
 simp;omega
theorem IC(s:List UInt8):(Xu 47 s).1=s.take (ahead JW s)/\(Xu 47 s).2.1=s.drop (ahead JW s+1)/\(Xu 47 s).2.2=decide (ahead JW s<s.length):=by
 have hf:(λc:UInt8=>!JW c)=λc=>c != 47:=by funext c;simp[JW,bne]
 have h1:=Yj (λc:UInt8=>c != 47) s;have ha:ahead JW s=(s.takeWhile λc=>c != 47).length:=by unfold ahead;rw[hf]
 rw[ha];by_cases hc:s.contains 47=true
 ·have e:Xu 47 s=(s.takeWhile (· != 47),(s.dropWhile (· != 47)).drop 1,true):=by unfold Xu;rw[if_pos hc]
  rw[e];obtain⟨r,hr⟩:=Ga (show(47:UInt8)∈s by simpa using hc);have hd:=h1.2;rw[hr]at hd;refine⟨h1.1.symm,?_,?_⟩
  ·show(s.dropWhile (· != 47)).drop 1=_;rw[hr,<-List.drop_drop,hd]
  have:(s.takeWhile λc=>c != 47).length<s.length:=by
   have:=congrArg fH hd;rw[ay,au]at this;omega
  simp[this]
 have e:Xu 47 s=(s,[],false):=by unfold Xu;rw[if_neg hc]
 rw[e];have h2:s.takeWhile (λc=>c != 47)=s:=by
  refine jC λc hm=>?_;have:c≠47:=by rintro rfl;exact hc (by simpa using hm)
  simpa using this
 rw[h2];simp
theorem Lp(s:List UInt8):aa (Xu 47 s).1 [45]=(Xu 47 (aa s [45])).1/\ak (Xu 47 s).1 [45]=ak s [45]/\(Xu 47 s).2=(Xu 47 (aa s [45])).2:=by
 cases s with
 |nil=>exact⟨rfl,rfl,rfl⟩
 |cons c r =>
  by_cases hc:c=45
  ·subst hc;have e:aa (45::r) [45]=r:=rfl;rw[e];unfold Xu;have h0:((45:UInt8)::r).contains 47=r.contains 47:=wv;rw[h0];split
   ·exact⟨rfl,rfl,rfl⟩
   exact⟨rfl,rfl,rfl⟩
  have hp:ak (c::r) [45]=false:=by
   rw[YH wv];simpa using hc
  have e:aa (c::r) [45]=c::r:=by unfold aa;rw[if_neg (by rw[hp];decide)]
  rw[e];have e2:∀l:List UInt8,ak l [45]=false->aa l [45]=l:=λl h=>by unfold aa;rw[if_neg (by rw[h];decide)]
  have h3:ak (Xu 47 (c::r)).1 [45]=false:=by
   unfold Xu;split
   ·by_cases h47:c=47
    ·subst h47;rfl
    rw[ew (by simpa using h47),YH wv];simpa using hc
   exact hp
  exact⟨e2 _ h3,by rw[h3,hp],rfl⟩
def xW(h1:Mo s=false)(h2:ML s=false)(hk:ahead JW (aa s [45])<(aa s [45]).length):J7 ((aa s [45]).take (ahead JW (aa s [45])))=true/\J7 (WQ s)=true:=by
 have hs:Wg s=true:=by simp[Wg];exact hk
 simp only[Mo,eR,eW]at h1;simp only[ML,hs,fA,eR,eW]at h2;exact⟨Yb h1.1,Yb h2.1⟩
theorem F7(s:List UInt8):Ww s=JO s:=by
 obtain⟨t1,t2,t3⟩:=Lp s;obtain⟨c1,c2,c3⟩:=IC (aa s [45]);have t4:(Xu 47 s).2.1=WQ s:=by rw[t3,c2];rfl
 have t5:(Xu 47 s).2.2=Wg s:=by rw[t3,c3];rfl
 have hlen:(aa s [45]).take (ahead JW (aa s [45]))=(aa s [45]).take (ahead JW (aa s [45])):=rfl;have hk:((aa s [45]).take (ahead JW (aa s [45]))).length=ahead JW (aa s [45]):=by
  rw[ah];have:=YN JW (aa s [45]);omega
 unfold JO Wx Ww Uc Mo ML Mn Pk;rw[t1,t2,t4,t5,c1,hk];generalize (aa s [45]).take (ahead JW (aa s [45]))=a;generalize WQ s=d;generalize Wg s=f;generalize ak s [45]=n;have e:(!Jl a||(n&&a==[48])||(f&&(!Jl d||d==[48]||d==[49])))=((!Jl a||(n&&a==[48]))||(f&&(!Jl d||(d==[48]||d==[49])))):=by rw[Bool.or_assoc (!Jl d)]
 rw[e];cases (!Jl a||(n&&a==[48]))<;>cases (f&&(!Jl d||(d==[48]||d==[49])))<;>rfl
theorem NG(hF:Fits F w)(hl:s.length<=9223372036854775807):Qi prog 154 [tx s] w F (.int .i64 (JO s)):=by
 rw[<-F7];have hln:(aa s [45]).length<=s.length:=EZ _ _;have hah:=YN JW (aa s [45]);refine QS.go (G:=λF=>True) func154 hF trivial ?_;refine wA 11 I ?_
 refine Xq [(0,_)] [(3,tx (aa s [45]))] wT ?_ ?_
 ·refine Xq [(0,_),(3,_)] [(16,.bool (ak s [45]))] wU ?_ ?_
  ·refine wA 2 I<|QA (Ji I J6)<|wB 2 I ?_
   refine Qa (t:=12) rfl (λhb12=>?_) λhb12=>?_
   ·refine wB 3 I<|QA (Yc (i:=0) rfl rfl J6 (wi<|QLr hb12))<|wB 4 I ?_
    exact Jc ⟨rfl,rfl,(congrArg (λb=>some (af b)) (by have h0:0<s.length:=(wi<|QLr hb12);rw[YH h0];exact Vm I)),trivial⟩ QKK w7
   refine wB 5 I ?_;exact Jc ⟨rfl,rfl,(congrArg (λb=>some (af b)) (by have h0:s.length=0:=(wi<|QLs hb12);rw[ai h0];rfl)),trivial⟩ QKK w7
  refine QO I (λhc=>?_) λhc=>?_
  ·refine wA 2 I<|QA (ZQ (1) rfl rfl J6 I (Gv hc))<|wB 2 I ?_
   exact Jc ⟨rfl,(congrArg (λl=>some (tx l)) (by unfold aa;rw[if_pos hc];rfl)),trivial⟩ QKK w7
  refine QN ?_;exact Jc ⟨rfl,(congrArg (λl=>some (tx l)) (by unfold aa;rw[hc];rfl)),trivial⟩ QKK w7
 refine wS I<|QL I (λ_ _ f k=>Vf f O) λ_=>wR I<|QG ?_
 refine Xq [(3,_),(4,_)] [(36,.bool (Mo s))] wU ?_ ?_
 ·refine wA 3 I<|QA (VG ((ahead JW (aa s [45]))) I I J6 I O)<|QL I (λ_ _ f k=>U5 f (by rw[ah];omega)) λ_=>QA (Xv I)<|QJm I ?_
  refine Qa (t:=26) rfl (λhb26=>?_) λhb26=>?_
  ·refine wB 4 I<|Qz I I<|Qz I I<|Qz I I<|Qz I I<|wB 3 I ?_
   exact Jc ⟨rfl,rfl,(congrArg (λb=>some (af b)) (by simp[Mo]at hb26 ⊢;simp[hb26])),trivial⟩ QKK w8
  refine wB 3 I<|QA (Yc (i:=0) rfl rfl Kg (by have h1:=EW hb26;rw[ah]at h1;omega))<|wB 4 I ?_
  refine Qa (t:=30) rfl (λhb30=>?_) λhb30=>?_
  ·refine wB 5 I<|QA (VG ((ahead JW (aa s [45]))) I I J6 I O)<|QK I I<|QA (Xc I I)<|wB 4 I ?_
   exact Jc ⟨rfl,rfl,(congrArg (λb=>some (af b)) (by have h0:0<s.length:=(by have h1:=EW hb26;rw[ah]at h1;omega);have hp:ak s [45]=true:=(by rw[YH h0,<-Vm (z:=45) rfl];exact hb30);simp[Mo]at hb26 ⊢;simp[hb26,hp])),trivial⟩ QKK w8
  refine wB 8 I ?_;exact Jc ⟨rfl,rfl,(congrArg (λb=>some (af b)) (by have h0:0<s.length:=(by have h1:=EW hb26;rw[ah]at h1;omega);have hp:ak s [45]=false:=(by rw[YH h0,<-Vm (z:=45) rfl];exact hb30);simp[Mo]at hb26 ⊢;simp[hb26,hp])),trivial⟩ QKK w8
 refine QO I (λhc=>?_) λhc=>?_
 ·have hb1:Mo s=true:=hc;refine wA 6 I ?_;exact QMn I I (congrArg (ar .i64) (by simp[Ww,hb1])) wz
 have hb1:Mo s=false:=hc;refine QMX 3 I ?_;refine Xq [(3,_),(4,_)] [(62,.bool (ML s))] wU ?_ ?_
 ·refine wA 3 I<|QA (Ji I J6)<|wB 2 I ?_
  refine Qa (t:=41) rfl (λhb41=>?_) λhb41=>?_
  ·refine wB 5 I<|QA (Qn I I (by first | omega | (simp only[decide_eq_true_eq]at *;omega)))<|QK I I<|QA (ZQ (((ahead JW (aa s [45]))+1)) I I J6 wN (wi<|QLr hb41))<|QK I I<|QL I (λ_ _ f k=>U5 f (by rw[ay];omega)) λ_=>QK I I<|QA (Xv I)<|wB 2 I ?_
   refine Qa (t:=48) rfl (λhb48=>?_) λhb48=>?_
   ·refine wB 18 I ?_;exact Jc ⟨rfl,rfl,(congrArg (λb=>some (af b)) (by have h1:Wg s=true:=(by simp[Wg];simpa using hb41);simp[ML,h1];simp at hb48;exact .inl hb48)),trivial⟩ QKK w8
   refine wB 5 I<|QA (Qn I I (by first | omega | (simp only[decide_eq_true_eq]at *;omega)))<|QK I I<|QA (ZQ (((ahead JW (aa s [45]))+1)) I I J6 wN (wi<|QLr hb41))<|QK I I<|QA (Xc I I)<|wB 4 I ?_
   refine Qa (t:=55) rfl (λhb55=>?_) λhb55=>?_
   ·refine wB 9 I ?_;exact Jc ⟨rfl,rfl,(congrArg (λb=>some (af b)) (by have h1:Wg s=true:=(by simp[Wg];simpa using hb41);simp[ML,h1];exact .inr (.inl (by simpa[WQ]using hb55)))),trivial⟩ QKK w8
   refine wB 5 I<|QA (Qn I I (by first | omega | (simp only[decide_eq_true_eq]at *;omega)))<|QK I I<|QA (ZQ (((ahead JW (aa s [45]))+1)) I I J6 wN (wi<|QLr hb41))<|QK I I<|QA (Xc I I)<|wB 4 I ?_
   exact Jc ⟨rfl,rfl,(congrArg (λb=>some (af b)) (by have h1:Wg s=true:=(by simp[Wg];simpa using hb41);simp at hb48 hb55;simp[ML,h1,WQ,hb48,hb55])),trivial⟩ QKK w8
  refine wB 7 I<|Qz I I<|Qz I I<|Qz I I<|Qz I I<|Qz I I<|wB 2 I<|Qz I I<|Qz I I<|Qz I I<|Qz I I<|Qz I I<|wB 3 I ?_
  exact Jc ⟨rfl,rfl,(congrArg (λb=>some (af b)) (by have h1:Wg s=false:=(by simp[Wg];simpa using hb41);simp[ML,h1])),trivial⟩ QKK w7
 refine QO I (λhc=>?_) λhc=>?_
 ·have hb2:ML s=true:=hc;refine wA 6 I ?_;exact QMn I I (congrArg (ar .i64) (by simp[Ww,hb1,hb2])) wz
 have hb2:ML s=false:=hc;refine QMX 3 I ?_;refine Xq [(3,_),(4,_)] [(72,.bool (Mn s))] wU ?_ ?_
 ·refine wA 4 I ?_;refine Qa (t:=65) rfl (λhb65=>?_) λhb65=>?_
  ·refine wB 8 I ?_;exact Jc ⟨rfl,rfl,(congrArg (λb=>some (af b)) (by have:=QLr hb65;simp[Mn];left;omega)),trivial⟩ QKK w7
  refine wB 3 I<|QA (Ji I J6)<|wB 3 I<|QA (Jg I I O)<|QK I I<|QA (Jg I I O)<|wB 4 I ?_
  exact Jc ⟨rfl,rfl,(congrArg (λb=>some (af b)) (by rw[aD];have:=QLs hb65;simp[Mn,WQ];omega)),trivial⟩ QKK w7
 refine QO I (λhc=>?_) λhc=>?_
 ·have hb3:Mn s=true:=hc;refine wA 6 I ?_;exact QMn I I (congrArg (ar .i64) (by simp[Ww,hb1,hb2,hb3])) wz
 have hb3:Mn s=false:=hc;have hk6:ahead JW (aa s [45])<=600:=by simp[Mn]at hb3;exact hb3.1
 refine QMX 7 I<|QA (Ji I J6)<|QMW 3 I ?_
 refine QO I (λhc=>?_) λhc=>?_
 ·have hk:ahead JW (aa s [45])<(aa s [45]).length:=wi<|QLr hc
  obtain⟨da,dd⟩:=xW hb1 hb2 hk;refine wS I<|QL I (λ_ _ f k=>FM f (s:=(aa s [45])) (by have h6:(WQ s).length<=600:=(by simp[Mn]at hb3;exact hb3.2);have h7:(WQ s).length=(aa s [45]).length-(ahead JW (aa s [45])+1):=(by unfold WQ;rw[ay]);omega) (by rw[Z1 da];exact da) λ_=>by rw[show(List.drop (ahead JW (aa s [45])+1) (aa s [45]))=WQ s from rfl,Z1 dd];exact dd) λc79=>QJm rfl<|QA (Qe rfl rfl)<|QA (Qe rfl rfl)<|Qk Xf λb5=>Qk Xf λb6=>QV (vs:=[_,_]) rfl rfl rfl Qv rfl .u1 .h2 wU<|QV (vs:=[_,_]) rfl rfl rfl Qv rfl .here .h2 wU<|QJl<|QG<|ZO _ (λ_ _ f h=>aC h.2.1.p (aC (h.2.2 hk).p (aC h.2.1.1.2.1 (h.2.2 hk).1.2.1))) λpp=>?_
  obtain⟨pa,pd,na,nd⟩:=pp;rw[Xn da]at pa;have pd2:=pd;rw[show Zq ((aa s [45]).drop (ahead JW (aa s [45])+1))=Q4 (WQ s)from Xn dd]at pd2;have la:=pa.len;have ld:=pd2.len;have sa:=Uq da;have sd:=Uq dd;have h600:(WQ s).length<=600:=by simp[Mn]at hb3;exact hb3.2
  rw[ah]at sa;refine QB<|QA (QH I J9 Qu)<|QA (Qp I Qu .u1 (.skip .h1))<|QA (QH I J9 Qu)<|QA (Qp I Qu .here (.skip .h1)) ?_
  refine QL I (λ_ _ f k=>ND f (a:=c79.1.l) (b:=c79.2.l) (ra:=c79.1.r) (rb:=c79.2.r) k.2.1.1 ((k.2.2 hk).1) (pa.dg) (pd.dg) (pa.nz) (pd.nz) O O) (λc86=>?_);rcases c86 with ⟨v86,l86⟩;dsimp only;refine XA _ (λw F hF ⟨⟨⟨hT,_⟩,h79⟩,⟨h86,h86p⟩⟩=>aC h86.2 h86p) (λp86=>QJn rfl<|QF<|QD ?_);refine Xq [] [(95,.bool (Pk s))] trivial ?_ ?_
  ·have hgc:dv B9 l86=(aY (Q4 ((aa s [45]).take (ahead JW (aa s [45])))) (Q4 (WQ s)):Nat):=by
    rw[p86.2.2.2,Sb pa pd2];rfl
   have hone:=Ew p86.2.1 p86.2.2.1;have hsl:Wg s=true:=by simp[Wg];exact hk
   refine wA 2 I<|QA (Qc I Qd)<|wB 2 I ?_
   refine Qa (t:=90) rfl (λhb90=>?_) λhb90=>?_
   ·refine wB 6 I ?_;exact Jc ⟨(congrArg (λb=>some (af b)) (by have h1:¬l86.length=1:=(by simp at hb90;omega);rw[aD];simp[Pk,hsl];intro g;exact h1 (hone.2 (by rw[hgc,g];rfl)).1)),trivial⟩ QKK w7
   have hn1:v86.n=1:=by simp at hb90;omega
   refine wB 3 I<|QA (Qo (n:=v86.n) (0) (λF h9=>(h9.2.1).1) rfl wN Qd QY O)<|QK I I<|QA (Ql (n:=v86.n) ((0)*1) (λF h9=>(h9.2.1).1) O rfl QY (JP (o:=l86) O))<|wB 4 I ?_
   exact Jc ⟨(congrArg (λb=>some (af b)) (by have h1:l86.length=1:=O;rw[aD];simp[Pk,hsl];exact not_congr ⟨λe=>by have h2:=hone.1 ⟨h1,e⟩;rw[hgc]at h2;omega,λe=>(hone.2 (by rw[hgc,e];rfl)).2⟩)),trivial⟩ QKK w7
  refine QO I (λhc=>?_) λhc=>?_
  ·have hg4:Pk s=true:=hc;refine wA 6 I ?_;exact QMn I I (congrArg (ar .i64) (by simp[Ww,hb1,hb2,hb3,hg4])) wz
  have hg4:Pk s=false:=hc;refine QMX 8 I ?_;exact QMn I I (congrArg (ar .i64) (by simp[Ww,hb1,hb2,hb3,hg4])) wz
 have hg4:Pk s=false:=by have:=QLs hc;simp[Pk,Wg];intro g;omega
 refine QMX 8 I ?_;exact QMn I I (congrArg (ar .i64) (by simp[Ww,hb1,hb2,hb3,hg4])) wz
theorem NF(hF:Fits F w)(hl:s.length<=1000000):Qi prog 154 [tx s] w F (.int .i64 (JO s)) :=
 NG hF (bS hl wk)
structure Ya{α:Type}(l:List α)(f:α->Int) where
 i:Nat
 le:i<=l.length
 h:JB (l.map f)=JB ((l.map f).drop i)
section
variable{α:Type}[Inhabited α]{l:List α}{f:α->Int}
def Pa(hi:i<l.length):(l.map f)[i]'(by simpa using hi)=f (el l i):=by rw[List.getElem_map,ZH hi]
def Ya.next(s:Ya l f)(hi:s.i<l.length)(h:f (el l s.i)=0):Ya l f:=⟨s.i+1,hi,by
 rw[s.h,Sc (by simpa using hi) (by rw[Pa hi];exact h)]⟩
def Ya.hit(s:Ya l f)(hi:s.i<l.length)(h:f (el l s.i)≠0):JB (l.map f)=f (el l s.i):=by
 rw[s.h,UN (by simpa using hi) (by rw[Pa hi];exact h),Pa hi]
def Ya.stop(s:Ya l f)(hi:l.length<=s.i):JB (l.map f)=0:=by
 rw[s.h,aB (by simpa using hi)];rfl
end
def Ya.start{α:Type}(l:List α)(f:α->Int):Ya l f:=⟨0,ba _,rfl⟩
structure Mr{α:Type}(l:List α)(p:α->Bool) where
 i:Nat
 le:i<=l.length
 h:l.all p=(l.drop i).all p
section
variable{α:Type}[Inhabited α]{l:List α}{p:α->Bool}
def Mr.next(s:Mr l p)(hi:s.i<l.length)(h:p (el l s.i)=true):Mr l p:=⟨s.i+1,hi,by rw[s.h,Gj hi,eF,h,fA]⟩
def Mr.hit(s:Mr l p)(hi:s.i<l.length)(h:p (el l s.i)=false):l.all p=false:=by rw[s.h,Gj hi,eF,h,fu]
def Mr.stop(s:Mr l p)(hi:l.length<=s.i):l.all p=true:=by rw[s.h,aB hi];rfl
end
def Mr.start{α:Type}(l:List α)(p:α->Bool):Mr l p:=⟨0,ba _,rfl⟩
def spC(p:List UInt8×List UInt8):List Value:=[tx p.1,tx p.2]
theorem IT{n c:Nat}{l:List (List UInt8)}(hF:Fits F w)(hR:JC F q n 1 (l.map tx))(hl:l.length=n/\∀s∈l,s.length<=1000000)(hn:n<=1000000):Qi prog 158 [.slice q n c] w F (.int .i64 (JB (l.map JO))):=by
 have hln:=hl.1;refine QS.go (G:=λF=>JC F q n 1 (l.map tx)) func158 hF hR ?_;refine wA 12 I<|Jt (ι:=Ya l JO) [(0,_)] (λi=>[(3,.int .i64 ((i.i:Nat):Int))]) (λi=>l.length-i.i) (Ya.start _ _) wT wT λi=>wA 5 I<|QA (Qc I Z2)<|QMW 3 I ?_
 refine QO I (λhc=>?_) λhc=>?_
 ·have hi:i.i<l.length:=wi<|QLr hc
  refine QMX 8 I<|QA (Qo (n:=n) i.i w7 rfl rfl Z2 Ja O)<|QA (Ql (n:=n) ((i.i)*1) w7 O rfl Ja (Jo (f:=tx) (l:=l) O))<|QL I (λ_ _ f k=>NF f (hl.2 _ (Q2 hi))) λ_=>QMW 9 I ?_
  refine QO I (λhc=>?_) λhc=>?_
  ·refine wA 6 I<|ZS ?_
   exact QMn I I (congrArg (ar .i64) (i.hit hi (by simpa using hc))) wz
  refine QN<|Qg<|QMY 3 I<|QA (Qn I I O)<|wB 2 I ?_
  exact Qj (i.next hi (by simpa using hc)) (by show l.length-(i.i+1)<l.length-i.i;omega) wU QKK w8
 have hi:l.length<=i.i:=wi<|QLs hc
 refine JK ?_;refine wA 6 I ?_;exact QMn I I (congrArg (ar .i64) (i.stop hi)) wz
def H9(a:List UInt8)(d:Int):Bool:=decide ((a.length:Int)<=2*d+2)&&(JO a==0&&(decide (((Ue (numOf a)).length:Int)<=d)&&decide (((MY a).length:Int)<=d)))
def FY(a:List UInt8):(numOf a).length<=a.length:=by unfold numOf;rw[ah];omega
def ph:([49]:List UInt8)=Q8 1:=by
 have h:(1:Rat).num=1:=rfl;unfold Q8;rw[if_pos wu,h,Jd wk];exact(Wr (l:=[49]) wk).symm
theorem qI(hF:Fits F w):Qi prog 181 [tx s] w F (.agg #[tx s,tx s]):=by
 refine QS.go (G:=λF=>True) func181 hF trivial ?_;refine QLF<|Qk kg λb2=>QMW 6 I<|QA (ZT I QA8 kg (wQ I I I))<|QV (vs:=[_,_]) I I I Ll I .here .h2 wU<|QJl<|QU ?_
 exact QM (()) I (.J5 (c:=[_,_]) I Ll .here .nil) (rfl) wz
theorem z8(hF:Fits F w):Qi prog 155 [tx (Q8 x)] w F (.int .i64 (MV x.num)):=by
 have:=Hh (s:=Q8 x) hF;rw[Ee]at this;exact this
section
open Go Go.RowKit
section
variable[Dr][df:Df]
def Y7(l:List Oper)(r:List Nat)(i:Nat):Bool:=match l[i]? with
 |some o=>o.after.all λe=>!(eG .any e)||!(r.contains e.on)
 |none=>false
def PI(l:List Oper)(i:Nat):Bool:=match l[i]? with
 |some o=>Jb o.op
 |none=>false
def BD(l:List Oper)(r:List Nat):Option Nat:=r.find? λi=>PI l i&&Y7 l r i
def G7(l:List Oper):Bool :=
 Region.noSelect l.toArray&&Kl .any l.toArray l.length&&(ey l.length).all λj=>match l[j]? with
  |none=>false
  |some oj=>(ey j).all λi=>match l[i]? with
   |none=>false
   |some oi=>if Jb oi.op||Jb oj.op then(aH .any l.toArray j i||oi.apart l.toArray oj)else true
theorem Gq{l:List Oper}(h:G7 l=true){i j:Nat}(hij:i<j){oi oj:Oper}(hi:l[i]?=some oi)(hj:l[j]?=some oj)(hq:(Jb oi.op||Jb oj.op)=true):(aH .any l.toArray j i||oi.apart l.toArray oj)=true:=by
 simp[G7,aA]at h
 grind
section
variable{P:Program}{Q:Exit->Act->World->Prop}{S:World->Prop}
def DL(P:Program)(l:List Oper)(Q:Exit->Act->World->Prop)(S:World->Prop):Nat->List Nat->Act->World->Prop
 |0,_,a,w=>Q .normal a w
 |n+1,r,a,w=>match BD l r with
  |some i=>∃o v,l[i]?=some o/\YieldsIf P l.toArray S o v a/\DL P l Q S n (r.erase i) (a.put o.dst v) w
  |none=>∀i∈r,Y7 l r i=true->wpOp P l.toArray (λ_ _ _=>False) i (λa' w'=>S w'/\DL P l Q S n (r.erase i) a' w') a w
theorem Lq{l:List Oper}(hB:G7 l=true)(hQ:∀c a d v w,Q (.panic c) (fM a d v) w->Q (.panic c) a w):
  ∀(m:Nat) (r:List Nat) (listed:Array Bool) (a:Act) (w:World),r.length=m->r.Pairwise (·<·)->(∀i,i∈r↔i<l.length/\listed.getD i true=false)->listed.size=l.length ->
   (∀j oj,l.toArray[j]?=some oj->listed.getD j false=true->∀e∈oj.after,eG .any e=true->listed.getD e.on false=true)->S w->DL P l Q S m r a w->wpAnyH P .any l.toArray Q S m listed a w:=by
 have hB':=hB;simp only[G7,aA]at hB';obtain⟨⟨hns,hord⟩,_⟩:=hB';have hsel:=Region.noSelect_spec hns;intro m
 induction m with
 |zero =>
  intro r listed a w hm hs hr hsz hcl hS h;have:r=[]:=List.length_eq_zero_iff.1 hm;subst this;refine⟨?_,h⟩;rw[List.eq_nil_iff_forall_not_mem];intro i hi;obtain⟨h1,o,ho,_⟩:=mem_ready.1 hi
  grind
 |succ m ih =>
  intro r listed a w hm hs hr hsz hcl hS h;have hready:∀j,j∈bN .any l.toArray listed↔j∈r/\Y7 l r j=true:=by
   intro j;rw[mem_ready,hr j];constructor
   ·rintro⟨h1,o,ho,h2⟩;have hlt:j<l.length:=by grind
    refine⟨⟨hlt,h1⟩,?_⟩;unfold Y7
    grind
   rintro⟨⟨hlt,h1⟩,h2⟩;obtain⟨o,ho,hed⟩:=Xa hord hlt;refine⟨h1,o,ho,λe he hb=>?_⟩;unfold Y7 at h2;have ho':l[j]?=some o:=by simp_all
   rw[ho',Array.all_eq_true_iff_forall_mem]at h2
   grind
  have next:∀j,j∈bN .any l.toArray listed->∀a' w',S w'->DL P l Q S m (r.erase j) a' w'->wpAnyH P .any l.toArray Q S m (listed.setIfInBounds j true) a' w':=by
   intro j hj a' w' hS' h';have hjr:=((hready j).1 hj).1;have hjsz:j<listed.size:=by simp_all
   refine ih (r.erase j) _ a' w' (by grind) (hs.sublist List.erase_sublist) (λk=>?_) (by simpa using hsz) (λk ok hk hl e he hb=>?_) hS' h'
   ·rw[List.Nodup.mem_erase_iff (hs.imp λh=>Nat.ne_of_lt h),hr k];by_cases hjk:j=k
    ·subst hjk;simp
    rw[getD_set_ne true hjk];simp[Ne.symm hjk]
   by_cases hjk:j=k
   ·subst hjk;obtain⟨_,oj,hoj,hall⟩:=mem_ready.1 hj;have:ok=oj:=bI (hk.symm.trans hoj);subst this;exact getD_set_true (hall e he hb)
   rw[getD_set_ne false hjk]at hl;exact getD_set_true (hcl k ok hk hl e he hb)
  unfold DL at h;cases hp:BD l r with
  |some j =>
   rw[hp]at h;obtain⟨oj,v,hoj0,hy,h'⟩:=h;have hoj:l.toArray[j]?=some oj:=by simpa using hoj0
   have hjr:j∈r:=eC hp;have hqr:=fj hp;simp only[aA]at hqr;have hq:Jb oj.op=true:=by have:=hqr.1;unfold PI at this;rw[hoj0]at this;exact this
   have hj:j∈bN .any l.toArray listed:=(hready j).2 ⟨hjr,hqr.2⟩;have hjs:=mem_ready.1 hj;have happ:∀k ok,l.toArray[k]?=some ok->k≠j->listed.getD k true=false->(∀e∈ok.after,eG .any e=true->e.on≠j)->oj.apart l.toArray ok=true:=by
    intro k ok hok hkj hun hno;have hnw:aH .any l.toArray k j=false:=by
     cases hv:aH .any l.toArray k j with
     |false=>rfl
     |true =>
      obtain⟨o',ho',e,he,hb,hon⟩:=eM hv;have:o'=ok:=bI (ho'.symm.trans hok);subst this;exact absurd hon (hno e he hb)
    have hnw2:aH .any l.toArray j k=false:=by
     cases hv:aH .any l.toArray j k with
     |false=>rfl
     |true =>
      obtain⟨o',ho',e,he,hb,hon⟩:=eM hv;obtain⟨_,o2,ho2,hall⟩:=hjs;have:o'=o2:=bI (ho'.symm.trans ho2);subst this;have:=hall e he hb;rw[hon,getD_both hun]at this;cases this
    rcases Nat.lt_or_gt_of_ne hkj with hlt | hgt
    ·have:=Gq hB hlt (by simpa using hok) (by simpa using hoj) (by simp[hq]);rw[hnw2]at this;exact BR (by simpa using this)
    have:=Gq hB hgt (by simpa using hoj) (by simpa using hok) (by simp[hq]);rw[hnw]at this;simpa using this
   exact wpAnyH_first hoj hsel (λc a w h=>hQ c a _ v w h) m listed a w happ hj hy hS (next j hj _ w hS h')
  |none =>
   rw[hp]at h
   match r,hm,hs,hr,h,hready,next with
   |i::r,hm,hs,hr,h,hready,next =>
    have hil:=(hr i).1 wv;have hmin:∀j,j<i->listed.getD j false=true:=by
     intro j hj;cases hv:listed.getD j false with
     |true=>rfl
     |false =>
      have hjl:j<l.length:=O;have:=(hr j).2 ⟨hjl,getD_in O hv⟩;rcases List.mem_cons.1 this with e | e
      ·omega
      have:=(List.pairwise_cons.1 hs).1 j e;omega
    obtain⟨oi,hoi,hed⟩:=Xa hord hil.1;have hri:i∈bN .any l.toArray listed:=mem_ready.2 ⟨hil.2,oi,hoi,λe he hb=>hmin _ (hed e he hb)⟩;refine⟨λh0=>(by rw[h0]at hri;cases hri),λj hj=>?_⟩;have hj':=(hready j).1 hj;exact Mw (wpOp_mono (λa' w' h=>⟨h.1,next j hj a' w' h.1 h.2⟩) (h j hj'.1 hj'.2))
theorem Mc{l:List Oper}{Q':Exit->Act->World->Prop}(hB:G7 l=true)(hQ:∀c a w,¬Q' (.panic c) a w){a:Act}{w:World}(hS:S w)(h:DL P l Q' S l.length (eP 0 l.length) a w):
  wpAny P .any l.toArray Q' l.length (Array.replicate l.length false) a w:=by
 refine wpAny_of_held _ _ _ _ (Lq hB (λc a d v w h=>absurd h (hQ c _ w)) _ _ _ a w wv List.pairwise_lt_range' (λi=>?_) wv (λj oj _ hl=>(by grind[getD_replicate_false])) hS h);simp_all
theorem EU{id:Nat}{a:Act}{l:List Oper}(hm:P.follows .mixedOrders=true)(hB:G7 l=true)(hS:S { w with drawn:=w.drawn+1 })
  (h:DL P l (XW (Q .normal)) S l.length (eP 0 l.length) a { w with drawn:=w.drawn+1 }):(Code.region id l.toArray true).wp P Q a w:=by
 refine wp_region_any hm ?_;have:=Mc hB (λc a w h=>h) hS h;simpa using Kc (λe a w h=>by cases e<;>first | exact h | trivial) _ _ _ _ this
end
section
variable{P:Program}{Q:Exit->Act->World->Prop}{N:Nat}{m:Sl}{E E0:Env}{l:List Oper}{r r':List Nat}{w0:World}{F0:Gs}{bs:List (Nat×Obj)}{G:Gs->Prop}
def JT(P:Program)(l:List Oper)(Q:Exit->Act->World->Prop)(E0:Env)(r:List Nat)(N:Nat)(m:Sl)(E:Env):Prop:=(∀w,St E w->St E0 w)->∀a w,JY N m a->St E w->DL P l Q (St E0) r.length r a w
def Hj(P:Program)(l:List Oper)(Q:Exit->Act->World->Prop)(E0:Env)(r:List Nat):Act->World->Prop:=λa w=>DL P l Q (St E0) r.length r a w
theorem DW(h:JT P l Q E0 r N m E):JD P l.toArray (XW (Hj P l Q E0 r)) E0 [] N m E:=λhE a w ha hw=>h hE a w ha hw
theorem HQ(h:i∈r):r.length=(r.erase i).length+1:=by
 grind
theorem Am(i:Nat){o:Oper}(hp:BD l r=some i)(ho:l[i]?=some o)(he:r.erase i=r')(h:JD P l.toArray (XW (Hj P l Q E0 r')) E0 [o] N m E):JT P l Q E0 r N m E:=by
 intro hE a w ha hw;subst he;have hi:=eC hp;rw[HQ hi];unfold DL;rw[hp];have hq:Jb o.op=true:=by
  have:=fj hp;simp_all[aA,PI]
 rcases h hE a w ha hw with ⟨_,v,h1,h2⟩ | ⟨h1,_⟩
 ·exact⟨o,v,ho,h1,h2⟩
 simp_all
theorem TX{o:Oper}(ho:l[i]?=some o)(hq:Jb o.op=false)(h:JD P l.toArray (XW (Hj P l Q E0 r')) E0 [o] N m E)(hE:∀w,St E w->St E0 w){a:Act}{w:World}(ha:JY N m a)(hw:St E w):
  wpOp P l.toArray (λ_ _ _=>False) i (λa' w'=>St E0 w'/\Hj P l Q E0 r' a' w') a w:=by
 have ho':l.toArray[i]?=some o:=by simp_all
 unfold wpOp;simp[ho'];rcases h hE a w ha hw with ⟨h1,_⟩ | ⟨_,h2⟩
 ·simp_all
 split
 ·rename_i g;rw[if_pos g]at h2;exact .inl h2
 rename_i g;rw[if_neg g]at h2;exact h2
theorem QCs(hp:BD l r=none)(h:∀i∈r.filter (Y7 l r),∃o,l[i]?=some o/\Jb o.op=false/\JD P l.toArray (XW (Hj P l Q E0 (r.erase i))) E0 [o] N m E)(hr:r≠[]:=by decide):JT P l Q E0 r N m E:=by
 intro hE a w ha hw;obtain⟨x,s,rfl⟩:=List.exists_cons_of_ne_nil hr;show DL P l Q _ (s.length+1) _ a w;unfold DL;rw[hp];intro i hi hrd;obtain⟨o,ho,hq,hj⟩:=h i (List.mem_filter.2 ⟨hi,hrd⟩)
 grind[TX,wpOp_mono,Hj,HQ]
theorem IY(i:Nat){o:Oper}(hp:BD l r=none)(hl:r.filter (Y7 l r)=[i])(ho:l[i]?=some o)(hq:Jb o.op=false)(he:r.erase i=r')(h:JD P l.toArray (XW (Hj P l Q E0 r')) E0 [o] N m E)(hr:r≠[]:=by decide):JT P l Q E0 r N m E :=
 QCs hp (λk hk=>by simp_all) hr
theorem QCr(i j:Nat){o u:Oper}{r2:List Nat}(hp:BD l r=none)(hl:r.filter (Y7 l r)=[i,j])(ho:l[i]?=some o)(hu:l[j]?=some u)(hq:Jb o.op=false)(hq2:Jb u.op=false)(he:r.erase i=r')(he2:r.erase j=r2)
  (h:JD P l.toArray (XW (Hj P l Q E0 r')) E0 [o] N m E) (h2:JD P l.toArray (XW (Hj P l Q E0 r2)) E0 [u] N m E) (hr:r≠[]:=by decide):JT P l Q E0 r N m E :=
 QCs hp (λk hk=>by
  grind) hr
theorem QCn{id:Nat}{bs0:List _}(hb0:bs0.Sublist bs)(hm:P.follows .mixedOrders=true)(hB:G7 l=true)(hr:eP 0 l.length=r)(h:JT P l (XW (Q .normal)) ⟨w0,F0,bs0,G⟩ r N m ⟨w0,F0,bs,G⟩):J P (.region id l.toArray true) Q N m ⟨w0,F0,bs,G⟩:=λa w ha hw=>by
 subst hr;refine EU hm hB ((hw.imp hb0 λ_ h=>h).drew) ?_;have:=h (λ_ h=>h.imp hb0 λ_ h=>h) a _ ha hw.drew;simp_all
theorem Le(h:Fin Q .normal N m E):JT P l (XW (Q .normal)) E0 [] N m E:=λ_=>h
end
end
end
end Go.Proofs.YtphlgddkpboamaaGreatDoor
namespace Ig
def YX:List Int->List Int->Bool
 |x::a,y::b=>decide (y<x)||(decide (x=y)&&YX a b)
 |_::_,[]=>true
 |[],_=>false
def before(a b:List Int):Bool:=decide (b.sum<a.sum)||(decide (a.sum=b.sum)&&YX a b)
def Hn:∀a:List Int,YX a a=false
 |[]=>rfl
 |x::a=>by simp[YX,Hn a]
def Bv:∀ {a b c:List Int},YX a b=true->YX b c=true->YX a c=true
 |[],_,_,h,_=>by simp[YX]at h
 |_::_,[],_,_,h=>by simp[YX]at h
 |_::_,_::_,[],_,_=>rfl
 |x::a,y::b,z::c,h,k=>by
  simp only[YX,bB,aA,decide_eq_true_eq]at h k ⊢;rcases h with h | ⟨h,h'⟩<;>rcases k with k | ⟨k,k'⟩
  ·left;omega
  ·left;omega
  ·left;omega
  right;exact⟨O,Bv h' k'⟩
def NU:∀a b:List Int,a=b\/YX a b=true\/YX b a=true
 |[],[]=>.inl rfl
 |[],_::_=>.inr (.inr rfl)
 |_::_,[]=>.inr (.inl rfl)
 |x::a,y::b=>by
  simp only[YX,bB,aA,decide_eq_true_eq,List.cons.injEq];rcases fe x y with h | h | h
  ·right;right;left;omega
  ·rcases NU a b with k | k | k
   ·left;exact⟨h,k⟩
   ·right;left;right;exact⟨h,k⟩
   right;right;right;exact⟨h.symm,k⟩
  right;left;left;omega
theorem before_irrefl(a:List Int):before a a=false:=by simp[before,Hn]
def before_trans{a b c:List Int}(h:before a b=true)(k:before b c=true):before a c=true:=by
 simp only[before,bB,aA,decide_eq_true_eq]at h k ⊢;rcases h with h | ⟨h,h'⟩<;>rcases k with k | ⟨k,k'⟩
 ·left;omega
 ·left;omega
 ·left;omega
 right;exact⟨O,Bv h' k'⟩
def Ud(a b:List Int):a=b\/before a b=true\/before b a=true:=by
 simp only[before,bB,aA,decide_eq_true_eq];rcases fe a.sum b.sum with h | h | h
 ·right;right;left;exact h
 ·rcases NU a b with k | k | k
  ·left;exact k
  ·right;left;right;exact⟨h,k⟩
  right;right;right;exact⟨h.symm,k⟩
 right;left;left;exact h
abbrev Tm:=Rat×List Int
def Wt:List Tm->List Int->Rat
 |[],_=>0
 |t::p,k=>(if t.2=k then t.1 else 0)+Wt p k
structure Canon(p:List Tm):Prop where
 srt:p.Pairwise λx y=>before x.2 y.2=true
 nz:∀t∈p,t.1≠0
theorem Canon.nil:Canon []:=⟨fI,λ_ h=>by cases h⟩
def Canon.tail{t:Tm}{p:List Tm}(h:Canon (t::p)):Canon p:=⟨(List.pairwise_cons.1 h.srt).2,λx hx=>h.nz x (bH _ hx)⟩
def Xw:List Tm->Tm->List Tm
 |[],t=>if t.1=0 then[]else[t]
 |x::p,t=>if before x.2 t.2=true then x::Xw p t else if x.2=t.2 then(if x.1+t.1=0 then p else(x.1+t.1,t.2)::p)else if t.1=0 then x::p else t::x::p
def Ub(p:List Tm)(t:Tm)(k:List Int):Wt (Xw p t) k=Wt p k+(if t.2=k then t.1 else 0):=by
 induction p with
 |nil =>
  unfold Xw;split
  ·rename_i h;rw[h];simp[Wt,aX]
  simp[Wt,bO,aX]
 |cons x p ih =>
  unfold Xw;split
  ·simp only[Wt,ih,aT]
  split
  ·rename_i h;split
   ·rename_i h0;simp only[Wt];rw[h];by_cases hk:t.2=k
    ·simp only[hk,if_true];rw[aT,eN (Wt p k),<-aT,h0,bO]
    simp only[hk,if_false,bO,aX]
   simp only[Wt];rw[h];by_cases hk:t.2=k
   ·simp only[hk,if_true];rw[aT,aT,eN t.1]
   simp only[hk,if_false,bO,aX]
  split
  ·rename_i h0;rw[h0];simp[aX]
  simp only[Wt];rw[eN]
def NR{p:List Tm}{t x:Tm}(h:x∈Xw p t):x∈p\/x.2=t.2:=by
 induction p with
 |nil =>
  unfold Xw at h;split at h
  ·cases h
  simp at h;subst h;exact .inr rfl
 |cons y p ih =>
  unfold Xw at h;split at h
  ·rcases List.mem_cons.1 h with rfl | h
   ·exact .inl wv
   rcases ih h with h | h
   ·exact .inl (by simp[h])
   exact .inr h
  split at h
  ·split at h
   ·exact .inl (by simp[h])
   rcases List.mem_cons.1 h with rfl | h
   ·exact .inr rfl
   exact .inl (by simp[h])
  split at h
  ·exact .inl h
  rcases List.mem_cons.1 h with rfl | h
  ·exact .inr rfl
  exact .inl h
def Canon.Xw{p:List Tm}(h:Canon p)(t:Tm):Canon (Ig.Xw p t):=by
 induction p with
 |nil =>
  unfold Ig.Xw;split
  ·exact Canon.nil
  rename_i h0;exact⟨List.pairwise_singleton _ _,λx hx=>by simp at hx;subst hx;exact h0⟩
 |cons x p ih =>
  have hs:=List.pairwise_cons.1 h.srt;unfold Ig.Xw;split
  ·rename_i hb;have hc:=ih h.tail;refine⟨List.pairwise_cons.2 ⟨λy hy=>?_,hc.srt⟩,λy hy=>?_⟩
   ·rcases NR hy with hy | hy
    ·exact hs.1 y hy
    rw[hy];exact hb
   rcases List.mem_cons.1 hy with rfl | hy
   ·exact h.nz _ wv
   exact hc.nz y hy
  rename_i hb;split
  ·rename_i he;split
   ·exact h.tail
   rename_i h0;refine⟨List.pairwise_cons.2 ⟨λy hy=>?_,hs.2⟩,λy hy=>?_⟩
   ·have:=hs.1 y hy;rw[he]at this;exact this
   rcases List.mem_cons.1 hy with rfl | hy
   ·exact h0
   exact h.nz y (by simp[hy])
  rename_i he;split
  ·exact h
  rename_i h0;have hb':before t.2 x.2=true:=by
   rcases Ud x.2 t.2 with q | q | q
   ·exact absurd q he
   ·exact absurd q hb
   exact q
  refine⟨List.pairwise_cons.2 ⟨λy hy=>?_,h.srt⟩,λy hy=>?_⟩
  ·rcases List.mem_cons.1 hy with rfl | hy
   ·exact hb'
   exact before_trans hb' (hs.1 y hy)
  rcases List.mem_cons.1 hy with rfl | hy
  ·exact h0
  exact h.nz y hy
def XO(l:List Tm):List Tm:=l.foldl Xw []
def UM(l:List Tm):∀ {p:List Tm},Canon p->Canon (l.foldl Xw p)/\∀k,Wt (l.foldl Xw p) k=Wt p k+Wt l k:=by
 induction l with
 |nil=>intro p h;exact⟨h,λk=>by simp[Wt,aX]⟩
 |cons t l ih =>
  intro p h;obtain⟨h1,h2⟩:=ih (h.Xw t);exact⟨h1,λk=>by rw[ee,h2,Ub,Wt,aT]⟩
def Zn(l:List Tm):Canon (XO l):=(UM l Canon.nil).1
def Eqv(p q:List Tm):Prop:=∀k,Wt p k=Wt q k
def Yg(a b:List Int):List Int:=List.zipWith (·+·) a b
theorem Vq{a b:List Int}(h:a.length=b.length):(Yg a b).length=a.length:=by simp[Yg,h]
def ZU(s:Tm)(q:List Tm):List Tm:=q.map λt=>(s.1*t.1,Yg s.2 t.2)
def Xo(p q:List Tm):List Tm:=p.flatMap λs=>ZU s q
def TP(n:Nat)(p:List Tm):Prop:=∀t∈p,t.2.length=n
def TP.ZU{n:Nat}{s:Tm}{q:List Tm}(hs:s.2.length=n)(h:TP n q):TP n (Ig.ZU s q):=λt ht=>by
 obtain⟨u,hu,rfl⟩:=List.mem_map.1 ht;show(Yg s.2 u.2).length=n;rw[Vq (by rw[hs,h u hu]),hs]
def TP.Xo{n:Nat}{p q:List Tm}(h:TP n p)(k:TP n q):TP n (Ig.Xo p q):=λt ht=>by
 obtain⟨s,hs,ht⟩:=List.mem_flatMap.1 ht;exact k.ZU (h s hs) t ht
def Tu(s:Tm)(p q:List Tm):Xo (s::p) q=ZU s q++Xo p q:=by simp[Xo]
def TR(s:Tm)(p q:List Tm):ZU s (p++q)=ZU s p++ZU s q:=by simp[ZU]
def PM(p p' q:List Tm):Xo (p++p') q=Xo p q++Xo p' q:=by simp[Xo]
end Ig
namespace Go.Proofs.YtphlgddkpboamaaGreatDoor
variable{T kt yT:TypeId}{x:Rat}{y:Operand}{a b:List Int}{F F':Gs}{z zx:Int}{w:World}{s:List UInt8}{P:Program}{N i k:Nat}{m:Sl}{q:Option Addr}{assign body c:Code}{vs:List Value}{R:Ending->World->Prop}
open Go.RowKit Ig
section
variable[Dr]
def PW(l:List Int):Prop:=(∀x∈l,0<=x/\x<=1000000)/\l.length<=1000
theorem PW.el{l:List Int}(h:PW l){i:Nat}(hi:i<l.length):0<=Qb l i/\Qb l i<=1000000:=by rw[WO hi];exact h.1 _ (Q2 hi)
theorem RW{l:List Int}(hi:i<l.length):(l.take (i+1)).sum=(l.take i).sum+Qb l i:=by
 rw[ZB hi,List.sum_append,WO hi];simp
theorem PW.sum{l:List Int}(h:PW l):∀i,i<=l.length->0<=(l.take i).sum/\(l.take i).sum<=i*1000000:=by
 intro i
 induction i with
 |zero=>intro _;simp
 |succ i ih =>
  intro hi;have h1:=ih O;have h2:=h.el (i:=i) O;rw[RW O];omega
end
def Zt{κ:Type}(K:κ->Value):List (κ×Value)->Nat->List MapEntry
 |[],_=>[]
 |x::l,i=>⟨K x.1,x.2,i⟩::Zt K l (i+1)
def Wd{κ:Type}(K:κ->Value)(l:List (κ×Value)):Obj:=.map (Zt K l 0).toArray l.length
def Y4{κ:Type}[DecidableEq κ]:List (κ×Value)->κ->Nat->Option (Nat×Value)
 |[],_,_=>none
 |x::l,k,i=>if k=x.1 then some (i,x.2)else Y4 l k (i+1)
def Bs{κ:Type}[DecidableEq κ]:List (κ×Value)->κ->Value->List (κ×Value)
 |[],k,v=>[(k,v)]
 |x::l,k,v=>if k=x.1 then(k,v)::l else x::Bs l k v
structure TQ(P:Program)(kt:TypeId){κ:Type}[DecidableEq κ](K:κ->Value):Prop where
 chk:∀e w k,(Instr.checkKey e 10000 kt (K k)).run P w = .ok () w
 find:∀w k (l:List (κ×Value)),(Instr.findKey kt (K k) (Zt K l 0)).run P w = .ok (Y4 l k 0) w
 same:∀k,Instr.sameBits 10000 (K k) (K k)=true
section
variable{κ:Type}{K:κ->Value}
theorem ME:∀(l:List (κ×Value)) i k v,Zt K (l++[(k,v)]) i=Zt K l i++[⟨K k,v,i+l.length⟩]
 |[],i,k,v=>by simp[Zt]
 |x::l,i,k,v=>by
  simp only[bj,Zt,ME l,au];rw[show i+1+l.length=i+(l.length+1)from by omega]
def Nf:∀(l:List (κ×Value)) (i j:Nat),(Zt K l i)[j]?=l[j]?.map λx=>(⟨K x.1,x.2,i+j⟩:MapEntry)
 |[],_,_=>by simp[Zt]
 |x::l,i,0=>by simp[Zt]
 |x::l,i,j+1=>by
  simp only[Zt,eH,Nf l];rw[show i+1+j=i+(j+1)from by omega]
theorem Nd:∀(l:List (κ×Value)) i j k v,Zt K (l.set j (k,v)) i=(Zt K l i).modify j λe=>{ e with key:=K k,val:=v }
 |[],_,_,_,_=>by simp[Zt]
 |x::l,i,0,k,v=>by simp[Zt]
 |x::l,i,j+1,k,v=>by simp[Zt,Nd l]
variable[DecidableEq κ]
theorem Gy:∀ {l:List (κ×Value)} {k i j v},Y4 l k i=some (j,v)->i<=j/\j-i<l.length/\l[j-i]?=some (k,v)
 |[],_,_,_,_,h=>by cases h
 |x::l,k,i,j,v,h=>by
  simp only[Y4]at h;split at h
  ·rename_i e;cases h;subst e;simp
  obtain⟨h1,h2,h3⟩:=Gy h;refine⟨O,by simp only[au];omega,?_⟩;rw[show j-i=(j-(i+1))+1 from by omega,eH];exact h3
theorem NK:∀ {l:List (κ×Value)} {k v i},Y4 l k i=none->Bs l k v=l++[(k,v)]
 |[],_,_,_,_=>rfl
 |x::l,k,v,i,h=>by
  simp only[Y4]at h;split at h
  ·cases h
  rename_i e;simp only[Bs,if_neg e,bj,NK h]
theorem NJ:∀ {l:List (κ×Value)} {k v i j u},Y4 l k i=some (j,u)->Bs l k v=l.set (j-i) (k,v)
 |[],_,_,_,_,_,h=>by cases h
 |x::l,k,v,i,j,u,h=>by
  simp only[Y4]at h;split at h
  ·rename_i e;cases h;simp[Bs,e]
  rename_i e;have:=(Gy h).1;simp only[Bs,if_neg e,NJ h];rw[show j-i=(j-(i+1))+1 from by omega];rfl
end
def Tg(a b:List UInt8):Instr.sameNow .string (tx a) (tx b)=some (decide (a=b)):=by
 show some ((⟨a.toArray⟩:ByteArray)==⟨b.toArray⟩)=_;congr 1;rw[aD,decide_eq_true_iff,eQ];constructor
 ·intro h;cases h;rfl
 intro h;rw[h]
theorem MC(k:List UInt8):∀(l:List (List UInt8×Value)) (i n:Nat),fq .string (tx k) (Zt tx l n) i=some (Y4 l k i)
 |[],_,_=>rfl
 |x::l,i,n=>by
  simp only[Zt,fq,Tg,Y4];by_cases h:k=x.1
  ·simp[h]
  simp[h,MC k l]
theorem TQ.str(h:P.underlying kt=some .string):TQ P kt tx where
 chk:=λe w k=>MapKept.run_checkKey (k:=tx k) h (by simp[MapKept.IsKey,tx]) e 9999
 find:=λw k l=>MapKept.run_findKey h (MC k l 0 0)
 same:=λk=>by
  show(fb k.toArray==fb k.toArray)=true;rw[eQ]
def zvB(P:Program)(T:TypeId):Option Value:=match P.info? T with
 |some i=>i.zero
 |none=>none
theorem Iw{z:Value}(h:zvB P T=some z)(w:World):(zeroValue T).run P w = .ok z w:=by
 unfold zvB at h;split at h
 ·rename_i i hi;simp[zeroValue,typeInfo,hi,h]
 cases h
def T9(P:Program)(T kt et:TypeId):Bool:=match P.underlying T with | some (.map k e)=>Nat.beq k kt&&Nat.beq e et | _=>false
def SC{et:TypeId}(h:T9 P T kt et=true):P.underlying T=some (.map kt et):=by
 unfold T9 at h;split at h
 ·rename_i e;simp only[aA]at h;have h1:=eO h.1;have h2:=eO h.2;rw[e,h1,h2]
 cases h
section
variable[Dr][df:Df]{P:Program}{Q:Exit->Act->World->Prop}{N:Nat}{m:Sl}{E E0:Env}{ops:Array Oper}{l:List Oper}{w0:World}{F0:Gs}{bs:List (Nat×Obj)}{G:Gs->Prop}{d:Nat}{ty:TypeId}{pos:String}{aft:Array Edge}
theorem Cp{κ:Type}(K:κ->Value){T:TypeId}(k:∀b,JS P ops Q l N ((d,.map (some b))::m) ⟨w0,F0,(b,Wd K [])::bs,G⟩)(hd:J1 N (some d)=true:=by rfl):
  JS P ops Q (⟨some d,.makeMap T none,ty,pos,aft,none⟩::l) N m ⟨w0,F0,bs,G⟩:=λa w ha hw=>by
 have hrun:(execOp a.eval ⟨some d,.makeMap T none,ty,pos,aft,none⟩).run P w = .ok (.value (.map (some w.heap.size))) (w.alloc (.map #[] 0)):=by
  simp[execOp,Instr.makeMap]
 exact wpList_plain rfl λKk hK=>upon_value hrun (hK _ _ (k _ _ _ (ha.put hd _) (hw.alloc _ λc fr e=>by cases e)))
variable{κ:Type}[DecidableEq κ]{K:κ->Value}{kv:List (κ×Value)}{b:Nat}{f:Obj->List (Nat×Obj)}
theorem yN{et:TypeId}{x:Operand}{k:κ}{v:Value}(hq:TQ P kt K)(hx:ev m x=some (.map (some b)))(hy:ev m y=some (K k))(ht:T9 P T kt et=true)(ho:Own bs b (Wd K kv) f)(hf:Y4 kv k 0=some (i,v)):
  Qt P N m (St ⟨w0,F0,bs,G⟩) (.lookup T x y true) ty (.tuple #[v,.bool true]):=λa w _ _ _ _ ha hw=>by
 have hb:=hw.own ho;unfold Wd at hb;have hu:=SC ht;simp[execOp,ha.ev hx,ha.ev hy,fz,run_underlying hu,aQ hb,hq.chk,hq.find,hf]
theorem qN{et:TypeId}{x:Operand}{k:κ}{z:Value}(hq:TQ P kt K)(hx:ev m x=some (.map (some b)))(hy:ev m y=some (K k))(ht:T9 P T kt et=true)(hz:zvB P et=some z)(ho:Own bs b (Wd K kv) f)(hf:Y4 kv k 0=none):
  Qt P N m (St ⟨w0,F0,bs,G⟩) (.lookup T x y true) ty (.tuple #[z,.bool false]):=λa w _ _ _ _ ha hw=>by
 have hb:=hw.own ho;unfold Wd at hb;have hu:=SC ht;simp[execOp,ha.ev hx,ha.ev hy,fz,run_underlying hu,aQ hb,hq.chk,hq.find,hf,Iw hz]
theorem qx{et:TypeId}{x z:Operand}{k:κ}{v:Value}(hq:TQ P kt K)(hx:ev m x=some (.map (some b)))(hy:ev m y=some (K k))(hz:ev m z=some v)(ht:T9 P T kt et=true)(ho:Own bs b (Wd K kv) f)
  (kk:JS P ops Q l N m ⟨w0,F0,f (Wd K (Bs kv k v)),G⟩):JS P ops Q (⟨none,.mapUpdate T x y z,ty,pos,aft,none⟩::l) N m ⟨w0,F0,bs,G⟩:=λa w ha hw=>by
 have hb:=hw.own ho;obtain⟨pre,post,e1,e2⟩:=ho.split;subst e1;rw[e2]at kk;have hu:=SC ht;have hb':=hb;unfold Wd at hb';have hrun:(execOp a.eval ⟨none,.mapUpdate T x y z,ty,pos,aft,none⟩).run P w = .ok .skip { w with heap:=w.heap.setIfInBounds b (Wd K (Bs kv k v)) }:=by
  cases hf:Y4 kv k 0 with
  |none =>
   have e:Wd K (Bs kv k v) = .map ((Zt K kv 0).toArray.push ⟨K k,v,kv.length⟩) (kv.length+1):=by
    rw[NK hf];simp[Wd,ME]
   rw[e];simp[execOp,ha.ev hx,ha.ev hy,ha.ev hz,fg,run_underlying hu,aQ hb',hq.chk,hq.find,hf,eD _ hb']
  |some r =>
   obtain⟨i,u⟩:=r;obtain⟨_,h2,h3⟩:=Gy hf;rw[bP]at h2 h3;have e:Wd K (Bs kv k v) = .map ((Zt K kv 0).toArray.modify i λe=>{ e with key:=K k,val:=v }) kv.length:=by
    rw[NJ hf];unfold Wd;rw[bP,Nd,List.length_set];congr 1;apply eV;simp
   have hk:((((Zt K kv 0).toArray[i]?).map (·.key)).getD (K k))=K k:=by
    simp[Nf,h3]
   rw[e];simp only[execOp,ha.ev hx,ha.ev hy,ha.ev hz,fg,bW,run_underlying hu,aQ hb',hq.chk,hq.find,hf,aZ,hk,Instr.keyThatStays,hq.same,if_true,bV,eD _ hb']
 exact wpList_plain rfl λKk hK=>upon_skip hrun (hK _ _ (kk _ _ ha (hw.write pre ⟨rfl,rfl,rfl,rfl,rfl⟩ λc fr e=>by cases e)))
end
end Go.Proofs.YtphlgddkpboamaaGreatDoor
namespace Ig
structure Tab(T l:List Tm):Prop where
 nd:(T.map (·.2)).Nodup
 eq:Eqv T l
end Ig
namespace Go.Proofs.YtphlgddkpboamaaGreatDoor
variable{T kt yT:TypeId}{x:Rat}{y:Operand}{a b:List Int}{F F':Gs}{z zx:Int}{w:World}{s:List UInt8}{P:Program}{N i k:Nat}{m:Sl}{q:Option Addr}{assign body c:Code}{vs:List Value}{R:Ending->World->Prop}
open Go.RowKit Ig
structure NTm where
 x:Fr
 r:Sr
 t:Tm
def tms(ts:List NTm):List Tm:=ts.map (·.t)
structure QHg(ts:List NTm)(l:List Tm):Prop where
 tab:Tab (tms ts) l
 pw:∀t∈ts,PW t.t.2
 ln:ts.length<=l.length
theorem UG:TQ prog 9 tx:=.str wj
theorem NM:∀(n:Nat) (l:List Nat),l.Nodup->(∀j∈l,j<n)->l.length<=n
 |0,l,_,h=>by
  cases l with
  |nil=>exact bg _
  |cons x l=>exact absurd (h x bL) (Nat.not_lt_zero _)
 |n+1,l,hn,h=>by
  have h1:=NM n (l.erase n) (hn.erase n) λj hj=>by
   have h2:=(hn.mem_erase_iff).1 hj;have h3:=h j h2.2;have h4:=h2.1;omega
  rw[List.length_erase]at h1;split at h1<;>omega
theorem AL{α:Type}[Inhabited α](l:List α):(ey l.length).map (el l)=l:=by
 apply List.ext_getElem?;intro i;by_cases h:i<l.length
 ·rw[List.getElem?_map,List.getElem?_range h,List.getElem?_eq_getElem h];simp[ZH h]
 rw[bD wy,bD O]
section
variable[Dr][df:Df]{P:Program}{N:Nat}{m:Sl}{w0:World}{F0:Gs}{bs:List (Nat×Obj)}{G:Gs->Prop}
theorem Src.QF2{sz c:Nat}{a:Addr}{news:List Value}(hr:∀F,G F->JC F (some a) k sz news)(hl:news.length=k*sz):Src ⟨w0,F0,bs,G⟩ sz (.slice (some a) k c) k news:=by
 refine⟨hl,.inr ⟨a,c,rfl,λw hw j v hv=>?_⟩⟩;have hk:0<k:=by
  rcases ax k with h | h
  ·rw[h,fF]at hl;rw[List.length_eq_zero_iff.1 hl]at hv;simp at hv
  exact h
 obtain⟨F,h⟩:=id hw;obtain⟨b,off,_,_,e,_,_⟩:=(hr F h.hG).2 hk;cases e;rw[WS];exact Yl hw hr hk hv
theorem Src.Cz{sz c:Nat}{news:List Value}(h0:q=none->k=0)(hr:∀F,G F->JC F q k sz news)(hl:news.length=k*sz):Src ⟨w0,F0,bs,G⟩ sz (.slice q k c) k news:=by
 cases q with
 |some a=>exact .QF2 hr hl
 |none =>
  have h:=h0 rfl;subst h;rw[fF,bh]at hl;subst hl;exact .nil
theorem JC.AF{n sz:Nat}{cs:List Value}(h:JC F q n sz cs)(e:q=none):n=0:=by
 rcases ax n with g | g
 ·exact g
 obtain⟨_,_,_,_,e2,_⟩:=h.2 g;rw[e]at e2;cases e2
theorem LA(l:List Int):∀v∈l.map Qs,v.oneCell'=true:=by
 intro v hv;obtain⟨x,_,rfl⟩:=List.mem_map.1 hv;rfl
end
structure GS where
 f:List UInt8
 r:Sr
 k:List Int
instance :Inhabited GS:=⟨⟨[],⟨none,0,0⟩,[]⟩⟩
def We(t:GS):List Value:=[tx t.f,.slice t.r.q t.r.n t.r.cap]
def K3(t:GS):(We t).length=2:=rfl
def WK(F:Gs)(ts:List GS):Prop:=∀t∈ts,JJ F t.r t.k
def WK.le{ts:List GS}(h:WK F ts)(k:Gs.le F F'):WK F' ts:=λt ht=>(h t ht).le k
instance{ts:List GS}: Up (λF=>WK F ts):=⟨λk h=>WK.le h k⟩
structure BY(l0:List Tm)(te:List NTm) where
 j:Nat
 ts:List NTm
 le:j<=te.length
 hI:QHg ts (l0++tms (te.take j))
section
variable{P:Program}{Q:Exit->Act->World->Prop}{N:Nat}{m:Sl}{E0:Env}{ops:Array Oper}{l:List Oper}{w0:World}{F0:Gs}{bs:List (Nat×Obj)}{G:Gs->Prop}
theorem Ap[Dr]{bs':List (Nat×Obj)}(hp:bs.Perm bs')(k:JD P ops Q E0 l N m ⟨w0,F0,bs',G⟩):JD P ops Q E0 l N m ⟨w0,F0,bs,G⟩:=λhE a w ha hw=>k (λw h=>hE w (h.perm hp.symm)) a w ha (hw.perm hp)
end
abbrev Pt:=List (List UInt8×List Int)
def Ns(ts:List GS):Pt:=ts.map λt=>(t.f,t.k)
def Xj(l:List Tm):Pt:=l.map λt=>(Q8 t.1,t.2)
def Vl(F:Gs)(s:Sr)(ts:List GS)(p:Pt):Prop:=JC F s.q s.n 2 (ts.flatMap We)/\WK F ts/\Ns ts=p/\s.n<=s.cap/\ts.length=s.n
def Vl.le{s:Sr}{ts:List GS}{p:Pt}(h:Vl F s ts p)(k:Gs.le F F'):Vl F' s ts p:=⟨h.1.le k,h.2.1.le k,h.2.2⟩
abbrev VW:=Sr×List GS
def TJ(t:GS):∀v∈We t,v.oneCell'=true:=by
 intro v hv;unfold We at hv;simp only[List.mem_cons,List.not_mem_nil,or_false]at hv;rcases hv with rfl | rfl<;>rfl
def Q6.pos{sz n:Nat}{v:Value}{cs:List Value}{ob:List (Nat×Obj)}(h:Q6 T sz v n cs ob)(hn:0<n):∃b cap rest,v = .slice (Option.some ⟨b,0,Option.none⟩) n cap/\ob=[(b,.cells (cs++rest).toArray T (0,0))]/\cs.length=n*sz/\cs.length+rest.length=cap*sz/\n<=cap/\cap<=maxLen:=by
 cases h with
 |nil=>omega
 |some h1 h2 h3 h4=>exact⟨_,_,_,rfl,rfl,h1,h2,h3,h4⟩
structure PmK(n:Nat)(a b:List Int) where
 k:Nat
 L:List Int
 v:Value
 ob:List (Nat×Obj)
 le:k<=b.length
 hr:Q6 3 1 v n (L.map Qs) ob
 hL:L=Yg (a.take k) (b.take k)++a.drop k
def ql(h1:k<a.length)(h2:k<b.length):(Yg (a.take k) (b.take k)++a.drop k).set k (Qb a k+Qb b k)=Yg (a.take (k+1)) (b.take (k+1))++a.drop (k+1):=by
 have hl:(Yg (a.take k) (b.take k)).length=k:=by unfold Yg;rw[eU,ah,ah];omega
 have hs:Yg (a.take (k+1)) (b.take (k+1))=Yg (a.take k) (b.take k)++[Qb a k+Qb b k]:=by
  rw[ZB h1,ZB h2,WO h1,WO h2];unfold Yg;rw[List.zipWith_append (by rw[ah,ah];omega)];rfl
 rw[hs,Gj h1,List.set_append_right _ _ O,hl,fG];simp
def Cg(h1:k<a.length)(h2:k<b.length):Qb (Yg (a.take k) (b.take k)++a.drop k) k=Qb a k:=by
 have hl:(Yg (a.take k) (b.take k)).length=k:=by unfold Yg;rw[eU,ah,ah];omega
 have h3:k<(Yg (a.take k) (b.take k)++a.drop k).length:=by rw[aj,hl,ay];omega
 rw[WO h3,WO h1,ZH h3,ZH h1,List.getElem_append_right O];simp[hl]
theorem qR(p q:List Tm):(Xo p q).length=p.length*q.length:=by
 induction p with
 |nil=>simp[Xo]
 |cons s p ih=>rw[Tu,aj,ih,au,fP];simp[ZU];omega
def CL{n:Nat}(h:i<n):el (ey n) i=i:=by rw[ZH (by simpa using h)];simp
instance :Inhabited VW:=⟨(⟨none,0,0⟩,[])⟩
section
variable[Dr][df:Df]{P:Program}{N:Nat}{m:Sl}{S:World->Prop}{ty:TypeId}
theorem Et{g:FuncId}{cap:Array Operand}(hv:HM m cap.toList=some vs):Qt P N m S (.makeFunc (.func g) #[] cap) ty (.func (.func g) #[] vs.toArray):=λa w _ _ _ _ ha _=>by
 have:=ha.HM hv;have e:cap.map a.eval=vs.toArray:=by rw[<-this];apply eV;simp
 simp[execOp,Instr.makeFunc,e]
end
def QDS(p:Pt):List Tm:=p.map λx=>(J4 x.1,x.2)
theorem NV:∀(p:List Tm) (t:Tm),(Xw p t).length<=p.length+1
 |[],t=>by
  unfold Xw;split<;>simp
 |x::p,t=>by
  have:=NV p t;unfold Xw
  repeat' split
  all_goals simp only[au]
  all_goals omega
def SG:∀(l p:List Tm),(l.foldl Xw p).length<=p.length+l.length
 |[],p=>wv
 |t::l,p=>by
  have h1:=SG l (Xw p t);have h2:=NV p t;simp only[ee,au];omega
def Fm(l:List Tm):(XO l).length<=l.length:=by have:=SG l [];simpa[XO]using this
def R9:∀(l p:List Tm) (x:Tm),x∈l.foldl Xw p->(∃y∈p,y.2=x.2)\/∃y∈l,y.2=x.2
 |[],p,x,h=>.inl ⟨x,h,rfl⟩
 |t::l,p,x,h=>by
  rw[ee]at h;rcases R9 l _ x h with ⟨y,hy,e⟩ | ⟨y,hy,e⟩
  ·rcases NR hy with h2 | h2
   ·exact .inl ⟨y,h2,e⟩
   exact .inr ⟨t,wv,by rw[<-h2];exact e⟩
  exact .inr ⟨y,by simp[hy],e⟩
def EO{l:List Tm}{x:Tm}(h:x∈XO l):∃y∈l,y.2=x.2:=by
 rcases R9 l [] x h with ⟨y,hy,_⟩ | h
 ·cases hy
 exact h
def Il(v:Nat)(t:Tm):List Tm:=if 0<Qb t.2 v then[(t.1*((Qb t.2 v:Int):Rat),t.2.set v (Qb t.2 v-1))]else[]
def Gc(v:Nat)(l:List Tm):List Tm:=l.flatMap (Il v)
theorem jF{x:Int}(h:0<=x/\x<=1000000):sz x<=64:=bS (Vc (b:=1000000) O) wk
def jT{a z v r:List Value}(h:z.length=v.length):Yz (a++(z++r)) a.length v (a++(v++r)):=by
 have:=Yz.mk' a.length (a++(z++r)) v (by simp only[aj];omega);rw[List.take_left,bY,aB O,bA,Nat.add_sub_cancel_left,bY,aB O,bA,<-h,fG,eB,List.append_assoc]at this;exact this
def kZ(F:Gs)(xs:List (Fr×Rat)):Prop:=∀p∈xs,XV F p.1 p.2
def MP(xs:List (Fr×Rat)):List Value:=xs.flatMap λp=>Cv p.1
theorem AX(xs:List (Fr×Rat)):(MP xs).length=xs.length*4:=by
 unfold MP
 induction xs with
 |nil=>rfl
 |cons x xs ih=>rw[List.flatMap_cons,aj,ih,au,fP];simp[Cv];omega
instance :Inhabited Fr:=⟨⟨⟨0,none,0,0⟩,⟨1,none,0,0⟩⟩⟩
instance :Inhabited (Fr×Rat):=⟨(default,0)⟩
structure dW(a b:List Int) where
 i:Nat
 le:i<=a.length
 h:a.take i=b.take i
structure dz(a b:List Int) where
 i:Nat
 le:i<=a.length
 h:YX a b=YX (a.drop i) (b.drop i)
def dW.next(s:dW a b)(h1:s.i<a.length)(h2:s.i<b.length)(e:Qb a s.i=Qb b s.i):a.take (s.i+1)=b.take (s.i+1):=by
 rw[ZB h1,ZB h2,s.h,<-WO h1,<-WO h2,e]
def dz.step(s:dz a b)(h1:s.i<a.length)(h2:s.i<b.length):YX a b=(decide (Qb b s.i<Qb a s.i)||(decide (Qb a s.i=Qb b s.i)&&YX (a.drop (s.i+1)) (b.drop (s.i+1)))):=by
 rw[s.h,XL h1,XL h2];rfl
theorem IP{q2:Option Addr}{n c n2 c2:Nat}(hF:Fits F w)(hA:JJ F ⟨q,n,c⟩ a)(hB:JJ F ⟨q2,n2,c2⟩ b)(la:a.length<=1000000):Qi prog 28 [.slice q n c,.slice q2 n2 c2] w F (.bool (decide (a=b))):=by
 have na:=hA.2.1;have nb:=hB.2.1;dsimp only at na nb;refine QS.go (G:=λF=>JJ F ⟨q,n,c⟩ a/\JJ F ⟨q2,n2,c2⟩ b) func28 hF ⟨hA,hB⟩ ?_;refine wA 9 I<|QA (Qc I Qd)<|QJm I<|QA (Qc I Qd)<|QMW 3 I ?_
 refine QO I (λhc=>?_) λhc=>?_
 ·have hne:=bne_iff_ne.1 hc;refine wA 6 I ?_;exact QMn I I (congrArg af (decide_eq_false λe=>hne (by rw[<-na,<-nb,e]))) wz
 have hne:=bne_eq_false_iff_eq.1 hc;refine QMX 9 I<|Jt (ι:=dW a b) [(0,_),(1,_)] (λi=>[(5,.int .i64 ((i.i:Nat):Int))]) (λi=>a.length-i.i) (⟨0,ba _,rfl⟩) wU wT λi=>?_
 have hi:=i.le;refine wA 5 I<|QA (Qc I Qd)<|QMW 3 I ?_
 refine QO I (λhc=>?_) λhc=>?_
 ·have hlt:i.i<a.length:=wi<|QLr hc
  refine QMX 5 I<|JE QKK mixed wj<|QJ (QC I)<|QJ (QC I)<|QJ (Qo (n:=n) i.i (λF h9=>(h9.1).1) rfl rfl Qd QY O)<|QJ (Ql (n:=n) ((i.i)*1) (λF h9=>(h9.1).1) O rfl QY (JP (o:=a) O))<|QJ (QC I)<|QJ (QC I)<|QJ (Qo (n:=n2) i.i (λF h9=>(h9.2).1) rfl rfl Qd QY O)<|QJ (Ql (n:=n2) ((i.i)*1) (λF h9=>(h9.2).1) O rfl QY (JP (o:=b) O))<|QJ (QP I I I)<|Qy<|QD ?_
  refine QO I (λhc=>?_) λhc=>?_
  ·have he:=bne_iff_ne.1 hc;refine wA 5 I<|ZS ?_
   exact QMn I I (congrArg af (decide_eq_false λe=>he (congrArg (λz=>Qb z i.i) e))) wz
  have he:=bne_eq_false_iff_eq.1 hc;refine QN<|Qg<|QMY 3 I<|QA (Qn I I O)<|wB 2 I ?_
  exact Qj (⟨i.i+1,hlt,i.next hlt O he⟩) (by show a.length-(i.i+1)<a.length-i.i;omega) wV QKK w7
 have hge:i.i=a.length:=wi<|QLs hc
 refine JK ?_;refine wA 6 I ?_;exact QMn I I (congrArg af (decide_eq_true (by have h:=i.h;rw[hge,aS,bw O]at h;exact h))) wz
theorem WM{r:Sr}{l:List Int}(hF:Fits F w)(hR:JJ F r l)(hp:PW l):Qi prog 268 [r.v] w F (.int .i64 l.sum):=by
 obtain⟨q,n,c⟩:=r;have hln:=hR.2.1;dsimp only[Sr.v]at hln ⊢;have hl1:=hp.2;refine QS.go (G:=λF=>JJ F ⟨q,n,c⟩ l) func268 hF hR ?_;refine wA 17 I<|Jt (ι:={i:Nat // i<=l.length}) [(0,_)] (λi=>[(3,.int .i64 ((l.take i.1).sum)),(4,.int .i64 ((i.1:Nat):Int))]) (λi=>l.length-i.1) (⟨0,ba _⟩) wT wU λi=>?_
 have hi:=i.2;have hs:=hp.sum i.1 hi;refine wA 5 I<|QA (Qc I Qd)<|QMW 3 I ?_
 refine QO I (λhc=>?_) λhc=>?_
 ·have hlt:i.1<l.length:=wi<|QLr hc
  have he:=hp.el hlt;refine QMX 8 I<|QA (Qo (n:=n) (i.1) (λF hR=>(hR).1) rfl rfl Qd QY O)<|QA (Ql (n:=n) ((i.1)*1) (λF hR=>(hR).1) O rfl QY (JP (o:=l) O))<|QA (Qn I I O)<|wB 2 I<|Qg<|QMY 3 I<|QA (Qn I I O)<|wB 2 I ?_
  exact Qj (⟨i.1+1,hlt⟩) (by show l.length-(i.1+1)<l.length-i.1;omega) ⟨rfl,(congrArg (λz:Int=>some (ar .i64 z)) (RW hlt).symm),rfl,trivial⟩ QKK w7
 have hge:i.1=l.length:=wi<|QLs hc
 refine JK ?_;refine wA 7 I ?_;exact QMn I I (congrArg (ar .i64) (by rw[bw O])) wz
theorem qM{q2:Option Addr}{n c n2 c2:Nat}(hF:Fits F w)(hA:JJ F ⟨q,n,c⟩ a)(hB:JJ F ⟨q2,n2,c2⟩ b)(pa:PW a)(pb:PW b)(hl:a.length=b.length):Qi prog 341 [.slice q n c,.slice q2 n2 c2] w F (.bool (before a b)):=by
 have na:=hA.2.1;have nb:=hB.2.1;dsimp only at na nb;have la:=pa.2;refine QS.go (G:=λF=>JJ F ⟨q,n,c⟩ a/\JJ F ⟨q2,n2,c2⟩ b) func341 hF ⟨hA,hB⟩ ?_;refine wA 9 I<|QL I (λ_ _ f k=>WM f (r:=⟨q,n,c⟩) k.1 (pa)) λ_=>QJm I<|QL I (λ_ _ f k=>WM f (r:=⟨q2,n2,c2⟩) k.1.2 (pb)) λ_=>QMW 3 I ?_
 refine QO I (λhc=>?_) λhc=>?_
 ·have hne:=bne_iff_ne.1 hc;refine wS I<|QL I (λ_ _ f k=>WM f (r:=⟨q,n,c⟩) k.1.1.1 (pa)) λ_=>QJm I<|QL I (λ_ _ f k=>WM f (r:=⟨q2,n2,c2⟩) k.1.1.1.2 (pb)) λ_=>QMW 5 I ?_
  exact QMn I I (congrArg af (by unfold before;rw[decide_eq_false hne,fu,Bool.or_false])) wz
 have hne:=bne_eq_false_iff_eq.1 hc;refine QMX 9 I<|Jt (ι:=dz a b) [(0,_),(1,_)] (λi=>[(5,.int .i64 ((i.i:Nat):Int))]) (λi=>a.length-i.i) (⟨0,ba _,rfl⟩) wU wT λi=>?_
 have hi:=i.le;refine wA 5 I<|QA (Qc I Qd)<|QMW 3 I ?_
 refine QO I (λhc=>?_) λhc=>?_
 ·have hlt:i.i<a.length:=wi<|QLr hc
  refine QMX 5 I<|JE QKK mixed wj<|QJ (QC I)<|QJ (QC I)<|QJ (Qo (n:=n) i.i (λF h9=>(h9.1.1.1).1) rfl rfl Qd QY O)<|QJ (Ql (n:=n) ((i.i)*1) (λF h9=>(h9.1.1.1).1) O rfl QY (JP (o:=a) O))<|QJ (QC I)<|QJ (QC I)<|QJ (Qo (n:=n2) i.i (λF h9=>(h9.1.1.2).1) rfl rfl Qd QY O)<|QJ (Ql (n:=n2) ((i.i)*1) (λF h9=>(h9.1.1.2).1) O rfl QY (JP (o:=b) O))<|QJ (QP I I I)<|Qy<|QD ?_
  refine QO I (λhc=>?_) λhc=>?_
  ·have he:=bne_iff_ne.1 hc;refine QG<|JE QKK mixed wj<|QJ (QC I)<|QJ (QC I)<|QJ (Qo (n:=n) i.i (λF h9=>(h9.1.1.1).1) rfl rfl Qd QY O)<|QJ (Ql (n:=n) ((i.i)*1) (λF h9=>(h9.1.1.1).1) O rfl QY (JP (o:=a) O))<|QJ (QC I)<|QJ (QC I)<|QJ (Qo (n:=n2) i.i (λF h9=>(h9.1.1.2).1) rfl rfl Qd QY O)<|QJ (Ql (n:=n2) ((i.i)*1) (λF h9=>(h9.1.1.2).1) O rfl QY (JP (o:=b) O))<|QJ (QP I I I)<|QJ (QE I)<|Qy<|QD<|ZS ?_
   exact QMn I I (congrArg af (by unfold before;rw[i.step hlt O,decide_eq_false he,hne];simp)) wz
  have he:=bne_eq_false_iff_eq.1 hc;refine QN<|Qg<|QMY 3 I<|QA (Qn I I O)<|wB 2 I ?_
  exact Qj (⟨i.i+1,hlt,by rw[i.step hlt O,he];simp⟩) (by show a.length-(i.i+1)<a.length-i.i;omega) wV QKK w7
 have hge:i.i=a.length:=wi<|QLs hc
 refine JK ?_;refine wA 6 I ?_;exact QMn I I (congrArg af (by unfold before;rw[i.h,hge,aB (bg _),hne];simp[YX])) wz
def xe(a:List GS):(Ns a).length=a.length:=by simp[Ns]
structure WT{α:Type}(l:List α)(p:α->Bool) where
 i:Nat
 le:i<=l.length
 z:∀x∈l.take i,p x=false
section
variable{α:Type}[Inhabited α]{l:List α}{p:α->Bool}
def WT.start(l:List α)(p:α->Bool):WT l p:=⟨0,ba _,wv⟩
def WT.next(s:WT l p)(h:s.i<l.length)(e:p (el l s.i)=false):WT l p:=⟨s.i+1,h,λx hx=>by
 rw[ZB h]at hx;rcases List.mem_append.1 hx with hx | hx
 ·exact s.z x hx
 rw[List.mem_singleton.1 hx];exact e⟩
def WT.hit(s:WT l p)(h:s.i<l.length)(e:p (el l s.i)=true):l.any p=true:=List.any_eq_true.2 ⟨_,Q2 h,e⟩
theorem WT.stop(s:WT l p)(h:l.length<=s.i):¬l.any p=true:=by
 rw[List.any_eq_true];rintro⟨x,hx,e⟩;have:=s.z x (by rw[bw h];exact hx);rw[this]at e;cases e
end
def vR(p:Pt):Int:=if p.any (λx=>decide (x.2.sum>12))=true then 4 else if decide ((p.length:Int)>64)=true then 5 else if p.any (λx=>DM x.1 != 0)=true then 4 else 0
def P0(ps:List GS)(q:List UInt8×List Int->Bool):(Ns ps).any q=ps.any λt=>q (t.f,t.k):=by unfold Ns;rw[List.any_map];rfl
theorem Rl{v k:Nat}(hF:Fits F w)(hv:v<=k)(hk:k<=1000):QS prog 179 [.int .i64 (v:Nat),.int .i64 (k:Nat)] w F (λ(c:VW)=>c.1.v) (λc F=>Vl F c.1 c.2 [([49],(bF (k+1) (0:Int)).set v 1)]):=by
 refine QS.go (G:=λF=>True) func179 hF trivial ?_;refine wA 8 I<|QA (Qn I I O)<|K5 (n:=k+1) (bytes:=8) wN wN Qd QY HZ I WR O O λb8=>?_
 rw[show JL [ar .i64 0] (k+1)=(bF (k+1) (0:Int)).map Qs by rw[ZM];simp[Qs]];refine QMW 7 I<|QA (Qm (i:=v) rfl rfl Qd QY O)<|QV (vs:=[_]) I I I QY I .here (V4 (by rw[List.length_replicate];omega) (1)) wT<|QJl<|QG<|JN (b:=b8) .here<|wA 2 I<|QA (ZT I Ry Wf (wQ I I I))<|JG I (J2 ZF) ZN Wf I I λb14=>wR I<|QU ?_
 exact QM ((⟨some ⟨b14,0,none⟩,1,1⟩,[⟨[49],⟨some ⟨b8,0,none⟩,k+1,k+1⟩,(bF (k+1) (0:Int)).set v 1⟩])) I (wO I) (rfl) (λF ⟨⟨_,hz⟩,hs14⟩=>⟨JC.of hs14 rfl,λt ht=>by
  rw[List.mem_singleton.1 ht];exact⟨JC.of hz wv,wv,bg _⟩,rfl,bg _,rfl⟩)
def Ws(a:Rat)(k:Nat):List Tm:=if a=0 then[]else[(a,bF k 0)]
structure Open(F:Fence):Prop where
 fn:∀f,F.fn f
 depth:F.depth=none
 calls:∀ {n:Nat} {P:Program} {f:FuncId} {args:Array Value} {w:World} {R:Ending->World->Prop},Calls P f args w R->CallsIn F n P f args w R
 rows:∀ {n:Nat} {P:Program} {row:String} {args:Array Value} {w:World} {R:Value->World->Prop},Rows P row args w R->RowsIn F n P row args w R
theorem G9:Open aK where
 fn:=λ_=>trivial
 depth:=rfl
 calls:=λh=>callsIn_wide.2 h
 rows:=λh c cs _=>by
  obtain⟨v,w',h1,h2⟩:=h c cs;exact⟨v,w',h1,stepsIn_wide.2 h2⟩
def Wm(l:Nat):Open (Fence.wide.inRound l) where
 fn:=λ_=>trivial
 depth:=rfl
 calls:=λh=>(callsIn_wide.2 h:CallsIn aK _ _ _ _ _ _)
 rows:=λh=>G9.rows h
section
variable{F:Fence}{P:Program}
theorem Open.op(hF:Open F){o:Oper}(hnd:∀c,o.op≠.defer c){a:Act}{w:World}{K K':Act->World->Prop}{Q1 Q:Exit->Act->World->Prop}(hp:∀c a w,Q1 (.panic c) a w->Q (.panic c) a w)(hl:∀a w,Q1 .outgrown a w->Q .outgrown a w)(hK:∀a w,K a w->K' a w)(h:o.wp P a w K Q1):o.wpIn F 0 P a w K' Q:=by
 unfold Oper.wp at h;unfold Oper.wpIn;refine⟨λf _=>hF.fn f,?_⟩;rw[ff F a.eval o hnd];generalize (execOp a.eval o).run P w=r at *
 have hd:F.depth.isSome=true->1<=0:=λe=>by rw[hF.depth]at e;cases e
 cases r with
 |ok x w' =>
  cases x<;>simp only[Oper.upon,fK]at h ⊢ <;>
   first
    |exact hK _ _ h
    |exact⟨hd,hF.calls (h.mono λe w'' he=>by
      cases e with
      |returned u=>exact hK _ _ he
      |panicked c=>exact hp _ _ _ he
      |outgrown=>obtain⟨a,w,h⟩:=he;exact⟨a,w,hl _ _ h⟩)⟩
    |exact⟨hd,hF.rows (h.mono λ_ _ he=>hK _ _ he)⟩
 |halt x w'=>cases x<;>simp only[Oper.upon,fK]at h ⊢<;>exact hp _ _ _ h
def W8(l:List Oper):Bool:=l.all λo=>match o.op with | .defer _=>false | _=>true
def PX{o:Oper}(h:(match o.op with | .defer _=>false | _=>true)=true):∀c,o.op≠.defer c:=λc e=>by rw[e]at h;cases h
def Open.list(hF:Open F){ops:Array Oper}{Q:Exit->Act->World->Prop}(hQ:¬LetsOut Q):∀(l:List Oper) (a:Act) (w:World),W8 l=true->wpList P ops Q l a w->wpListIn F 0 P ops Q l a w
 |[],_,_,_,h=>h
 |o::rest,a,w,hd,h=>by
  simp only[W8,eF,aA]at hd;unfold wpList at h;unfold wpListIn;split
  ·rename_i hw;rw[if_pos hw]at h;rcases h with h | ⟨_,h⟩
   ·exact hF.op (PX hd.1) (λ_ _ _ h=>h) (λ_ _ h=>h) (λa w h=>hF.list hQ rest a w hd.2 h) h
   exact absurd h hQ
  rename_i hw;rw[if_neg hw]at h;exact⟨λf _=>hF.fn f,hF.list hQ rest _ _ hd.2 h⟩
end
section
variable[Dr][df:Df]{F:Fence}{P:Program}{Q:Exit->Act->World->Prop}{N:Nat}{m:Sl}{E:Env}
def JI(F:Fence)(P:Program)(c:Code)(Q:Exit->Act->World->Prop)(N:Nat)(m:Sl)(E:Env):Prop:=∀a w,JY N m a->St E w->c.wpIn F 0 P Q a w
theorem di{x y:Code}(h:JI F P x (Exit.then (y.wpIn F 0 P Q) Q) N m E):JI F P (.seq x y) Q N m E:=λa w ha hw=>wpIn_seq (h a w ha hw)
theorem Cr{id:Nat}(h:JI F P c (Exit.inBlock id Q) N m E):JI F P (.block id c) Q N m E:=λa w ha hw=>wpIn_block (h a w ha hw)
theorem ue(h:Fin Q .normal N m E):JI F P .skip Q N m E:=λa w ha hw=>wpIn_skip (h a w ha hw)
theorem uf{c:Operand}{x y:Code}{t:Bool}(hc:ev m c=some (.bool t))(ht:t=true->JI F P x Q N m E)(hf:t=false->JI F P y Q N m E):JI F P (.cond c x y) Q N m E :=
 λa w ha hw=>wpIn_cond_split (ha.ev hc) (λh=>ht h a w ha hw) λh=>hf h a w ha hw
theorem ER(hF:Open F){id:Nat}{l:List Oper}(hQ:¬LetsOut Q)(hd:W8 l=true)(h:JS P l.toArray Q l N m E):JI F P (.region id l.toArray false) Q N m E :=
 λa w ha hw=>wpIn_region_lit (hF.list hQ l a w hd (h a w ha hw))
theorem zB{y:Code}(h:JI F P y Q N m E):Fin (Exit.then (y.wpIn F 0 P Q) Q) .normal N m E:=h
section
variable{w0:World}{F0:Gs}{bs:List (Nat×Obj)}{G:Gs->Prop}{l:Nat}{r:Loop}{f:Obj->List (Nat×Obj)}
theorem St.put(h:St ⟨w0,F0,bs,G⟩ w){b:Nat}{o:Obj}(o':Obj)(ho:Own bs b o f)(hn:∀c fr,o'≠.cells c 283 fr):St ⟨w0,F0,f o',G⟩ (w.putObj b o'):=by
 obtain⟨pre,post,e1,e2⟩:=ho.split;subst e1;rw[e2];exact h.write pre ⟨rfl,rfl,rfl,rfl,rfl⟩ hn
theorem zA{Qr:Exit->Act->World->Prop}(ho:Own bs l (.loop r) f)(hr:r.state = .ready)(k:JI F P body Qr N m ⟨w0,F0,f (.loop { r with state:=.busy }),G⟩):
  Fin (Exit.then (λa₁ w₁=>∃w₂,(eZ l).run P w₁ = .ok () w₂/\body.wpIn F 0 P Qr a₁ w₂) λ_ _ _=>False) .normal N m ⟨w0,F0,bs,G⟩ :=
 λa w ha hw=>⟨_,run_beginRound (hw.own ho) hr,k a _ ha (hw.put _ ho λc fr e=>by cases e)⟩
theorem xw(ho:Own bs l (.loop r) f)(k:∀w,St ⟨w0,F0,f (.loop { r with state:=.ready,pending:=none }),G⟩ w->R (.returned (.bool true)) w):Fin (roundPost P l R) .normal N m ⟨w0,F0,bs,G⟩ :=
 λa w ha hw=>⟨_,_,run_endRound none (hw.own ho),k _ (hw.put _ ho λc fr e=>by cases e)⟩
end
end
section
variable[Dr]{P:Program}{w0:World}{F0:Gs}{bs:List (Nat×Obj)}{G:Gs->Prop}{l:Nat}{r:Loop}{f:Obj->List (Nat×Obj)}
def Gt(r:Loop)(vs:Array Value):Act:={ tmps:=(r.params.zip vs).foldl (λtmps (t,a)=>tmps.setIfInBounds t a) r.tmps,defers:=[] }
theorem TW{W:World}{vs:Array Value}(hst:St ⟨w0,F0,bs,G⟩ W)(ho:Own bs l (.loop r) f)(hsz:vs.size=r.params.size)(hsl:JY N m (Gt r vs))
  (h:JI (Fence.wide.inRound l) P r.assign (Exit.then (λa₁ w₁=>∃w₂,(eZ l).run P w₁ = .ok () w₂/\r.body.wpIn (Fence.wide.inRound l) 0 P (roundPost P l R) a₁ w₂) λ_ _ _=>False) N m ⟨w0,F0,bs,G⟩) :
  YieldAt aK 0 P l vs W R :=
 ⟨_,_,_,_,run_yield (hst.own ho) hsz,roundIn_of_wpIn trivial (h _ W hsl hst)⟩
end
section
variable[Dr][df:Df]{P:Program}{Q:Exit->Act->World->Prop}{N:Nat}{m:Sl}{E E0:Env}{ops:Array Oper}{l:List Oper}{w0:World}{F0:Gs}{bs:List (Nat×Obj)}{G:Gs->Prop}
def ud(P:Program)(ops:Array Oper)(Q:Exit->Act->World->Prop)(l:List Oper)(N:Nat)(m:Sl)(E:Env):Prop:=∀a w,JY N m a->St E w->wpListIn aK 0 P ops Q l a w
theorem xv(hQ:¬LetsOut Q)(hd:W8 l=true)(h:JS P ops Q l N m E):ud P ops Q l N m E:=λa w ha hw=>G9.list hQ l a w hd (h a w ha hw)
theorem qy{x:Operand}{d r:Nat}{args:Array Operand}{tys:Array TypeId}{ty:TypeId}{pos:String}{aft:Array Edge}{ι:Type}{E':ι->Env}(hx:ev m x=some (.func (.yield r) #[] #[]))(hv:HM m args.toList=some vs)
  (hy:∀w,St E w->YieldAt aK 0 P r vs.toArray w λe w'=>e = .returned (.bool true)/\∃s,St (E' s) w')
  (k:∀s,ud P ops Q l N ((d,.bool true)::m) (E' s)) (hd:J1 N (some d)=true:=by rfl):ud P ops Q (⟨some d,.call ⟨.value x,args,tys⟩,ty,pos,aft,none⟩::l) N m E:=by
 intro a w ha hw;refine wpListIn_plain rfl λK hK=>?_;obtain⟨fn,tmps,assign,body,hr,hR⟩:=hy w hw;refine⟨λf _=>trivial,?_⟩;have e2:args.map a.eval=vs.toArray:=by rw[<-ha.HM hv];apply eV;simp
 have hrun:(execOp a.eval ⟨some d,.call ⟨.value x,args,tys⟩,ty,pos,aft,none⟩).run P w = .ok (.round r fn tmps assign body) w:=by
  simp only[execOp,resolve,ha.ev hx,Deferred.ofValue,bW,bV,aZ,invoke,e2];simpa using hr
 rw[ff aK a.eval _ (λc e=>by cases e),hrun];refine⟨λe=>(by cases e),hR.mono ?_⟩;rintro e w' ⟨rfl,s,hs⟩;exact hK _ _ (k s _ w' (ha.put hd (.bool true)) hs)
end
section
variable[Dr]{P:Program}{Q:Exit->Act->World->Prop}{N:Nat}{m:Sl}{w0:World}{F0:Gs}{bs:List (Nat×Obj)}{G:Gs->Prop}
@[reducible] def Vi (D:Nat):Df:=⟨[{ target:=.collected D,args:=#[] }]⟩
structure TV(N:Nat)(m:Sl)(ps:Array Tmp)(assign body:Code)(r:Loop):Prop where
 state:r.state = .ready
 QDl:r.pending=none
 params:r.params=ps
 assign:r.assign=assign
 body:r.body=body
 zo:JY (df:=Y0) N m { tmps:=r.tmps,defers:=[] }
theorem IX{g:Operand}{ps:Array Tmp}{gf:Nat}{lb:Array Value}{ι:Type}(B:ι->List (Nat×Obj))(R:ι->Gs->Prop)(Dn:ι->Prop)(hg:ev m g=some (.func (.func gf) #[] lb))(he:Enters P gf)
  (hcall:∀(L D:Nat) (r:Loop) (w:World),TV N m ps assign body r->St ⟨w0,F0,(L,.loop r)::(D,.deferred (some []))::bs,G⟩ w ->
   Calls P gf (#[.func (.yield L) #[] #[]]++lb) w λe w'=>(∃v,e = .returned v)/\∃s,Dn s/\St ⟨w0,F0,(L,.loop r)::(D,.deferred (some []))::B s,λF=>G F/\R s F⟩ w')
  (k:∀D s,Dn s->Fin (df:=Vi D) Q .normal N m ⟨w0,F0,(D,.deferred (some []))::B s,λF=>G F/\R s F⟩):J (df:=Y0) P (.rangeFunc g ps assign body) Q N m ⟨w0,F0,bs,G⟩:=λa w ha hw=>by
 refine(wpIn_wide (n:=0)).1 (wpIn_rangeFunc λfn _=>?_);obtain⟨r,hr⟩:∃r:Loop,r={ state:=.ready,pending:=none,fn,tmps:=a.tmps,params:=ps,assign,body,defers:=w.heap.size }:=⟨_,rfl⟩;have hs1:St ⟨w0,F0,(w.heap.size+1,.loop r)::(w.heap.size,.deferred (some []))::bs,G⟩ ((w.alloc (.deferred (some []))).alloc (.loop r)):=by
  have h1:=hw.alloc (.deferred (some [])) (λc fr e=>by cases e);have h2:=h1.alloc (.loop r) λc fr e=>by cases e
  rwa [World.size_alloc]at h2
 have hd:a.defers=[]:=ha.df;refine⟨w.heap.size+1,[{ target:=.collected w.heap.size,args:=#[] }],(w.alloc (.deferred (some []))).alloc (.loop r),{ target:=.fn (.func gf) lb,args:=#[.func (.yield (w.heap.size+1)) #[] #[]] },(w.alloc (.deferred (some []))).alloc (.loop r),gf,
  #[.func (.yield (w.heap.size+1)) #[] #[]]++lb,(w.alloc (.deferred (some []))).alloc (.loop r),?_,?_,λ_ _=>trivial,?_,λe=>(by cases e),?_⟩
 ·rw[hr];exact run_enterLoop_outer _ _ _ _ _
 ·simp only[resolve,ha.ev hg];simp[go_sem]
 ·simpa[invoke,go_sem]using he _ _
 refine(callsIn_wide.2 (hcall _ _ r _ ⟨by rw[hr],by rw[hr],by rw[hr],by rw[hr],by rw[hr],⟨by rw[hr];exact ha.size,rfl,by rw[hr];exact ha.get⟩⟩ hs1)).mono ?_;rintro e w' ⟨⟨v,rfl⟩,s,Ay,hs⟩;have hl:w'.heap[w.heap.size+1]?=some (.loop r):=hs.own .here;refine⟨none,w'.putObj (w.heap.size+1) (.loop { r with state:=.exhausted }),?_,k w.heap.size s Ay _ _ (JY.mk (df:=Vi w.heap.size) (JY.size (df:=Y0) (a:=a) ha) ?_ λt v h=>JY.get (df:=Y0) (a:=a) ha t v h) ?_⟩
 ·rw[run_endLoop hl (by rw[hr];intro e;cases e)];rw[hr]
 ·show _++a.defers=_;rw[hd];rfl
 exact(hs.put (.loop { r with state:=.exhausted }) .here λc fr e=>by cases e).imp (.cons _ QKK) λ_ h=>h
theorem QCp(h:∀G':Gs->Prop,(∀F,G' F->G F)->J (df:=Y0) P c Q N m ⟨w0,F0,bs,G'⟩):J (df:=Y0) P c Q N m ⟨w0,F0,bs,G⟩:=h G λ_ h=>h
theorem QS.gZ{f:FuncId}{fn:Func}{args:List Value}{γ:Type}{val:γ->Value}{fact:γ->Gs->Prop}{G:Gs->Prop}(hf:P.funcs[f]?=some fn)(hb:fn.body=some c)(hn:(fn.name == "runtime.NumGoroutine")=false)(hN:fn.ntmps=N)(hl:Nat.ble args.length N=true)
  (hw:Fits F w) (hg:∀F',Gs.le F F'->G F') (h:J (df:=Y0) P c (bodyPostM aK 0 P fn (Dc w F val fact)) N (B3 0 args) ⟨w,F,[],G⟩):QS P f args w F val fact:=by
 refine⟨enters_of hf hn (by rw[hb];rfl),callsIn_wide.1 (callsIn_of_wp_marks hf hb trivial (wpIn_wide.2 (h _ w ⟨?_,rfl,λt v ht=>?_⟩ (St.start hw hg))))⟩
 ·have:=Nat.le_of_ble_eq_true hl;simp[hN];omega
 obtain⟨_,h2⟩:=V9 args 0 t v ht;have hlt:t<args.length:=by rcases bQ t args.length with g | g;exact g;rw[bP,bD g]at h2;cases h2
 simp only[bP]at h2;rw[Array.getElem?_append,if_pos (by simpa using hlt)];simpa using h2
theorem xx{fn:Func}{D:Nat}{f:Obj->List (Nat×Obj)}(ho:Own bs D (.deferred (some [])) f)(h:Fin (df:=Y0) (bodyPost P fn R) .ret N m ⟨w0,F0,f (.deferred none),G⟩):Fin (df:=Vi D) (bodyPostM aK 0 P fn R) .ret N m ⟨w0,F0,bs,G⟩:=λa w ha hw=>by
 have h1:=h { tmps:=a.tmps,defers:=[] } _ (JY.mk (df:=Y0) (JY.size (df:=Vi D) (a:=a) ha) rfl λt v h=>JY.get (df:=Vi D) (a:=a) ha t v h) (hw.put (.deferred none) ho λc fr e=>by cases e);obtain⟨_,v,h2,h3⟩:=h1;show LeavesInM aK 0 P fn a.tmps R a.defers .returning w;rw[show a.defers=[{ target:=.collected D,args:=#[] }]from JY.df (df:=Vi D) ha];exact⟨λe=>(by cases e),.inl ⟨D,_,rfl,run_takeDeferred (hw.own ho),v,h2,h3⟩⟩
end
def I6{l:List Value}(h:l.length=vs.length):Yz l 0 vs vs:=by
 have h1:=Yz.mk' 0 l vs O
 rwa [fm,bA,bz,aB O,List.append_nil]at h1
def Tl{ps:Array Tmp}{r:Loop}(h:TV N m ps assign body r):{ ({ r with state:=.busy }:Loop)with state:=.ready,pending:=none }=r:=by
 obtain⟨h1,h2,_,_,_,_⟩:=h;cases r;simp only at h1 h2;subst h1;subst h2;rfl
theorem IQ{p1 p2:Tmp}{r:Loop}(h:TV N m #[p1,p2] assign body r)(v1 v2:Value)(h1:p1<N)(h2:p2<N):JY (df:=Y0) N ((p2,v2)::(p1,v1)::m) (Gt r #[v1,v2]):=by
 have e:Gt r #[v1,v2]=((({ tmps:=r.tmps,defers:=[] }:Act).put (some p1) v1).put (some p2) v2):=by
  unfold Gt;rw[h.params];simp[fM]
 rw[e];exact(h.zo.put (d:=some p1) (by simpa[J1]using h1) v1).put (d:=some p2) (by simpa[J1]using h2) v2
theorem uY(h:a.length=b.length)(ha:∀x∈a,0<=x)(hb:∀x∈b,0<=x):(∀x∈Yg a b,0<=x)/\(Yg a b).sum=a.sum+b.sum:=by
 induction a generalizing b with
 |nil=>cases b with
  |nil=>exact⟨λx hx=>(by cases hx),rfl⟩
  |cons y b=>simp at h
 |cons x a ih=>cases b with
  |nil=>simp at h
  |cons y b =>
   have:=ih (b:=b) (by simpa using h) (λx hx=>ha x (bH _ hx)) (λx hx=>hb x (bH _ hx));have h1:=ha x bL;have h2:=hb y bL;show(∀z∈(x+y)::Yg a b,0<=z)/\((x+y)::Yg a b).sum=_;refine⟨λz hz=>?_,?_⟩
   ·rcases List.mem_cons.1 hz with rfl | hz
    ·omega
    exact this.1 z hz
   rw[eE,this.2,eE,eE];omega
def kN(z:Int):Ue (Xm z)=ao z.natAbs:=by
 have h:=Ee ((z:Int):Rat);rw[AP,show((z:Int):Rat).num=z from by simp]at h;unfold Ue;rw[h];unfold MV;by_cases h0:z<0
 ·rw[if_pos h0,if_pos wk,Zr h0];rfl
 rw[if_neg h0,Jd O,if_neg (by split<;>decide)]
section
variable{w:World}{F:Gs}
variable{a b:List UInt8}
theorem I3(hF:Fits F w)(ha:JO a=0)(hb:JO b=0):Qi prog 88 [tx a,tx b] w F (tx (Q8 (J4 a*J4 b))):=by
 have h:=Th (x:=J4 a) (y:=J4 b) hF (bS (YS ha) wk) (bS (YS hb) wk)
 rwa [<-(ZR ha).1,<-(ZR hb).1]at h
end
def YI{y:Rat}(h0:0<=x)(h:x<=y):∀n:Nat,x^n<=y^n
 |0=>by rw[fB,fB];exact Rat.le_refl
 |n+1=>by
  have ih:=YI h0 h n;have hx:0<=x^n:=Rat.pow_nonneg h0;rw[fC,fC];have h1:=Rat.mul_le_mul_of_nonneg_left h hx;have h2:=Rat.mul_le_mul_of_nonneg_right ih (fD h0 h);exact fD h1 h2
abbrev SpQ:=Rat×Rat
def Cl(Q d b:Nat)(x:Rat):Prop:=∃z:Int,x=ae z ((Q^d:Nat):Int)/\z.natAbs<=2^b*Q^d
theorem Lm:ZZ prog 155=some (true,3):=wj
theorem pB:Jw prog 155=some [.slice none 0 0,.slice none 0 0,.slice none 0 0]:=wj
theorem QA9:K2 prog 155=some [(0,1),(1,1),(2,1)]:=wj
theorem TC:Z9 prog 155 0=some (0,109):=wj
theorem LB:Z9 prog 155 1=some (1,153):=wj
theorem xI:Z9 prog 155 2=some (2,64):=wj
section
variable[Dr][df:Df]{P:Program}{Q:Exit->Act->World->Prop}{N:Nat}{m:Sl}{E:Env}
theorem ua(h:J P c (fL Q) N m E):J P (.scope c) Q N m E:=λa w ha hw=>wp_scope_straight (h a w ha hw)
theorem ub{l:Nat}(h:Fin Q .normal N m E):J P (.label l) Q N m E:=λa w ha hw=>wp_label (h a w ha hw)
theorem QHu(h:Fin Q .ret N m E):Fin (fL Q) .ret N m E:=h
end
structure ASy where
 nm:Sr
 nl:List (List UInt8)
 rt:Sr
 rl:List VW
 st:Sr
 sl:List (List UInt8×List UInt8)
def VJ{l:List Int}:JB (0::l)=JB l:=by simp[JB]
def VI{x:Int}{l:List Int}(h:x≠0):JB (x::l)=x:=by simp[JB,h]
theorem I4{a:List UInt8}{d:Int}(hF:Fits F w)(hd:0<=d/\d<=1000):Qi prog 175 [tx a,.int .i64 d] w F (.bool (H9 a d)):=by
 have hn:=FY a;refine QS.go (G:=λF=>True) func175 hF trivial ?_;refine wA 8 I<|QA (Ji I Kg)<|QJm I<|QA (VV I I O)<|QA (Qn I I O)<|wB 2 I ?_
 refine Qa (t:=11) rfl (λhb11=>?_) λhb11=>?_
 ·have hl:a.length<=1000000:=by have h1:=QLr hb11;omega
  refine wB 3 I<|QL I (λ_ _ f k=>NF f (hl)) λ_=>wB 4 I ?_
  refine Qa (t:=16) rfl (λhb16=>?_) λhb16=>?_
  ·refine wB 3 I<|QL I (λ_ _ f k=>L8 f O) λ_=>QK I I<|QL I (λ_ _ f k=>OL f ) λ_=>QK I I<|QA (Ji I Kg)<|wB 6 I ?_
   refine Qa (t:=24) rfl (λhb24=>?_) λhb24=>?_
   ·refine wB 3 I<|QL I (λ_ _ f k=>OF f O) λ_=>QK I I<|QA (Ji I Kg)<|QMW 9 I ?_
    exact QMn I I ((congrArg af (by have h1:=QLr hb11;simp[H9,h1];simp at hb16 hb24;simp[hb16,hb24]))) wz
   refine QMW 10 I ?_;exact QMn I I ((congrArg af (by have h1:=QLr hb11;simp[H9,h1];simp at hb16 hb24;simp[hb16];intro g;omega))) wz
  refine QMW 18 I ?_;exact QMn I I ((congrArg af (by have h1:=QLr hb11;simp at hb16;simp[H9,h1,hb16]))) wz
 refine QMW 23 I ?_;exact QMn I I ((congrArg af (by simp[H9,hb11]))) wz
def Ix(r:Rat):J4 (Q8 r)=r:=by
 unfold J4 Q8;by_cases h:r.den=1
 ·rw[if_pos h,Nj (W7 _)];dsimp only;rw[if_neg wk,Zb];have:=fv r;rw[h,Rat.mkRat_one]at this;exact this
 rw[if_neg h,Ss (W7 _)];dsimp only;rw[if_pos rfl,Zb,Jq];exact fv r
theorem IS{p1:Tmp}{r:Loop}(h:TV N m #[p1] assign body r)(v1:Value)(h1:p1<N):JY (df:=Y0) N ((p1,v1)::m) (Gt r #[v1]):=by
 have e:Gt r #[v1]=(({ tmps:=r.tmps,defers:=[] }:Act).put (some p1) v1):=by
  unfold Gt;rw[h.params];simp[fM]
 rw[e];exact h.zo.put (d:=some p1) (by simpa[J1]using h1) v1
theorem HK{l:List Int}(h:JB l=0):∀x∈l,x=0:=by
 induction l with
 |nil=>intro x hx;cases hx
 |cons a l ih =>
  intro x hx;unfold JB at h;by_cases g:a=0
  ·rw[if_pos g]at h;rcases List.mem_cons.1 hx with rfl | hx
   ·exact g
   exact ih h x hx
  rw[if_neg g]at h;exact absurd h g
theorem MB{l:List Int}(h:∀x∈l,x=0):JB l=0:=by
 induction l with
 |nil=>rfl
 |cons a l ih=>unfold JB;rw[if_pos (h a wv)];exact ih λx hx=>h x (by simp[hx])
def MQ(rs:List (List Tm))(p:List Tm):Nat->List Tm
 |0=>XO (Gc 0 p)
 |k+1=>XO (MQ rs p k++XO (Xo (XO (Gc (k+1) p)) (el rs k)))
def MA(x:Int):JB [x]=x:=by
 unfold JB;split
 ·rename_i h;rw[h];rfl
 rfl
theorem qd(l m:List Int):JB (l++m)=JB [JB l,JB m]:=by
 induction l with
 |nil=>rw[bA,show JB []=0 from rfl,VJ,MA]
 |cons a l ih =>
  by_cases g:a=0
  ·rw[g,bj,VJ,VJ,ih]
  rw[bj,VI g,VI g,VI g]
instance :Inhabited Sr:=⟨⟨none,0,0⟩⟩
theorem gY{Q:Nat}(h0:0<Q)(hd:(k+1) ∣ Q):Cl Q 1 0 ((((k+1:Nat):Int):Rat)⁻¹):=by
 obtain⟨q,rfl⟩:=hd;have hq:0<q:=Nat.pos_of_ne_zero (by rintro rfl;simp at h0);refine⟨q,?_,?_⟩
 ·rw[fO,fp];have e:ae (q:Int) (((k+1:Nat):Int)*(q:Int))=ae (1*(q:Int)) (((k+1:Nat):Int)*(q:Int)):=by rw[Int.one_mul]
  rw[e,Rat.divInt_mul_right O,Rat.divInt_eq_div,Rat.div_def,Rat.intCast_one,Rat.one_mul]
 rw[fO,Int.natAbs_natCast,Nat.pow_zero,Nat.one_mul];exact Nat.le_mul_of_pos_left _ O
def Q0:Nat:=2^64*720720
def dY:0<Q0:=wm
def R1:List (List Tm):=([[([49],[0,1])]]:List Pt).map QDS
def QBs:∀k,k<16->Cl Q0 1 0 ((((k+1:Nat):Int):Rat)⁻¹):=λk hk=>gY dY (Nat.dvd_of_mod_eq_zero ((by decide +kernel:∀k,k<16->Q0%(k+1)=0) k hk))
end Go.Proofs.YtphlgddkpboamaaGreatDoor
