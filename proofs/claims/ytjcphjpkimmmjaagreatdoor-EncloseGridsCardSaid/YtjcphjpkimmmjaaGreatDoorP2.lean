/- Steps of the proof of the theorem in the last file. -/
import Derived.Test.YtjcphjpkimmmjaaGreatDoorP1
import Derived.MapKept
import Derived.Maps.RangeRun
import Derived.Lib.ItoaLen
import Derived.Shelf.SlSortCmp.PdqK
import Derived.Ground.SlsfProg
import Derived.Test.YtjcphjpkimmmjaaGreatDoorProg
import Derived.Sort.AssemblyPlain
import Derived.Shelf.SlSortCmp.NoneTotal
set_option linter.all false
set_option maxHeartbeats 4000000
open List renaming length_append → aa,mem_map_of_mem → ab,cons_append → ae,length_cons → af,nil_append → ag,map_cons → aj,getElem?_eq_getElem → ak,drop_of_length_le → ao,getElem?_toArray → aq,take_length → aw,mem_cons_self → ax,length_take → aA,take_of_length_le → aD,take_append_drop → aE,length_singleton → aF,getElem?_eq_none → aG,map_append → aH,length_set → aI,mem_cons_of_mem → aK,mem_cons → aP,take_set_of_le → aR,replicate → aS,drop_drop → aT,perm_append_comm → aV,length_map → aW,take_succ_eq_append_getElem → aX,append_assoc → aY,flatMap_append → ba,not_mem_nil → bc,range → bh,length_nil → bm,foldl_cons → bp,flatMap_cons → bt,getElem?_append → bw,eq_nil_of_length_eq_zero → bH,append_nil → bJ,drop_set_of_lt → bK,foldl_append → bM,sum_cons → bN,length_drop → bR,mem_of_mem_take → bZ,drop_set → eb,pairwise_map → er,length_range → eu,getElem?_map → ew,perm_middle → eD,getElem_mem → eE,drop_append → eF,any_eq_true → eG,range' → eH,length → eI,sum_append → eJ,nodup_nil → eN,drop_zero → eO,mem_or_eq_of_mem_set → eR,mem_of_find?_eq_some → eS,length_erase_of_mem → eV,length_eq_zero_iff → eY,getElem?_cons_succ → eZ,map_map → e9,mem_of_getElem? → fj,contains_eq_mem → fk,length_zipWith → fq,getElem_of_mem → fu,all_eq_true → fJ,range_succ → fM,find?_some → fN,map → fS,map_take → fW,all_cons → fX,zipWith → ik,map_nil → il
open Int renaming mul_le_mul_of_nonneg_left → ah,mul_le_mul_of_nonneg_right → aB,mul_comm → aJ,pow_succ → aZ,one_mul → bj,add_mul → bF,lt_or_le → bG,mul_sub → bI,mul_add → bO,le_refl → bP,emod_add_mul_ediv → bY,mul_assoc → ef,lt_trichotomy → eB,pow_add → eL,neg_mul → eM,mul_le_mul → eT,lt_of_mul_lt_mul_left → eW,eq_of_mul_eq_mul_left → eX,add_assoc → e8,mul_zero → fh,emod_lt_of_pos → fD,emod_nonneg → fT,ofNat_tmod → fY,ofNat_tdiv → fZ,mul_nonneg → hJ,add_zero → iv,mul_one → iD
open Go.Lib renaming trimPrefix → ai,decDigits → aL,decDigits_length → bA,hasPrefix → bC,itoa → ia,compareInt → ib
open List.Perm renaming refl → ar,swap → ey,flatMap_right → eK,append_left → eP
open Go.Value renaming int → au,slice → im,bool → iw
open Nat renaming zero_le → av,le_refl → ay,zero_add → aM,lt_or_ge → aN,eq_zero_or_pos → aU,add_sub_cancel_left → bf,pow_le_pow_right → bz,le_trans → bL,add_assoc → bQ,zero_mul → ff,sub_zero → fg,eq_of_beq_eq_true → fi,add_mul → fp,pow_le_pow_left → fz,mod_lt → fA,lt_of_lt_of_le → fB,add_sub_cancel → fC,gcd → fI,not_lt_zero → fR,sub_self → ir,gcd_comm → iu
open Rat renaming add_zero → az,zero_add → aC,add_assoc → aQ,add_comm → bT,divInt → eQ,zero_mul → fc,mul_zero → fe,mul_assoc → ij,add_mul → iC
open Bool renaming and_eq_true → aO,or_eq_true → bV,not_eq_true' → fH,eq_iff_iff → fO,not_true → ie,false_or → ig
open Go.Region renaming waitsFor → bB,ready → ei,binds → ek,waitsFor_spec → fa
open Go.MapKept renaming run_getObj_map → bD,run_setObj_map → eU,bytes_beq → fm
open Array renaming getElem?_eq_none → bS,getElem?_append → bW,ext_getElem? → ee,all_eq_true_iff_forall_mem → ep,getElem?_modify → fb,ext' → iB
open List.Pairwise renaming nil → bU
open Option renaming none → bX,some → fV
open Option.some renaming inj → ea
open UInt8 renaming ofNat → eC
open List.cons renaming injEq → fl
open Go.Result renaming andThen_ok → fw
open Quotient renaming lift₂ → fy
open Go.Instr renaming buildSlice → fF,mapUpdate → fL,findNow → fU,lookup → ic,slice → iq,fill → iA
open ByteArray renaming mk → fG
open Go.Proofs.SlLaysF0 renaming n14 → fK
open Std renaming Commutative → fP,Associative → fQ
open Go.Sem renaming run_pure → ix,run_bind → iy
open Go.Lib.decDigits renaming eq_1 → iz
namespace Go.Proofs.YtjcphjpkimmmjaaGreatDoor
variable{s:List UInt8}{N c cap i j k m n:Nat}{w:World}{F F':Gs}{t z:Int}{T et kt:TypeId}{x y:Operand}{g:FuncId}{a b l o out u:List Int}{ob:List (Nat×Obj)}{cs rest:List Value}{Q:Exit->Act->World->Prop}{P:Program}{α ι:Type}{f:Rat->Rat->Rat}{seen:List Nat}
open Go.RowKit Ig
theorem N7(hi:i<s.length):JJ (s.take (i+1))=JJ (s.take i)*10+(s[i].toNat - 48):=by
 rw[aX hi,Y0,WW];simp
theorem QCL(hi:i<s.length)(h:X6 s=true):48<=s[i].toNat/\s[i].toNat<=57:=by
 rw[X6,fJ]at h
 exact Kn.1 (h _ (eE hi))
theorem Rh(hF:Fits F w)(hs:X6 s=true)(hl:s.length<=18):Qe Tryz.prog 191 [tx s] w F (.int .i64 (JJ s)):=by
 refine QS.intro (G:=λ_=>True) Tryz.func191 rfl wc rfl rfl hF wh<|wI<|wH rfl<|wI<|wH rfl<|QG<|wI<|wH rfl<|QU<|Zy (ι:=Sy s.length (λ_=>True)) (λi=>[(0,tx s),(3,.int .i64 (JJ (s.take i.i))),(4,.int .i64 i.i)]) (λ_=>[]) (λ_ _=>True) (λi=>s.length - i.i) ⟨0,av _,trivial⟩ wQ wK wh (λi=>?_)
 have hle:=i.le
 have hlt:=Gb (DE hs i.i)
 have hp18:(10:Nat)^(s.take i.i).length<=10^18:=bz wa wg
 refine QG<|wJ I<|wE I<|QA (X7 I ZQ)<|QA (QZ I I I)<|QE<|QC ?_
 refine QR I (λhc=>?_) (λhc=>?_)
 ·
  have hi:i.i<s.length:=by simp at hc;omega
  have hd:=QCL hi hs
  have hp17:(10:Nat)^(s.take i.i).length<=10^17:=bz wa wg
  refine QQ<|QC<|QG<|QU<|QB<|wE I<|QA (PN I I O)<|wE I<|wE I<|QA (Gc I I ZQ (hi))<|QA (jV I QF0 k_3 O)<|QA (Qu I I O)<|QA (Xw I I O)<|wF I<|QE<|Qk<|QC<|QB<|wE I<|QA (Qu I I O)<|wF I<|QE ?_
  exact Ql (⟨i.i+1,O,trivial⟩:Sy s.length (λ_=>True)) (by show s.length - (i.i+1)<s.length - i.i;omega) ⟨rfl,(by show some (au .i64 _)=some (au .i64 _);rw[N7 hi];congr 2;omega),rfl,trivial⟩ wK wh
 ·
  refine Qz ?_
  repeat (first | refine QW ?_ | refine QP wc ?_)
  refine QX<|QC<|wJ I<|wH I<|QY ?_
  exact QV () I (wB I) (congrArg (au .i64) (by rw[aD (by simp at hc;omega)])) wh
structure QFJ(a b:Nat) where
 x:Nat
 y:Nat
 h:fI x y=fI a b
 hx:x<=9223372036854775807
 hy:y<=9223372036854775807
theorem QD2{a b:Nat}(hF:Fits F w)(ha:a<=9223372036854775807)(hb:b<=9223372036854775807):Qe Tryz.prog 103 [.int .i64 (a:Int),.int .i64 (b:Int)] w F (.int .i64 (fI a b:Nat)):=by
 refine QS.intro (G:=λ_=>True) Tryz.func103 rfl wc rfl rfl hF wh<|wI<|wH rfl<|QG<|QU<|Zy (ι:=QFJ a b) (λi=>[(0,.int .i64 (i.x:Int)),(1,.int .i64 (i.y:Int))]) (λ_=>[]) (λ_ _=>True) (λi=>i.y) ⟨a,b,rfl,ha,hb⟩ wP wK wh (λi=>?_)
 have hx:=i.hx
 have hy:=i.hy
 refine QG<|wJ I<|QA (QZ I I I)<|QE<|QC ?_
 refine QR I (λhc=>?_) (λhc=>?_)
 ·
  have hpos:0<i.y:=by simp at hc;omega
  refine QQ<|QC<|QU<|JO wK mixed y0<|QK (QD I)<|QK (QD I)<|QK (QD I)<|QK (BO I I O O)<|QK (QF I)<|QK (QF I)<|Q6<|Qk ?_
  exact Ql (⟨i.y,i.x%i.y,by rw[<-i.h,iu i.x,Nat.gcd_rec i.y i.x,iu],hy,by have:=fA i.x hpos;omega⟩:QFJ a b) (fA i.x hpos) wP wK wh
 ·
  refine Qz ?_
  repeat (first | refine QW ?_ | refine QP wc ?_)
  refine QX<|QC<|wJ I<|wH I<|QY ?_
  exact QV () I (wB I) (congrArg (λn:Nat=>au .i64 (n:Int)) (by have h0:i.y=0:=(by simp at hc;omega);rw[<-i.h,h0,Nat.gcd_zero_right])) wh
def S3(n least:Nat):List UInt8:=Wu least (hd n)
theorem qM(h:0<n):hd n=hd (n / 10)++[eC (48+n%10)]:=by
 unfold hd
 rw[if_neg O]
 by_cases h0:n / 10=0
 ·rw[if_pos h0,aL,dif_pos O,Nat.mod_eq_of_lt O];rfl
 ·rw[if_neg h0,iz n,dif_neg O]
theorem vC(h:n<=9223372036854775807):(hd n).length<=20:=by
 unfold hd;split
 ·simp
 ·rw[bA];exact YI O wa
structure dL(n least:Nat) where
 m:Nat
 t:List UInt8
 le:m<=n
 h:Wu (least - t.length) (hd m)++t=S3 n least
 tl:t.length+(hd m).length<=least+20
theorem vg{least:Nat}{t:List UInt8}(h:0<n\/t.length<least):Wu (least - (eC (48+n%10)::t).length) (hd (n / 10))++(eC (48+n%10)::t)=Wu (least - t.length) (hd n)++t:=by
 rcases aU n with h0 | h0
 ·subst h0
  have hlt:t.length<least:=O
  have e:least - t.length=(least - (t.length+1))+1:=O
  simp only[hd,Wu,af,if_true,bm,fg,bJ,Nat.zero_div,Nat.zero_mod]
  rw[e,Vb,Vb,List.replicate_succ',aY]
  rfl
 ·rw[qM h0]
  unfold Wu
  simp only[aa,af,bm]
  rw[show least - (t.length+1) - (hd (n / 10)).length=least - t.length - ((hd (n / 10)).length+(0+1)) by omega]
  simp
def dL.next{n least:Nat}(i:dL n least)(h:0<i.m\/i.t.length<least):dL n least :=
 ⟨i.m / 10,eC (48+i.m%10)::i.t,by have:=i.le;omega,by rw[vg h];exact i.h,by
  have:=i.tl
  rcases aU i.m with h0 | h0
  ·have e:hd (i.m / 10)=[]:=by rw[h0];rfl
   rw[e]
   have e2:hd i.m=[]:=by rw[h0];rfl
   rw[e2]at this
   simp at this ⊢;omega
  ·have e:=congrArg eI (qM h0)
   simp at e ⊢;omega⟩
section
variable{P:Program}{N:Nat}{m:Sl}{Y:World->Prop}{ty:TypeId}
theorem TS(a:Addr):a.add 0=a:=by simp[Addr.add]
theorem N8{e:TypeId}{hi:Option Operand}{vh:Option Value}{q:Option Addr}{sz:Nat}{g:Bool}(h:Nat)(hx:ev m x=some (.slice q n c))(eh:O9 m hi=some vh)(hh:vh=some (.int .i64 (h:Int)))(hT:Hr P T=some e)(hs:YW P e=some (g,sz))(hc:h<=c):
  Qt P N m Y (.slice T x none hi none) ty (.slice q h c):=λa w _ _ _ _ ha _=>by
 subst hh
 have e1:q.map (λa=>a.add 0)=q:=by cases q<;>simp[TS]
 have hrun:(iq T (.slice q n c) none (some (.int .i64 (h:Int))) none).run P w = .ok (.slice q h c) w:=by
  simp[iq,run_underlying (Qw hT),Instr.sliceBounds,Instr.sliceBound,asIntOf,hc,VX hs,e1]
 simp[execOp,ha.ev hx,ha.O9 eh,Instr.sliceAt,run_underlying (Qw hT),hrun]
end
def J7(F:Gs)(r:Sr)(l:List Int):Prop:=Qy F r.q r.n 1 (l.map JY)/\l.length=r.n/\r.n<=r.cap
theorem J7.le{r:Sr}(h:J7 F r l)(k:Gs.le F F'):J7 F' r l:=⟨h.1.le k,h.2⟩
theorem Qy.take{q:Option Addr}(h:Qy F q n 1 (l.map JY))(hl:l.length=n)(hk:k<=n):Qy F q k 1 ((l.take k).map JY):=by
 refine⟨wg,λh0=>?_⟩
 obtain⟨b,off,arr,T,e1,e2,e3⟩:=h.2 O
 refine⟨b,off,arr,T,e1,e2,λj u hu=>e3 j u ?_⟩
 rw[fW]at hu
 have hj:j<k:=by
  rcases aN j k with g | g
  ·exact g
  ·rw[aG wg]at hu;cases hu
 rw[List.getElem?_take_of_lt hj]at hu;exact hu
theorem OA(hk:k<l.length)(h:JH l=JH (l.take (k+1)))(h0:l[k]=0):JH l=JH (l.take k):=by
 rw[h,aX hk,h0,KS]
theorem L9(hk:k<l.length)(h:JH l=JH (l.take (k+1)))(h0:l[k]≠0):JH l=l.take (k+1):=by
 rw[h,aX hk,Wc _ h0]
structure QAr(l:List Int) where
 k:Nat
 le:k<=l.length
 h:JH l=JH (l.take k)
theorem PT{r:Sr}(hF:Fits F w)(hR:J7 F r l)(hl:l.length<=1000000000):QS Tryz.prog 271 [r.v] w F (λ(_:Unit)=>.slice r.q (JH l).length r.cap) (λ_ F=>J7 F ⟨r.q,(JH l).length,r.cap⟩ (JH l)):=by
 obtain⟨q,n,c⟩:=r
 have hn:=hR.2.1
 have hcap:=hR.2.2
 dsimp only at hn hcap
 refine QS.intro (G:=λF=>J7 F ⟨q,n,c⟩ l) Tryz.func271 rfl wc rfl rfl hF (λF' hF'=>hR.le hF')<|wI<|wH rfl<|QG<|QU<|Zy (ι:=QAr l) (λi=>[(0,.slice q i.k c)]) (λ_=>[]) (λ_ F=>J7 F ⟨q,n,c⟩ l) (λi=>i.k) ⟨n,O,by rw[<-hn,aw]⟩ wO wK wi (λi=>?_)
 have hle:=i.le
 refine QG<|wJ I<|QA (Qh I Q2)<|QA (QZ I I I)<|wE I ?_
 refine Q3 (t:=6) rfl (λhb6=>?_) (λhb6=>?_)
 ·
  have hk0:0<i.k:=by have:=wM hb6;omega
  have hk1:i.k - 1<l.length:=O
  refine JQ _ (λw F hF h=>h.1.ptr (by dsimp only;omega)) (λhq=>?_)
  obtain⟨qb,qo,hq⟩:=hq
  dsimp only at hq
  subst hq
  refine QM I I<|wE I<|QM I I<|wE I<|QM I I<|QA (Qh I Q2)<|QM I I<|QA (Xw I I O)<|QM I I<|QA (JG (i:=i.k - 1) rfl wA Q2 JR O)<|QM I I<|QA (Yg (n:=n) (sz:=1) (cs:=l.map JY) (u:=.int .i64 l[i.k - 1]) I JR wj O (by simp[hk1,JY]))<|QM I I<|QA (QZ I I I)<|QA (Qp I I I)<|QE<|QC ?_
  refine QR I (λhc=>?_) (λhc=>?_)
  ·
   refine QQ<|QC<|QU<|QB<|wE I<|wE I<|QA (Qh I Q2)<|QA (Xw I I O)<|QA (N8 (i.k - 1) rfl rfl wA Q2 JR O)<|wF I<|QE<|Qk ?_
   exact Ql (⟨i.k - 1,O,OA hk1 (by rw[show i.k - 1+1=i.k by omega];exact i.h) (by simpa using hc)⟩:QAr l) (by show i.k - 1<i.k;omega) wO wK wi
  ·
   refine Qz ?_
   repeat (first | refine QW ?_ | refine QP wc ?_)
   refine QX<|QC<|wJ I<|wH I<|QY ?_
   exact QV () I (wB I) (congrArg (λk:Nat=>im _ k c) (by have e:=L9 hk1 (by rw[show i.k - 1+1=i.k by omega];exact i.h) (by simpa using hc);rw[show i.k - 1+1=i.k by omega]at e;rw[e];simp;omega)) (λF h=>by have hz:(JH l).length<=l.length:=YQ l;exact⟨(by have:=h.1.take hn (show(JH l).length<=n by omega);rw[<-Dh]at this;exact this),rfl,(by show(JH l).length<=c;omega)⟩)
 ·
  refine Qc I I I<|Qc I I I<|Qc I I I<|Qc I I I<|Qc I I I<|Qc I I I<|Qc I I I<|QA (Qj I I I)<|wG<|Ko I<|Qz ?_
  repeat (first | refine QW ?_ | refine QP wc ?_)
  refine QX<|QC<|wJ I<|wH I<|QY ?_
  exact QV () I (wB I) (congrArg (λk:Nat=>im _ k c) (by have h0:i.k=0:=(by have:=wN hb6;omega);have e:=i.h;rw[h0]at e;simp[Tb]at e;rw[e,h0];rfl)) (λF h=>by have hz:(JH l).length<=l.length:=YQ l;exact⟨(by have:=h.1.take hn (show(JH l).length<=n by omega);rw[<-Dh]at this;exact this),rfl,(by show(JH l).length<=c;omega)⟩)
theorem Qx.fix{w0:World}{F0:Gs}{bs1:List (Nat×Obj)}{G:Gs->Prop}{sz:Nat}{v:Value}(hr:Qx T sz v n cs ob):
  ∃r:Sr,v=r.v/\r.n=n/\n<=r.cap/\∀w,St ⟨w0,F0,bs1++ob,G⟩ w->St ⟨w0,F0,bs1,λF=>G F/\Qy F r.q n sz cs⟩ w:=by
 cases hr with
 |nil=>exact⟨⟨bX,0,0⟩,rfl,rfl,ay _,λw hw=>by
   have:=hw.BY (G':=λF=>G F/\Qy F bX 0 sz []) (λF h=>⟨h,Qy.nil F bX sz⟩)
   simpa using this⟩
 |some h1 h2 h3 h4 =>
  rename_i b cap rest
  refine⟨⟨fV ⟨b,0,bX⟩,n,cap⟩,rfl,rfl,h3,λw hw=>?_⟩
  have:=St.freeze (pre:=bs1) (post:=[]) (b:=b) hw
  rw[bJ]at this
  refine this.BY λF h=>⟨h.1,h1,λ_=>⟨b,0,_,T,rfl,h.2,λj u hu=>?_⟩⟩
  have hj:j<cs.length:=by rcases aN j cs.length with g | g;exact g;rw[aG g]at hu;cases hu
  rw[aM]
  simp only[aq]
  rw[bw,if_pos hj];exact hu
theorem QCs{e:Exit}{m:Sl}{E E':Env}(h:∀w,St E w->St E' w)(k:Fin Q e N m E'):Fin Q e N m E:=λa w ha hw=>k a w ha (h w hw)
theorem Cy{r:Sr}{i:Nat}(hF:Fits F w)(hR:J7 F r l)(hi:i<=1000000000):Qe Tryz.prog 299 [r.v,.int .i64 (i:Int)] w F (.int .i64 (l.getD i 0)):=by
 obtain⟨q,n,c⟩:=r
 have hn:=hR.2.1
 dsimp only at hn
 refine QS.intro (G:=λF=>J7 F ⟨q,n,c⟩ l) Tryz.func299 rfl wc rfl rfl hF (λF' hF'=>hR.le hF') ?_
 dsimp only[Sr.v]
 refine wI<|wH I<|QG<|wJ I<|wE I<|QA (Qh I Q2)<|QA (QZ I I I)<|QE<|QC ?_
 refine QR I (λhc=>?_) (λhc=>?_)
 ·
  have hk1:i<l.length:=by have:=wM hc;omega
  refine XQ _ (λw F hF h=>h.1.ptr (by dsimp only;omega)) (λhq=>?_)
  obtain⟨qb,qo,hq⟩:=hq
  dsimp only at hq
  subst hq
  refine wJ I<|wE I<|QA (JG (i:=i) rfl rfl Q2 JR O)<|QA (Yg (n:=n) (sz:=1) (cs:=l.map JY) (u:=.int .i64 l[i]) I JR wj O (by simp[hk1,JY]))<|wH I<|QY ?_
  exact QV () I (wB I) (congrArg (au .i64) (by simp[hk1])) wh
 ·
  refine QQ<|QC<|wI<|wH I<|QY ?_
  exact QV () I (wB I) (congrArg (au .i64) (by have:=wN hc;simp[show l.length<=i by omega])) wh
def B9:Int:=1000000000
structure QHA(a b:List Int) where
 i:Nat
 out:List Int
 carry:Int
 v:Value
 ob:List (Nat×Obj)
 le:i<=max a.length b.length+1
 len:out.length=i
 dg:DG B9 out
 c0:0<=carry
 c1:carry<=1
 cz:max a.length b.length<i->carry=0
 h:dv B9 out+B9^i*carry=dv B9 (a.take i)+dv B9 (b.take i)
 hr:Qx 3 1 v out.length (out.map JY) ob
theorem V9(B:Int)(l:List Int)(n:Nat):dv B (l.take (n+1))=dv B (l.take n)+B^n*l.getD n 0:=by
 rcases aN n l.length with h | h
 ·rw[Hf B l n h];simp[h]
 ·rw[aD O,aD h];simp[h]
theorem QFy{c s:Int}(hl:out.length=i)(h:dv B9 out+B9^i*c=dv B9 (a.take i)+dv B9 (b.take i))(hs:s=a.getD i 0+b.getD i 0+c):
  dv B9 (out++[s%B9])+B9^(i+1)*(s / B9)=dv B9 (a.take (i+1))+dv B9 (b.take (i+1)):=by
 rw[Xl,hl,V9,V9,aZ,ef]
 have e:s%B9+B9*(s / B9)=s:=bY s B9
 have e2:B9^i*(s%B9)+B9^i*(B9*(s / B9))=B9^i*s:=by rw[<-bO,e]
 rw[e8,e2,hs,bO,bO]
 omega
abbrev Ly(P:Program)(f:FuncId)(args:List Value)(w:World)(F:Gs)(p:List Int->Prop):Prop:=QS P f args w F (λ(c:Sr×List Int)=>.slice c.1.q c.1.n c.1.cap) (λc F=>J7 F c.1 c.2/\DG B9 c.2/\p c.2)
structure QG6(a b:List Int) where
 k:Nat
 le:k<=a.length
 h:a.drop k=b.drop k
theorem xi{c:Code}{m:Sl}{E E':Env}(h:∀w,St E w->St E' w)(k:J P c Q N m E'):J P c Q N m E:=λa w ha hw=>k a w ha (h w hw)
theorem QDq{c c' d:Int}(hl:out.length=i)(h:dv B9 out+dv B9 (b.take i)=dv B9 (a.take i)+B9^i*c)(hd:d=a.getD i 0 - b.getD i 0 - c+B9*c'):
  dv B9 (out++[d])+dv B9 (b.take (i+1))=dv B9 (a.take (i+1))+B9^(i+1)*c':=by
 rw[Xl,hl,V9,V9,aZ,ef,hd,bO,bI,bI]
 omega
structure QFt(a b:List Int) where
 i:Nat
 out:List Int
 borrow:Int
 v:Value
 ob:List (Nat×Obj)
 le:i<=a.length
 len:out.length=i
 dg:DG B9 out
 c0:0<=borrow
 c1:borrow<=1
 h:dv B9 out+dv B9 (b.take i)=dv B9 (a.take i)+B9^i*borrow
 hr:Qx 3 1 v out.length (out.map JY) ob
theorem Kb.one{l:List Value}{v:Value}:∀ {n:Nat},n<l.length->Kb l n [v] (l.set n v):=by
 induction l with
 |nil=>intro n h;simp at h
 |cons x l ih =>
  intro n h
  cases n with
  |zero=>exact .here .nil
  |succ n=>exact .skip (ih (by simpa using h))
def EA(la lb:List Int)(i j:Nat)(x:Int)(o:List Int)(c:Int):Prop :=
 o.length=la.length+lb.length/\DG B9 o/\(∀p,i+lb.length<=p->Qf o p=0)/\(0<=c/\c<B9) /\
  dv B9 o+B9^(i+j)*c=dv B9 (la.take i)*dv B9 lb+B9^i*(x*dv B9 (lb.take j))
theorem Jh:(0:Int)<B9:=wa
theorem zA{x y o c:Int}(hx:0<=x/\x<B9)(hy:0<=y/\y<B9)(ho:0<=o/\o<B9)(hc:0<=c/\c<B9):0<=x*y/\x*y<=999999998000000001/\0<=o+x*y+c/\(o+x*y+c) / B9<B9:=by
 have h9:B9=1000000000:=rfl
 have h0:=hJ hx.1 hy.1
 have h1:x*y<=(B9 - 1)*(B9 - 1):=eT O O hy.1 O
 generalize x*y=m at *
 have q:=h9 ▸ hx.2
 generalize hB:B9=B at *
 subst h9
 omega
theorem EA.step{la lb:List Int}{x c s:Int}(h:EA la lb i j x o c)(hx:0<=x/\x<B9)(hb:DG B9 lb)(hj:j<lb.length)(hi:i<la.length)(hs:s=Qf o (i+j)+x*Qf lb j+c):
  EA la lb i (j+1) x (o.set (i+j) (s%B9)) (s / B9):=by
 obtain⟨h1,h2,h3,h4,h5⟩:=h
 obtain⟨m0,m1,m2,m3⟩:=zA hx (hb.Qf Jh j) (h2.Qf Jh (i+j)) h4
 rw[<-hs]at m2 m3
 refine⟨by simpa using h1,h2.set _ (fT _ wa) (fD _ Jh),?_,⟨Int.ediv_nonneg m2 wa,m3⟩,?_⟩
 ·intro p hp
  rw[GX O,if_neg O];exact h3 p hp
 ·rw[DO B9 O,Wy,<-bQ,aZ]
  have e0:s%B9+B9*(s / B9)=s:=bY s B9
  generalize s%B9=lo at *
  generalize s / B9=hi at *
  have e:B9^(i+j)*(lo+B9*hi)=B9^(i+j)*(Qf o (i+j)+x*Qf lb j+c):=by rw[e0,hs]
  rw[eL]at *
  generalize B9^i=u at *
  generalize B9^j=v at *
  generalize B9=B at *
  grind
theorem EA.row{la lb:List Int}{x c:Int}(h:EA la lb i lb.length x o c)(hi:i<la.length)(hx:x=Qf la i):
  EA la lb (i+1) 0 0 (o.set (i+lb.length) c) 0:=by
 obtain⟨h1,h2,h3,h4,h5⟩:=h
 refine⟨by simpa using h1,h2.set _ h4.1 h4.2,?_,⟨bP _,Jh⟩,?_⟩
 ·intro p hp
  rw[GX O,if_neg O];exact h3 p O
 ·rw[DO B9 O,h3 _ (ay _),Wy,<-hx]
  rw[aw]at h5
  simp only[fh,iv,Int.zero_mul,Int.sub_zero]
  rw[h5]
  generalize B9^i=u at *
  generalize B9=B at *
  grind
theorem EA.start(la lb:List Int):EA la lb 0 0 0 (aS (la.length+lb.length) 0) 0:=by
 refine⟨we,DG.replicate Jh _,?_,⟨bP _,Jh⟩,by rw[SY];simp⟩
 intro p _;unfold Qf;split<;>simp
theorem EA.next{la lb:List Int}(h:EA la lb i 0 0 o 0)(x:Int):EA la lb i 0 x o 0:=by
 obtain⟨h1,h2,h3,h4,h5⟩:=h
 exact⟨h1,h2,h3,h4,by simpa using h5⟩
theorem UX(h:k<o.length):(o.map JY)[0+k*1]?=some (.int .i64 (Qf o k)):=by
 rw[Zx h];simp[h,JY]
theorem XR(h:k<o.length):(o.map JY)[k*1]?=some (.int .i64 (Qf o k)):=by
 rw[Zx h];simp[h,JY]
theorem S7(h:k<o.length)(x:Int):Kb (o.map JY) (0+k*1) [.int .i64 x] ((o.set k x).map JY):=by
 have:=Kb.one (l:=o.map JY) (n:=0+k*1) (v:=.int .i64 x) (by simpa using h)
 simpa[List.map_set,JY]using this
structure QGt(a b:List Int) where
 i:Nat
 o:List Int
 le:i<=a.length
 h:EA a b i 0 0 o 0
structure QGs(a b:List Int)(i:Nat) where
 j:Nat
 o:List Int
 c:Int
 le:j<=b.length
 h:EA a b i j (Qf a i) o c
structure QG4(a:List Int)(d:Int) where
 k:Nat
 o:List Int
 r:Int
 le:k<=a.length
 len:o.length=a.length
 dg:DG B9 o
 r0:0<=r
 r1:r<d
 h:dv B9 (a.drop k)=d*dv B9 (o.drop k)+r
theorem QEi{v:List Int}{r:Int}(h:Wv B9 u v n)(t0:0<=t)(e:t*Qf v (n+1)+r=Qf u (n+2)*B9+Qf u (n+1))(hc:r*B9+Qf u n<t*Qf v n):dv B9 u<t*dv B9 v:=by
 obtain⟨a1,a2,a3⟩:=Yq (b:=B9) wa h.hu h.lu
 obtain⟨b1,b2,b3⟩:=VN (b:=B9) wa h.hv h.lv
 rw[a1,b1]
 refine SE b2 a3 (pow_pos Jh n) t0 ?_
 rw[<-e]
 generalize B9=B at *
 grind
theorem QFx{v:List Int}(h:Wv B9 u v n)(ht:B9<=t):dv B9 u<t*dv B9 v:=by
 have h0:=Q8 (b:=B9) wa h.hv
 have h1:B9*dv B9 v<=t*dv B9 v:=aB ht h0
 have:=h.lt
 omega
theorem QCl{v:List Int}(h:Wv B9 u v n)(t0:0<=t)(ht:Qf u (n+2)*B9+Qf u (n+1)<(t+1)*Qf v (n+1)):dv B9 u<(t+1)*dv B9 v:=by
 obtain⟨a1,a2,a3⟩:=Yq (b:=B9) wa h.hu h.lu
 obtain⟨b1,b2,b3⟩:=VN (b:=B9) wa h.hv h.lv
 rw[a1,b1]
 refine SE b2 a3 (pow_pos Jh n) O ?_
 have d1:=h.hu.Qf Jh n
 have d2:=h.hv.Qf Jh n
 have e1:0<=(t+1)*Qf v n:=hJ O d2.1
 have e2:(Qf u (n+2)*B9+Qf u (n+1)+1)*B9<=(t+1)*Qf v (n+1)*B9:=aB O wa
 generalize B9=B at *
 generalize Qf u (n+2)=u0 at *
 generalize Qf u (n+1)=u1 at *
 generalize Qf u n=u2 at *
 generalize Qf v (n+1)=v1 at *
 generalize Qf v n=v2 at *
 grind
theorem QCm{v:List Int}{r:Int}(h:Wv B9 u v n)(t0:0<=t)(t1:t<B9)(e:t*Qf v (n+1)+r=Qf u (n+2)*B9+Qf u (n+1))(hc:t*Qf v n<=r*B9+Qf u n):(t - 1)*dv B9 v<=dv B9 u:=by
 obtain⟨a1,a2,a3⟩:=Yq (b:=B9) wa h.hu h.lu
 obtain⟨b1,b2,b3⟩:=VN (b:=B9) wa h.hv h.lv
 rw[a1,b1]
 have d2:=h.hv.Qf Jh n
 have d3:1*B9<=Qf v (n+1)*B9:=aB (by have:=h.nz;omega) wa
 refine Iy (pow_pos Jh n) b3 a2 t0 ?_ O b2
 rw[<-e]
 generalize B9=B at *
 grind
theorem WY(h:k<o.length):(o.map JY++rest)[0+k*1]?=some (.int .i64 (Qf o k)):=by
 rw[bw,if_pos wg];exact UX h
theorem pI{l vs l':List Value}(h:Kb l n vs l'):Kb (l++rest) n vs (l'++rest):=by
 induction h with
 |nil=>exact .nil
 |here h ih=>exact .here ih
 |skip h ih=>exact .skip ih
theorem DX(h:k<o.length)(x:Int):Kb (o.map JY++rest) (0+k*1) [.int .i64 x] ((o.set k x).map JY++rest):=pI (S7 h x)
def zK(u v:List Int)(t:Int):Prop:=0<=t/\t<B9/\(t - 1)*dv B9 v<=dv B9 u/\dv B9 u<(t+1)*dv B9 v
structure GuI(u v:List Int)(m:Nat) where
 t:Int
 r:Int
 t0:0<=t
 r0:0<=r
 r1:r<B9
 t2:t<=1000000000000000000
 e:t*Qf v (m+1)+r=Qf u (m+2)*B9+Qf u (m+1)
 h:dv B9 u<(t+1)*dv B9 v
theorem qX{U:List Int}(h:k<m):Qf ((U.drop j).take m) k=Qf U (j+k):=by
 by_cases g:j+k<U.length
 ·rw[Zx wg,Zx g];simp
 ·rw[Bc wg,Bc O]
theorem uX{v:List Int}{r:Int}(h:Wv B9 u v n)(t0:0<=t)(e:t*Qf v (n+1)+r=Qf u (n+2)*B9+Qf u (n+1))(hr:B9<=r)(hu:dv B9 u<(t+1)*dv B9 v):zK u v t:=by
 have ht:=h.top wa
 have d0:=h.hu.Qf Jh n
 have d1:=h.hu.Qf Jh (n+1)
 have d2:=h.hv.Qf Jh n
 have hn:=h.nz
 have e1:Qf u (n+2)*B9<=Qf v (n+1)*B9:=aB ht wa
 have t1:t<B9:=by
  refine Int.not_le.1 λhc=>?_
  have e2:B9*Qf v (n+1)<=t*Qf v (n+1):=aB hc O
  rw[aJ]at e2
  omega
 refine⟨t0,t1,QCm h t0 t1 e ?_,hu⟩
 have e3:t*Qf v n<=B9*B9:=eT O O d2.1 wa
 have e4:B9*B9<=r*B9:=aB hr wa
 omega
end Go.Proofs.YtjcphjpkimmmjaaGreatDoor
namespace Ig
structure Lg(b:Int)(U v:List Int)(j:Nat)(t:Int)(i:Nat)(U':List Int)(br:Int):Prop where
 len:U'.length=U.length
 dg:DG b U'
 lo:U'.take j=U.take j
 hi:U'.drop (j+i)=U.drop (j+i)
 br0:0<=br
 br1:br<=b
 h:dv b U'+b^j*(t*dv b (v.take i))=dv b U+b^(j+i)*br
theorem Lg.start{b:Int}(hb:0<=b){U v:List Int}(hU:DG b U)(j:Nat)(t:Int):Lg b U v j t 0 U 0 :=
 ⟨rfl,hU,rfl,rfl,bP _,hb,we⟩
theorem vY{l:List Int}{p k:Nat}:Qf (l.drop p) k=Qf l (p+k):=by
 by_cases g:p+k<l.length
 ·rw[Zx wg,Zx g];simp
 ·rw[Bc wg,Bc O]
theorem VA{l m:List Int}{p q:Nat}(h:l.drop p=m.drop p)(hq:p<=q):Qf l q=Qf m q:=by
 have:=congrArg (λx=>Qf x (q - p)) h
 simp only[vY]at this
 rw[show p+(q - p)=q by omega]at this;exact this
theorem Lg.step{b:Int}{U v U':List Int}{j i:Nat}{t br x br':Int}(h:Lg b U v j t i U' br)(hj:j+i<U.length)
  (hx:0<=x/\x<b) (hbr:br'<=b/\0<=br') (e:x - b*br'=Qf U (j+i) - (t*Qf v i+br)):Lg b U v j t (i+1) (U'.set (j+i) x) br':=by
 obtain⟨h1,h2,h3,h4,h5,h6,h7⟩:=h
 have hd:Qf U' (j+i)=Qf U (j+i):=VA h4 (ay _)
 refine⟨by simpa using h1,h2.set _ hx.1 hx.2,?_,?_,hbr.2,hbr.1,?_⟩
 ·rw[aR O];exact h3
 ·rw[bK O,<-bQ,<-aT,h4,aT]
 ·rw[DO b O,hd,Wy,<-bQ,aZ]
  have e':b^(j+i)*(x - b*br')=b^(j+i)*(Qf U (j+i) - (t*Qf v i+br)):=by rw[e]
  rw[eL]at *
  generalize b^i=p at *
  generalize b^j=q at *
  grind
structure Lf(b:Int)(U v:List Int)(j n:Nat)(t:Int)(U':List Int)(top:Int):Prop where
 len:U'.length=U.length
 dg:DG b (U'.set (j+n) 0)
 lo:U'.take j=U.take j
 hi:U'.drop (j+n+1)=U.drop (j+n+1)
 tp:Qf U' (j+n)=top
 h:dv b U'=dv b U - b^j*(t*dv b v)
theorem Zl(b:Int)(l:List Int)(j:Nat):dv b l=dv b (l.take j)+b^j*dv b (l.drop j):=by
 by_cases h:j<=l.length
 ·exact Ve b l j h
 ·rw[aD O,ao O];simp
theorem Lf.part{b:Int}(hb:0<b){U v U':List Int}{j n:Nat}{t top:Int}(h:Lf b U v j n t U' top):dv b (U'.drop j)=dv b (U.drop j) - t*dv b v:=by
 have e:=h.h
 rw[Zl b U' j,Zl b U j,h.lo]at e
 have hp:=pow_pos hb j
 have e2:b^j*dv b (U'.drop j)=b^j*(dv b (U.drop j) - t*dv b v):=by
  rw[bI];generalize b^j*dv b (U'.drop j)=x at *;generalize b^j*dv b (U.drop j)=y at *;omega
 exact eX O e2
theorem NP{l:List Int}{j n:Nat}(h:j+n<l.length):l.drop j=(l.drop j).take n++Qf l (j+n)::l.drop (j+n+1):=by
 have e:(l.drop j).drop n=Qf l (j+n)::l.drop (j+n+1):=by
  rw[aT,XZ h]
 rw[<-e,aE]
theorem jn{b:Int}(hb:1<b){U:List Int}{k n:Nat}(hU:DG b U)(h:dv b (U.drop k)<b^n):dv b (U.drop (k+n))=0:=by
 have e:=Zl b (U.drop k) n
 rw[aT]at e
 have h1:=Q8 (b:=b) O ((hU.drop k).take n)
 have h2:=Q8 (b:=b) O (hU.drop (k+n))
 have hp:=pow_pos (b:=b) O n
 rcases bG 0 (dv b (U.drop (k+n)))with g | g
 ·have:b^n*1<=b^n*dv b (U.drop (k+n)):=ah O O
  rw[iD]at this;omega
 ·omega
theorem Lf.sign{b:Int}(hb:1<b){U v U':List Int}{j n:Nat}{t top:Int}(h:Lf b U v j n t U' top)(hz:dv b (U.drop (j+n+1))=0)(hj:j+n<U.length):
  ∃lo,0<=lo/\lo<b^n/\dv b (U'.drop j)=lo+b^n*top:=by
 have hlen:=h.len
 have hw:=NP (l:=U') (j:=j) (n:=n) O
 refine⟨dv b ((U'.drop j).take n),?_,?_,?_⟩
 ·have:DG b ((U'.drop j).take n):=by
   have:=((h.dg.drop j).take n)
   rw[eb,if_neg O,bf,aR (ay _)]at this;exact this
  exact Q8 O this
 ·have:DG b ((U'.drop j).take n):=by
   have:=((h.dg.drop j).take n)
   rw[eb,if_neg O,bf,aR (ay _)]at this;exact this
  have h2:=KE (by omega:0<b) this
  rw[show((U'.drop j).take n).length=n by simp;omega]at h2;exact h2
 ·have e:=congrArg (dv b) hw
  rw[Z4,KV,h.hi,hz,h.tp,show((U'.drop j).take n).length=n by simp;omega]at e
  simpa using e
theorem Lf.QEo{b:Int}(hb:1<b){U v U':List Int}{j n:Nat}{t top:Int}(h:Lf b U v j n t U' top)(hj:j+n<U.length)(h0:0<=top)(ht:top<b)
  (g:dv b (U.drop j)<(t+1)*dv b v):DG b U'/\dv b (U'.drop j)<dv b v/\dv b U'=dv b U - b^j*(t*dv b v):=by
 have hp:=h.part O
 refine⟨?_,?_,h.h⟩
 ·have e:U'=(U'.set (j+n) 0).set (j+n) top:=by
   rw[List.set_set]
   have:=h.tp
   rw[Zx (by rw[h.len];exact hj)]at this
   rw[<-this,List.set_getElem_self]
  rw[e];exact h.dg.set _ h0 ht
 ·rw[hp];rw[bF,bj]at g;omega
structure NA(b:Int)(U v:List Int)(j n i:Nat)(U':List Int)(c:Int):Prop where
 len:U'.length=U.length
 dg:DG b (U'.set (j+n) 0)
 lo:U'.take j=U.take j
 hi:U'.drop (j+i)=U.drop (j+i)
 c0:0<=c
 c1:c<=1
 h:dv b U'+b^(j+i)*c=dv b U+b^j*dv b (v.take i)
theorem NA.start{b:Int}{U v:List Int}{j n:Nat}(hU:DG b (U.set (j+n) 0)):NA b U v j n 0 U 0 :=
 ⟨rfl,hU,rfl,rfl,bP _,O,we⟩
theorem NA.step{b:Int}{U v U':List Int}{j n i:Nat}{c x c':Int}(h:NA b U v j n i U' c)(hi:i<n)(hj:j+n<U.length)
  (hx:0<=x/\x<b) (hc:0<=c'/\c'<=1) (e:x+b*c'=Qf U (j+i)+Qf v i+c):NA b U v j n (i+1) (U'.set (j+i) x) c':=by
 obtain⟨h1,h2,h3,h4,h5,h6,h7⟩:=h
 have hd:Qf U' (j+i)=Qf U (j+i):=VA h4 (ay _)
 refine⟨by simpa using h1,?_,?_,?_,hc.1,hc.2,?_⟩
 ·rw[List.set_comm _ _ O];exact h2.set _ hx.1 hx.2
 ·rw[aR O];exact h3
 ·rw[bK O,<-bQ,<-aT,h4,aT]
 ·rw[DO b O,hd,Wy,<-bQ,aZ]
  have e':b^(j+i)*(x+b*c')=b^(j+i)*(Qf U (j+i)+Qf v i+c):=by rw[e]
  rw[eL]at *
  generalize b^i=p at *
  generalize b^j=q at *
  grind
theorem NA.Qf{b:Int}(hb:1<b){U v U':List Int}{j n i:Nat}{c:Int}(h:NA b U v j n i U' c)(hi:i<n):0<=Qf U' (j+i)/\Qf U' (j+i)<b:=by
 have:=h.dg.Qf O (j+i)
 by_cases g:j+n<U'.length
 ·rw[GX g,if_neg O]at this;exact this
 ·rw[List.set_eq_of_length_le O]at this;exact this
theorem NA.QEo{b:Int}(hb:1<b){U v U1 U':List Int}{j n:Nat}{t top c:Int}(h:NA b U1 v j n n U' c)(hs:Lf b U v j n t U1 top)(hU:DG b U)(hv:DG b v)(hn:v.length=n)(hz:dv b (U.drop (j+n+1))=0)(hj:j+n<U.length)(h0:top<0)
  (g:(t - 1)*dv b v<=dv b (U.drop j)):DG b (U'.set (j+n) (top+c))/\dv b ((U'.set (j+n) (top+c)).drop j)<dv b v/\dv b (U'.set (j+n) (top+c))=dv b U - b^j*((t - 1)*dv b v)/\0<=t - 1/\(U'.set (j+n) (top+c)).length=U.length:=by
 obtain⟨lo,l0,l1,l2⟩:=hs.sign hb hz hj
 have hp:=hs.part O
 have hlen:=hs.len
 obtain⟨a1,a2,a3,a4,a5,a6,a7⟩:=h
 have hd:Ig.Qf U' (j+n)=top:=by rw[VA a4 (ay _),hs.tp]
 rw[aD O]at a7
 have hv0:=Q8 (b:=b) O hv
 have hv1:=KE (b:=b) O hv
 rw[hn]at hv1
 have hB:=pow_pos (b:=b) O n
 have hw:dv b (U'.set (j+n) (top+c))=dv b U - b^j*((t - 1)*dv b v):=by
  rw[DO b O,hd]
  have e:=hs.h
  generalize b^(j+n)=p at *
  generalize b^j=q at *
  grind
 have hlo:(U'.set (j+n) (top+c)).take j=U.take j:=by
  rw[aR O,a3,hs.lo]
 have hpart:dv b ((U'.set (j+n) (top+c)).drop j)=dv b (U.drop j) - (t - 1)*dv b v:=by
  have e:=hw
  rw[Zl b _ j,Zl b U j,hlo]at e
  have hq:=pow_pos (b:=b) O j
  have e2:b^j*dv b ((U'.set (j+n) (top+c)).drop j)=b^j*(dv b (U.drop j) - (t - 1)*dv b v):=by
   rw[bI];generalize b^j*dv b ((U'.set (j+n) (top+c)).drop j)=x at *;generalize b^j*dv b (U.drop j)=y at *;omega
  exact eX O e2
 have hneg:dv b (U1.drop j)<0:=by
  rw[l2]
  have:b^n*top<=b^n*(-1):=ah O O
  omega
 have hlt:dv b ((U'.set (j+n) (top+c)).drop j)<dv b v:=by
  rw[hpart,Int.sub_mul,bj];omega
 have hge:0<=dv b ((U'.set (j+n) (top+c)).drop j):=by rw[hpart];omega
 have hsd:dv b ((U'.set (j+n) (top+c)).drop j)=dv b ((U'.drop j).take n)+b^n*(top+c):=by
  have hw2:=congrArg (dv b) (NP (l:=U'.set (j+n) (top+c)) (j:=j) (n:=n) wg)
  have e3:(U'.set (j+n) (top+c)).drop (j+n+1)=U'.drop (j+n+1):=bK O
  rw[Z4,KV,GX (show j+n<U'.length by omega),if_pos rfl,e3]at hw2
  have:dv b (U'.drop (j+n+1))=0:=by
   rw[<-aT,a4,aT,hs.hi];exact hz
  have e2:((U'.set (j+n) (top+c)).drop j).take n=(U'.drop j).take n:=by
   rw[eb,if_neg O,bf,aR (ay _)]
  rw[this,e2,show((U'.drop j).take n).length=n by simp;omega]at hw2
  simpa using hw2
 have hdg:DG b ((U'.drop j).take n):=by
  have:=((a2.drop j).take n)
  rw[eb,if_neg O,bf,aR (ay _)]at this;exact this
 have d0:=Q8 (b:=b) O hdg
 have d1:=KE (b:=b) O hdg
 rw[show((U'.drop j).take n).length=n by simp;omega]at d1
 have ht0:top+c=0:=by
  rw[hsd]at hlt hge
  have q1:¬1<=top+c:=λq=>by
   have:b^n*1<=b^n*(top+c):=ah q O
   omega
  have q2:¬top+c<=-1:=λq=>by
   have:b^n*(top+c)<=b^n*(-1):=ah q O
   omega
  omega
 refine⟨?_,hlt,hw,?_,wg⟩
 ·rw[ht0];exact a2
 ·rcases bG (t - 1) 0 with q | q
  ·exfalso
   have u0:=Q8 (b:=b) O (hU.drop j)
   have:t*dv b v<=0:=Int.mul_nonpos_of_nonpos_of_nonneg O hv0
   omega
  ·exact q
end Ig
namespace Go.Proofs.YtjcphjpkimmmjaaGreatDoor
variable{s:List UInt8}{N c cap i j k m n:Nat}{w:World}{F F':Gs}{t z:Int}{T et kt:TypeId}{x y:Operand}{g:FuncId}{a b l o out u:List Int}{ob:List (Nat×Obj)}{cs rest:List Value}{Q:Exit->Act->World->Prop}{P:Program}{α ι:Type}{f:Rat->Rat->Rat}{seen:List Nat}
open Go.RowKit Ig
def el{α:Type}[Inhabited α](l:List α)(i:Nat):α:=l.getD i default
theorem JK[Inhabited α]{l:List α}{i:Nat}(h:i<l.length):el l i=l[i]:=by simp[el,h]
theorem Q4[Inhabited α]{l:List α}{i:Nat}(h:i<l.length):el l i∈l:=by rw[JK h];exact eE h
theorem Jm[Inhabited α]{f:α->List Value}{k:Nat}(hf:∀x,(f x).length=k){l:List α}{i j:Nat}{u:Value}(h:i<l.length)(hj:(f (el l i))[j]?=some u):(l.flatMap f)[i*k+j]?=some u:=by
 have hlt:j<k:=by
  rcases aN j k with g | g
  ·exact g
  ·rw[aG (by rw[hf];exact g)]at hj;cases hj
 rw[qP hf l i j h hlt,<-JK h];exact hj
theorem X8[Inhabited α]{f:α->Value}{l:List α}{i:Nat}(h:i<l.length):(l.map f)[i*1]?=some (f (el l i)):=by
 rw[Nat.mul_one,ew,ak h,JK h];rfl
theorem XN[Inhabited α]{l:List α}{i:Nat}(h:i<l.length):l.take (i+1)=l.take i++[el l i]:=by
 rw[aX h,JK h]
theorem DC[Inhabited α]{l:List α}{i:Nat}(h:i<l.length):l.drop i=el l i::l.drop (i+1):=by
 rw[List.drop_eq_getElem_cons h,JK h]
theorem KD(h:i<l.length):Qf l i=el l i:=by rw[Zx h,JK h]
def QBM(q:Option Addr):Nat:=(q.getD ⟨0,0,none⟩).block
def QBL(q:Option Addr):Nat:=(q.getD ⟨0,0,none⟩).off
section
variable[Dr][df:Df]{P:Program}{Q:Exit->Act->World->Prop}{N:Nat}{m:Sl}{E E0:Env}{ops:Array Oper}{l:List Oper}{w0:World}{F0:Gs}{bs:List (Nat×Obj)}{G:Gs->Prop}{ty:TypeId}
theorem Q9{e:TypeId}{q:Option Addr}{sz sz':Nat}{g:Bool}(i:Nat)(hr:∀F,G F->Qy F q n sz' cs)(hx:ev m x=some (.slice q n c))(hy:ev m y=some (.int .i64 (i:Int)))(hT:Hr P T=some e)(hs:YW P e=some (g,sz))(hi:i<n):
  Qt P N m (St ⟨w0,F0,bs,G⟩) (.indexAddr T x y) ty (.pointer (some ⟨QBM q,QBL q+i*sz,none⟩)):=λa w _ _ _ _ ha hw=>by
 obtain⟨F,hF⟩:=id hw
 obtain⟨b,off,rfl⟩:=(hr F hF.hG).ptr O
 exact JG hx hy hT hs hi a w _ _ _ _ ha hw
theorem Jd{q:Option Addr}{sz:Nat}(j:Nat){u:Value}(hr:∀F,G F->Qy F q n sz cs)(hn:0<n)(hx:ev m x=some (.pointer (some ⟨QBM q,QBL q+j,none⟩)))(ht:YW P T=some (false,k))(hu:cs[j]?=some u):
  Qt P N m (St ⟨w0,F0,bs,G⟩) (.load T x) ty u:=λa w _ _ _ _ ha hw=>by
 obtain⟨F,hF⟩:=id hw
 obtain⟨b,off,rfl⟩:=(hr F hF.hG).ptr hn
 exact Yg hx ht hr hn hu a w _ _ _ _ ha hw
theorem Ja{q:Option Addr}{sz:Nat}{vs:List Value}(j:Nat)(hr:∀F,G F->Qy F q n sz cs)(hn:0<n)(hx:ev m x=some (.pointer (some ⟨QBM q,QBL q+j,none⟩)))(ht:YW P T=some (true,k))(hl:vs.length=k)(hu:∀i v,vs[i]?=some v->cs[j+i]?=some v):
  Qt P N m (St ⟨w0,F0,bs,G⟩) (.load T x) ty (.agg vs.toArray):=λa w _ _ _ _ ha hw=>by
 obtain⟨F,hF⟩:=id hw
 obtain⟨b,off,rfl⟩:=(hr F hF.hG).ptr hn
 exact jU hx ht hr hn hl hu a w _ _ _ _ ha hw
theorem KP.append{m:Sl}:∀ {k l:Sl},KP m k->KP m l->KP m (k++l)
 |[],_,_,h=>h
 |(_,_)::_,_,⟨h1,h2⟩,h=>⟨h1,KP.append h2 h⟩
theorem JU{c:Code}(K:Sl)(M:ι->Sl)(B:ι->List (Nat×Obj))(R:ι->Gs->Prop)(μ:ι->Nat)(i0:ι)
  (hk:KP m K) (hm:KP m (M i0)) (hb:(B i0).Sublist bs) (hg:∀F,G F->R i0 F)
  (round:∀i,J P c (Exit.then (qu N w0 F0 (λi=>K++M i) B (λi F=>G F/\R i F) μ i) Q) N (K++M i) ⟨w0,F0,B i,λF=>G F/\R i F⟩):J P (.loop c) Q N m ⟨w0,F0,bs,G⟩ :=
 Zy (λi=>K++M i) B (λi F=>G F/\R i F) μ i0 (hk.append hm) hb (λF h=>⟨h,hg F h⟩) round
theorem ZK{c:Code}(K:Sl)(M:ι->Sl)(μ:ι->Nat)(i0:ι)(hk:KP m K)(hm:KP m (M i0))
  (round:∀i,J P c (Exit.then (qu N w0 F0 (λi=>K++M i) (λ_=>bs) (λ_=>G) μ i) Q) N (K++M i) ⟨w0,F0,bs,G⟩):J P (.loop c) Q N m ⟨w0,F0,bs,G⟩ :=
 Zy (λi=>K++M i) (λ_=>bs) (λ_=>G) μ i0 (hk.append hm) wK wi round
theorem YV{x y:Code}(K M:Sl)(hk:KP m K)(h1:J P x (X9 (λa w=>JP N (K++M) a/\St ⟨w0,F0,bs,G⟩ w)) N m ⟨w0,F0,bs,G⟩)(h2:J P y Q N (K++M) ⟨w0,F0,bs,G⟩):J P (.seq x y) Q N m ⟨w0,F0,bs,G⟩ :=
 QAv _ _ _ h1 h2
theorem Lx{x y:Code}(K:Sl)(M:ι->Sl)(B:ι->List (Nat×Obj))(R:ι->Gs->Prop)(hk:KP m K)(h1:J P x (X9 (λa w=>∃i,JP N (K++M i) a/\St ⟨w0,F0,B i,λF=>G F/\R i F⟩ w)) N m ⟨w0,F0,bs,G⟩)
  (h2:∀i,J P y Q N (K++M i) ⟨w0,F0,B i,λF=>G F/\R i F⟩):J P (.seq x y) Q N m ⟨w0,F0,bs,G⟩ :=
 Bn (λi=>K++M i) B (λi F=>G F/\R i F) h1 h2
end
theorem SH:(1:Int)<B9:=wa
theorem jd(db:DG B9 b)(zb:NZ b)(hn:b.length=n+1):1<=Qf b n/\1<=B9 / (Qf b n+1)/\B9 / (Qf b n+1)<B9/\B9 / (Qf b n+1)*(Qf b n+1)<=B9:=by
 have hd:=db.Qf Jh n
 have h1:1<=Qf b n:=by
  have hlt:n<b.length:=O
  have:Qf b n≠0:=by
   intro e
   refine zb ?_
   rw[List.getLast?_eq_getElem?,hn,fC,ak hlt]
   rw[Zx hlt]at e;rw[e]
  omega
 have h9:B9=1000000000:=rfl
 refine⟨h1,?_,?_,Int.ediv_mul_le _ O⟩
 ·exact(Int.le_ediv_iff_mul_le O).2 O
 ·exact Int.ediv_lt_of_lt_mul O (by rw[bO];have:B9*1<=B9*Qf b n:=ah h1 O;omega)
theorem QBr{b:Int}(hb:0<b){U:List Int}{k:Nat}(hU:DG b U):b^k*dv b (U.drop k)<=dv b U:=by
 rw[Zl b U k]
 have:=Q8 hb (hU.take k)
 omega
structure N2(a v:List Int)(f:Int)(n:Nat) where
 k:Nat
 U:List Int
 Q:List Int
 le:k+n<=a.length+1
 lu:U.length=a.length+1
 lq:Q.length=a.length+1 - n
 du:DG B9 U
 dq:DG B9 Q
 lt:dv B9 (U.drop k)<dv B9 v
 h:dv B9 a*f=dv B9 v*(B9^k*dv B9 (Q.drop k))+dv B9 U
def N2.start{a b v U:List Int}{f:Int}{n:Nat}(da:DG B9 a)(db:DG B9 b)(zb:NZ b)(hn:b.length=n+1)(hv:dv B9 v=dv B9 b*f)(h1:1<=f)(du:DG B9 U)(lu:U.length=a.length+1)(hU:dv B9 U=dv B9 a*f)(hl:n+1<=a.length+1):N2 a v f (n+1) where
 k:=a.length+1 - (n+1)
 U:=U
 Q:=aS (a.length+1 - (n+1)) 0
 le:=O
 lu:=lu
 lq:=we
 du:=du
 dq:=DG.replicate Jh _
 lt:=by
  have hb0:B9^n<=dv B9 b:=by
   have:=Nk Jh db zb (by intro e;rw[e]at hn;simp at hn)
   rw[hn,fC]at this;exact this
  have h2:=QBr Jh (k:=a.length - n) du
  have h3:=KE Jh da
  have h4:dv B9 a*f<B9^a.length*f:=Int.mul_lt_mul_of_pos_right h3 O
  have h5:B9^a.length*f=B9^(a.length - n)*(B9^n*f):=by rw[<-ef,<-eL];congr 2;omega
  rw[hU]at h2
  have h6:B9^(a.length - n)*dv B9 (U.drop (a.length - n))<B9^(a.length - n)*(B9^n*f):=O
  have h7:dv B9 (U.drop (a.length - n))<B9^n*f:=eW h6 (by have:=pow_pos Jh (a.length - n);omega)
  have h8:B9^n*f<=dv B9 b*f:=aB hb0 O
  rw[show a.length+1 - (n+1)=a.length - n by omega,hv]
  omega
 h:=by
  rw[ao we,j0,fh,fh,Int.zero_add,hU]
theorem N2.zero{v:List Int}{f:Int}(i:N2 a v f n)(dv':DG B9 v)(hv:v.length=n):dv B9 (i.U.drop (i.k+n))=0:=by
 have:=KE Jh dv'
 rw[hv]at this
 exact jn SH i.du (Int.lt_trans i.lt this)
theorem N2.dN{v:List Int}{f:Int}(i:N2 a v f (m+2))(dv':DG B9 v)(zv:0<Qf v (m+1))(hv:v.length=m+2)(hk:0<i.k):Wv B9 ((i.U.drop (i.k - 1)).take (m+3)) v m/\dv B9 (i.U.drop (i.k - 1))=dv B9 ((i.U.drop (i.k - 1)).take (m+3)):=by
 have hz:=i.zero dv' hv
 have hle:=i.le
 have hlu:=i.lu
 have e:dv B9 (i.U.drop (i.k - 1))=dv B9 ((i.U.drop (i.k - 1)).take (m+3)):=by
  have:=Zl B9 (i.U.drop (i.k - 1)) (m+3)
  rw[aT,show i.k - 1+(m+3)=i.k+(m+2) by omega,hz]at this
  simpa using this
 refine⟨⟨(i.du.drop _).take _,dv',wg,hv,zv,?_⟩,e⟩
 rw[<-e,XZ O,KV,show i.k - 1+1=i.k by omega]
 have hd:=i.du.Qf Jh (i.k - 1)
 have hlt:=i.lt
 have:B9*dv B9 (i.U.drop i.k)<=B9*(dv B9 v - 1):=ah O wa
 rw[bI,iD]at this
 omega
def N2.next{a v:List Int}{f:Int}{n:Nat}(i:N2 a v f n)(hk:0<i.k)(hn:0<n){U1:List Int}{t:Int}(t0:0<=t)(t1:t<B9)(h1:DG B9 U1)(h2:dv B9 (U1.drop (i.k - 1))<dv B9 v)(h3:dv B9 U1=dv B9 i.U - B9^(i.k - 1)*(t*dv B9 v))(h4:U1.length=i.U.length):N2 a v f n where
 k:=i.k - 1
 U:=U1
 Q:=i.Q.set (i.k - 1) t
 le:=by have:=i.le;omega
 lu:=by rw[h4,i.lu]
 lq:=by rw[aI,i.lq]
 du:=h1
 dq:=i.dq.set _ t0 t1
 lt:=h2
 h:=by
  have hle:=i.le
  have hlq:=i.lq
  rw[h3,XZ (l:=i.Q.set (i.k - 1) t) (by rw[aI];omega),KV,GX O,if_pos rfl,bK O,show i.k - 1+1=i.k by omega,i.h]
  have e:B9^i.k=B9^(i.k - 1)*B9:=by rw[<-aZ];congr 1;omega
  rw[e]
  generalize B9^(i.k - 1)=p
  generalize dv B9 (i.Q.drop i.k)=q
  generalize dv B9 i.U=u
  generalize dv B9 v=y
  generalize B9=B
  grind
theorem N2.stop{v:List Int}{f:Int}(i:N2 a v f n)(hk:i.k=0)(db:DG B9 b)(da:DG B9 a)(hv:dv B9 v=dv B9 b*f)(h1:1<=f)(hb:0<dv B9 b)(dv':DG B9 v)(lv:v.length=n):
  dv B9 i.Q=dv B9 a / dv B9 b/\dv B9 (i.U.take n)=f*(dv B9 a%dv B9 b):=by
 have h:=i.h
 have lt:=i.lt
 rw[hk,eO]at lt
 have hz:=i.zero dv' lv
 rw[hk,aM]at hz
 have e0:dv B9 (i.U.take n)=dv B9 i.U:=by
  rw[Zl B9 i.U n,hz];simp
 rw[hk,eO,Int.pow_zero,bj,hv]at h
 rw[hv]at lt
 have u0:=Q8 Jh i.du
 rw[e0]
 have e1:dv B9 i.U=f*(dv B9 a - dv B9 b*dv B9 i.Q):=by rw[bI];grind
 have lt2:f*(dv B9 a - dv B9 b*dv B9 i.Q)<f*dv B9 b:=by rw[<-e1,aJ f (dv B9 b)];exact lt
 have r1:dv B9 a - dv B9 b*dv B9 i.Q<dv B9 b:=eW lt2 O
 have r0:0<=dv B9 a - dv B9 b*dv B9 i.Q:=by
  rcases bG (dv B9 a - dv B9 b*dv B9 i.Q) 0 with g | g
  ·have:f*(dv B9 a - dv B9 b*dv B9 i.Q)<=f*(-1):=ah O O
   omega
  ·exact g
 have q:dv B9 a / dv B9 b=dv B9 i.Q:=ZN hb (by rw[aJ];omega) (by rw[bF,bj,aJ];omega)
 refine⟨q.symm,?_⟩
 rw[e1]
 have:=Int.emod_def (dv B9 a) (dv B9 b)
 rw[this,q]
section
variable[Dr][df:Df]{P:Program}{Q:Exit->Act->World->Prop}{N:Nat}{m:Sl}{ops:Array Oper}{l:List Oper}{w0:World}{F0:Gs}{bs:List (Nat×Obj)}{G:Gs->Prop}{ty:TypeId}{pos:String}{aft:Array Edge}
theorem ML{d:Nat}{t e:TypeId}{sz:Nat}{g:Bool}(ht:P.underlying t=some (.slice e))(hs:YW P e=some (g,sz))(k:∀b,JS P ops Q l N ((d,.slice (some ⟨b,0,none⟩) 0 0)::m) ⟨w0,F0,(b,.cells #[] e (0,0))::bs,G⟩)(hu:Gg e=true:=by rfl)(hd:J5 N (some d)=true:=by rfl):
  JS P ops Q (⟨some d,.buildSlice t 0 #[],ty,pos,aft,none⟩::l) N m ⟨w0,F0,bs,G⟩:=λa w ha hw=>wpList_plain rfl λK hK=>by
 refine upon_value (v:=.slice (some ⟨w.heap.size,0,none⟩) 0 0) (w':=w.alloc (.cells #[] e)) ?_ (hK _ _ (k _ _ _ (ha.put hd _) (hw.alloc _ (ZB hu))))
 have hrun:(fF t 0 #[]).run P w = .ok (.slice (some ⟨w.heap.size,0,none⟩) 0 0) (w.alloc (.cells #[] e)):=by
  have hf:iA (λi=>some (i*sz,sz)) (Array.map (λx=>(#[]:Array Value)[x%(#[]:Array Value).size]!) (Array.range 0)) []=some #[]:=by simp[iA]
  simp only[fF,iy,run_underlying ht,fw,VX hs,ff,if_neg (show ¬0>2^24 by omega),ix,if_true,hf,newRow,run_newObj]
  rfl
 simp[execOp,hrun]
theorem C2{e e':TypeId}{sz:Nat}{v:Value}{S:World->Prop}(hx:ev m x=some v)(hr:Qx e' sz v n cs ob)(hT:Hr P T=some e):Qt P N m S (.call ⟨.builtin .len,#[x],#[T]⟩) ty (.int .i64 n):=by
 cases hr with
 |nil=>exact Qh hx hT
 |some=>exact Qh hx hT
end
theorem J7.own{b:Nat}(h:F b=some ((l.map JY++rest).toArray,T))(hl:l.length=n)(hn:n<=c):J7 F ⟨some ⟨b,0,none⟩,n,c⟩ l:=by
 refine⟨⟨by simp[hl],λ_=>⟨b,0,_,T,rfl,h,λj u hu=>?_⟩⟩,hl,hn⟩
 have hj:j<(l.map JY).length:=by rcases aN j (l.map JY).length with g | g;exact g;rw[aG g]at hu;cases hu
 rw[aM,aq,bw,if_pos hj];exact hu
theorem J7.take{q:Option Addr}(h:J7 F ⟨q,n,c⟩ l)(hk:k<=n):J7 F ⟨q,k,c⟩ (l.take k):=by
 have hn:=h.2.1
 have hc:=h.2.2
 dsimp only at hn hc
 exact⟨h.1.take hn hk,wg,by show k<=c;omega⟩
theorem vV(x:Int):dv B9 [x]=x:=by simp[dv]
theorem cx{f x r:Int}(hf:0<f)(h:f*x=f*r+t)(h0:0<=t)(h1:t<f):r=x:=by
 have e:t=f*(x - r):=by rw[bI];omega
 rcases eB (x - r) 0 with g | g | g
 ·have:f*(x - r)<=f*(-1):=ah O O
  omega
 ·omega
 ·have:f*1<=f*(x - r):=ah O O
  omega
def QCt(a b:List Int)(c:(Sr×List Int)×(Sr×List Int))(F:Gs):Prop :=
 (J7 F c.1.1 c.1.2/\DG B9 c.1.2/\NZ c.1.2/\dv B9 c.1.2=dv B9 a / dv B9 b)/\(J7 F c.2.1 c.2.2/\DG B9 c.2.2/\NZ c.2.2/\dv B9 c.2.2=dv B9 a%dv B9 b)
theorem QCk(nb:b.length=1)(db:DG B9 b)(c:(Sr×List Int)×Int){k:Nat}
  (h:J7 F c.1.1 c.1.2/\DG B9 c.1.2/\NZ c.1.2/\0<=c.2/\c.2<Qf b 0/\dv B9 a=Qf b 0*dv B9 c.1.2+c.2/\c.1.2.length<=a.length) (h':J7 F ⟨some ⟨k,0,none⟩,(JH [c.2]).length,1⟩ (JH [c.2])) :
  QCt a b ((c.1.1,c.1.2),(⟨some ⟨k,0,none⟩,(JH [c.2]).length,1⟩,JH [c.2])) F:=by
 obtain⟨h1,h2,h3,h4,h5,h6,_⟩:=h
 have e:dv B9 b=Qf b 0:=by
  obtain⟨x,rfl⟩:=List.length_eq_one_iff.1 nb
  simp[dv,Qf]
 have b0:=db.Qf Jh 0
 refine⟨⟨h1,h2,h3,?_⟩,h',(DG.cons h4 O (DG.nil _)).JH,ZW _,?_⟩
 ·show dv B9 c.1.2=_
  rw[e];exact(ZN O (by rw[aJ];omega) (by rw[bF,bj,aJ];omega)).symm
 ·show dv B9 (JH [c.2])=_
  rw[Xe,vV,e,YY (q:=dv B9 c.1.2) (by rw[aJ];omega) (by rw[bF,bj,aJ];omega),aJ];omega
structure QHc(a:List Int)(f:Int) where
 U:List Int
 v:Value
 ob:List (Nat×Obj)
 le:U.length<=a.length+1
 du:DG B9 U
 h:dv B9 U=dv B9 a*f
 hr:Qx 3 1 v U.length (U.map JY) ob
structure QHb(U v:List Int)(j:Nat)(t:Int) where
 i:Nat
 U':List Int
 br:Int
 le:i<=v.length
 h:Lg B9 U v j t i U' br
structure QHl(U v:List Int)(j n:Nat) where
 i:Nat
 U':List Int
 c:Int
 le:i<=n
 h:NA B9 U v j n i U' c
structure Ri where
 neg:Bool
 r:Sr
 l:List Int
@[reducible] def Ri.v (x:Ri):Value:=.agg #[.bool x.neg,.slice x.r.q x.r.n x.r.cap]
def N6(neg:Bool)(l:List Int):Int:=if neg=true then -dv B9 l else dv B9 l
def H5(F:Gs)(x:Ri)(z:Int):Prop:=J7 F x.r x.l/\DG B9 x.l/\NZ x.l/\z=N6 x.neg x.l/\(x.neg=true->0<dv B9 x.l)
theorem H5.le{x:Ri}(h:H5 F x z)(k:Gs.le F F'):H5 F' x z:=⟨h.1.le k,h.2⟩
abbrev NJ(P:Program)(f:FuncId)(args:List Value)(w:World)(F:Gs)(z:Int):Prop:=QS P f args w F Ri.v (λx F=>H5 F x z)
structure Gv(neg:Bool)(l:List Int)(z:Int):Prop where
 dg:DG B9 l
 nz:NZ l
 e:z=N6 neg l
 ng:neg=true->0<dv B9 l
theorem H5.p{x:Ri}(h:H5 F x z):Gv x.neg x.l z:=⟨h.2.1,h.2.2.1,h.2.2.2.1,h.2.2.2.2⟩
theorem Gv.v0{neg:Bool}(h:Gv neg l z):0<=dv B9 l:=Q8 Jh h.dg
theorem Gv.abs{neg:Bool}(h:Gv neg l z):(z.natAbs:Int)=dv B9 l:=by
 have:=h.v0
 rw[h.e,N6];split<;>omega
theorem QGX(h:DG B9 l)(z:NZ l):l.length<=sz (dv B9 l):=by
 rcases aU l.length with g | g
 ·omega
 ·have h1:=Nk Jh h z (by intro e;rw[e]at g;simp at g)
  have h2:=DS (dv B9 l)
  have h3:=Q8 Jh h
  rcases aN (sz (dv B9 l)) l.length with q | q
  ·exfalso
   have h4:(2:Int)^(l.length - 1)<=B9^(l.length - 1):=by
    have:∀n:Nat,(2:Int)^n<=B9^n:=by
     intro n
     induction n with
     |zero=>simp
     |succ n ih =>
      rw[aZ,aZ]
      exact eT ih wa wa (Int.le_of_lt (pow_pos Jh n))
    exact this _
   have h5:(2:Int)^sz (dv B9 l)<=2^(l.length - 1):=X1 wa O
   have h6:((dv B9 l).natAbs:Int)<((2^sz (dv B9 l):Nat):Int):=Int.ofNat_lt.2 h2
   rw[Int.natCast_pow]at h6
   have:((2:Nat):Int)=2:=rfl
   rw[this]at h6
   omega
  ·exact q
theorem Gv.len{neg:Bool}(h:Gv neg l z):l.length<=sz z:=by
 have:=QGX h.dg h.nz
 have e:sz (dv B9 l)=sz z:=by
  rw[<-h.abs];unfold sz;simp
 omega
theorem Gv.neg{neg:Bool}(h:Gv neg l z):neg=decide (z<0):=by
 have h0:=h.v0
 cases neg with
 |true=>have:=h.ng I;have e:=h.e;simp only[N6,if_true]at e;symm;rw[decide_eq_true_eq];omega
 |false=>have e:=h.e;simp only[N6]at e;symm;rw[decide_eq_false_iff_not];simp at e;omega
theorem Gv.zero{neg:Bool}(h:Gv neg l z):l=[]↔z=0:=by
 have:=Vs SH h.dg h.nz
 have e:=h.abs
 rw[<-this];omega
theorem zX(h:DG B9 l):(0<(JH l).length)↔0<dv B9 l:=by
 have h1:=Vs SH h.JH (ZW l)
 rw[Xe]at h1
 have h2:=Q8 Jh h
 rw[<-eY]at h1
 omega
theorem WU{r:Sr}{neg:Bool}(hF:Fits F w)(hR:J7 F r l)(dg:DG B9 l)(hl:l.length<=1000000000):NJ Tryz.prog 194 [.bool neg,r.v] w F (N6 neg l):=by
 obtain⟨q,n,c⟩:=r
 have hn:=hR.2.1
 dsimp only[Sr.v]at hn ⊢
 have hlz:=YQ l
 have htp:=zX dg
 have hv0:=Q8 Jh dg
 refine QS.intro (G:=λF=>J7 F ⟨q,n,c⟩ l) Tryz.func194 rfl wc rfl rfl hF (λF' hF'=>hR.le hF')<|wI<|Qb K9 (λb4=>wG<|wJ rfl<|QI rfl (λw F hF hR=>PT hF (r:=⟨q,n,c⟩) hR (hl)) (λc6=>wH rfl<|wJ rfl<|wE rfl ?_))
 refine Q3 (t:=8) rfl (λhb8=>?_) (λhb8=>?_)
 ·
  refine QM I I<|wE I<|QM I I<|QA (Qh I Q2)<|QM I I<|QA (QZ I I I)<|QA (Qp I I I)<|wE I<|QA (Qv I y9 K9 (wD I I I))<|QO (vs:=[_,_]) I I I Jq I .here .h2 wP<|wG<|QY ?_
  exact QV ((⟨decide ((((JH l).length:Nat):Int)>0),⟨q,(JH l).length,c⟩,JH l⟩:Ri)) I (.JW (c:=[_,_]) I Jq .here .nil) (rfl) (λF ⟨hR,h6⟩=>⟨h6,dg.JH,ZW _,by show N6 neg l=N6 (decide ((((JH l).length:Nat):Int)>0)) (JH l);rw[N6,N6,Xe];cases neg<;>simp_all<;>omega,λhh=>by show 0<dv B9 (JH l);rw[Xe];simp_all⟩)
 ·
  refine Qc I I I<|Qc I I I<|Qc I I I<|QA (Qj I I I)<|wE I<|QA (Qv I y9 K9 (wD I I I))<|QO (vs:=[_,_]) I I I Jq I .here .h2 wP<|wG<|QY ?_
  exact QV ((⟨false,⟨q,(JH l).length,c⟩,JH l⟩:Ri)) I (.JW (c:=[_,_]) I Jq .here .nil) (rfl) (λF ⟨hR,h6⟩=>⟨h6,dg.JH,ZW _,by show N6 neg l=N6 false (JH l);rw[N6,N6,Xe];cases neg<;>simp_all<;>omega,λhh=>by show 0<dv B9 (JH l);rw[Xe];simp_all⟩)
theorem QAj{x y:Int}(h:¬YP x y>=0):x<=y:=by
 unfold YP at h;split at h
 ·omega
 ·split at h<;>omega
theorem QDL{a b:Int}(hb:0<b):(-a) / b=if 0<a%b then -(a / b+1)else -(a / b):=by
 have h1:=bY a b
 have h2:=fT a (Int.ne_of_gt hb)
 have h3:=fD a hb
 split
 ·refine ZN hb ?_ ?_
  ·rw[eM,bF,bj,aJ (a / b)];omega
  ·rw[bF,bj,eM,bF,bj,aJ (a / b)];omega
 ·refine ZN hb ?_ ?_
  ·rw[eM,aJ (a / b)];omega
  ·rw[bF,bj,eM,aJ (a / b)];omega
structure QHj(A B:Int) where
 ra:Sr
 rb:Sr
 a:List Int
 b:List Int
 da:DG B9 a
 db:DG B9 b
 za:NZ a
 zb:NZ b
 la:a.length<=10000000
 lb:b.length<=10000000
 nb:b.length=rb.n
 h:Int.gcd (dv B9 a) (dv B9 b)=Int.gcd A B
section
variable{P:Program}{N:Nat}{m:Sl}{S:World->Prop}{ty:TypeId}
theorem ya{yT:TypeId}{a b:Int}(hx:ev m x=some (.int .i64 a))(hy:ev m y=some (.int .i64 b))(h:1<b)(h0 : -9223372036854775808<=a)(h1:a<=9223372036854775807):Qt P N m S (.binOp .quo T x y yT) ty (.int .i64 (a.tdiv b)):=by
 have:=xg (P:=P) (N:=N) (m:=m) (S:=S) (ty:=ty) (T:=T) (yT:=yT) hx hy O
 have e:=Int.natAbs_tdiv a b
 have e2:a.natAbs.div b.natAbs<=a.natAbs:=Nat.div_le_self _ _
 have e3:a.natAbs.div b.natAbs<=a.natAbs / 2:=Nat.div_le_div_left O wa
 rw[IntWalk.i64_in _ O]at this;exact this
end
def Uw(neg:Bool)(m:Nat):Int:=if neg=true then -(m:Int)else(m:Int)
theorem dx(neg:Bool)(m:Nat):(Uw neg m).tmod 1000000000=Uw neg (m%1000000000):=by
 unfold Uw;split
 ·rw[Int.neg_tmod];exact congrArg Neg.neg (fY m 1000000000).symm
 ·exact(fY m 1000000000).symm
theorem Cr(neg:Bool)(m:Nat):(Uw neg m).tdiv 1000000000=Uw neg (m / 1000000000):=by
 unfold Uw;split
 ·rw[Int.neg_tdiv];exact congrArg Neg.neg (fZ m 1000000000).symm
 ·exact(fZ m 1000000000).symm
theorem yJ(n:Int):n=Uw (decide (n<0)) n.natAbs:=by
 unfold Uw;by_cases h:n<0
 ·simp[h];omega
 ·simp[h];omega
theorem MZ(neg:Bool)(m:Nat):Uw neg m=m\/Uw neg m = -(m:Int):=by
 unfold Uw;split
 ·exact .inr rfl
 ·exact .inl rfl
structure WhI(M:Nat) where
 m:Nat
 out:List Int
 v:Value
 ob:List (Nat×Obj)
 le:m<=M
 l3:out.length<=3
 dg:DG B9 out
 h:dv B9 out+B9^out.length*(m:Int)=M
 hr:Qx 3 1 v out.length (out.map JY) ob
theorem WhI.two{M:Nat}(i:WhI M)(hM:M<=9223372036854775808)(h0:0<i.m):i.out.length<=2:=by
 rcases aN 2 i.out.length with g | g
 ·exfalso
  have e:i.out.length=3:=by have:=i.l3;omega
  have h:=i.h
  have h1:=Q8 Jh i.dg
  rw[e]at h
  have h2:B9^3*1<=B9^3*(i.m:Int):=ah O wa
  have h3:B9^3=1000000000000000000000000000:=wa
  rw[h3]at h2 h
  omega
 ·exact g
theorem Cc{m M:Nat}(h:dv B9 l+B9^l.length*(m:Int)=M):dv B9 (l++[((m%1000000000:Nat):Int)])+B9^(l++[((m%1000000000:Nat):Int)]).length*((m / 1000000000:Nat):Int)=M:=by
 rw[Xl,aa,aF,aZ,ef,e8,<-bO,<-h]
 have e:((m%1000000000:Nat):Int)+B9*((m / 1000000000:Nat):Int)=m:=by
  have h9:B9=1000000000:=rfl
  rw[h9];omega
 rw[e]
theorem RG{n:Int}(hF:Fits F w)(hn : -9223372036854775808<=n/\n<=9223372036854775807):NJ Tryz.prog 102 [.int .i64 n] w F n:=by
 refine QS.intro (G:=λF=>True) Tryz.func102 rfl wc rfl rfl hF wh<|wI<|Qb K9 (λb2=>wG<|wI<|wH rfl<|wJ rfl<|QA (QZ rfl rfl rfl)<|wH rfl<|QG<|QU<|JU (ι:=WhI n.natAbs) [(2,_),(4,_)] (λi=>[(0,.int .i64 (Uw (decide (n<0)) i.m)),(3,i.v)]) (λi=>(b2,.cells [.bool false,.slice none 0 0].toArray 147 (0,0))::i.ob) (λi F=>True) (λi=>i.m) (⟨n.natAbs,[],.slice none 0 0,[],ay _,we,DG.nil _,we,.nil⟩) wP ⟨congrArg (λz:Int=>some (au .i64 z)) (yJ n),rfl,trivial⟩ wK wh (λi=>?_))
 simp only[ae,ag]
 have hle:=i.le
 have hM:n.natAbs<=9223372036854775808:=O
 have hcs:=MZ (decide (n<0)) i.m
 have hsr : -9223372036854775808<=Uw (decide (n<0)) i.m/\Uw (decide (n<0)) i.m<=9223372036854775807:=by unfold Uw;split<;>rename_i g<;>simp at g<;>omega
 refine QG<|wJ I<|QA (QZ I I I)<|QE<|QC ?_
 refine QR I (λhc=>?_) (λhc=>?_)
 ·
  have h9:B9=1000000000:=rfl
  have hm0:0<i.m:=by
   rcases aU i.m with g | g
   ·rw[g]at hc;cases hd:decide (n<0)<;>simp[Uw,hd]at hc
   ·exact g
  have l2:=i.two hM hm0
  refine QQ<|QC<|QU<|wJ I<|QA (QAB I I wa) ?_
  rw[dx]
  refine wH I<|QG<|wJ I<|QA (QZ I I I)<|QE<|QC ?_
  refine QR I (λhc=>?_) (λhc=>?_)
  ·
   have e1:Uw (decide (n<0)) (i.m%1000000000) = -(((i.m%1000000000):Nat):Int):=by
    have:=wM hc
    rcases MZ (decide (n<0)) (i.m%1000000000)with g | g<;>omega
   rw[e1]
   refine QB<|wE I<|QA (Xw I I O)<|wH I<|wJ I<|wE I<|Qa I (Qw Q2) JR N3 I I (λb18=>ZP (bs':=[(b2,.cells [.bool false,.slice none 0 0].toArray 147 (0,0))]++i.ob) (ar _) ?_)
   refine Yu (ob:=i.ob) (k:=1) (sz:=1) (news:=[.int .i64 (0 - -(((i.m%1000000000):Nat):Int))]) I I Q2 JR N3 I Av i.hr (Src.row (off:=0) wk (λj v hv=>by rw[aM];show([.int .i64 (0 - -(((i.m%1000000000):Nat):Int))].toArray)[j]?=some v;rw[aq];exact hv) rfl) O O (Yc wO) (λv19 ob19 hr19=>?_)
   refine wH I<|QB<|wE I<|QA (ya I I wa O O) ?_
   rw[Cr]
   refine wF I<|QE<|Qk ?_
   exact Ql (⟨i.m / 1000000000,i.out++[(((i.m%1000000000):Nat):Int)],v19,ob19,O,by rw[aa,aF];omega,i.dg.append (DG.cons O (by show _<B9;rw[h9];omega) (DG.nil _)),Cc i.h,by simpa[JY]using hr19⟩) (by show i.m / 1000000000<i.m;omega) wR wK (λF h=>⟨h.1.1,trivial⟩)
  ·
   have e1:Uw (decide (n<0)) (i.m%1000000000)=(((i.m%1000000000):Nat):Int):=by
    have:=wN hc
    rcases MZ (decide (n<0)) (i.m%1000000000)with g | g<;>omega
   rw[e1]
   refine QQ<|QC<|wJ I<|wE I<|Qa I (Qw Q2) JR N3 I I (λb18=>ZP (bs':=[(b2,.cells [.bool false,.slice none 0 0].toArray 147 (0,0))]++i.ob) (ar _) ?_)
   refine Yu (ob:=i.ob) (k:=1) (sz:=1) (news:=[.int .i64 ((((i.m%1000000000):Nat):Int))]) I I Q2 JR N3 I Av i.hr (Src.row (off:=0) wk (λj v hv=>by rw[aM];show([.int .i64 ((((i.m%1000000000):Nat):Int))].toArray)[j]?=some v;rw[aq];exact hv) rfl) O O (Yc wO) (λv19 ob19 hr19=>?_)
   refine wH I<|QB<|wE I<|QA (ya I I wa O O) ?_
   rw[Cr]
   refine wF I<|QE<|Qk ?_
   exact Ql (⟨i.m / 1000000000,i.out++[(((i.m%1000000000):Nat):Int)],v19,ob19,O,by rw[aa,aF];omega,i.dg.append (DG.cons O (by show _<B9;rw[h9];omega) (DG.nil _)),Cc i.h,by simpa[JY]using hr19⟩) (by show i.m / 1000000000<i.m;omega) wR wK (λF h=>⟨h.1.1,trivial⟩)
 ·
  have hm0:i.m=0:=by
   rcases hcs with g | g
   ·rw[g]at hc;simp at hc;exact hc
   ·rw[g]at hc;simp at hc;exact hc
  refine Qz ?_
  repeat (first | refine QW ?_ | refine QP wc ?_)
  refine QX<|QC<|QG ?_
  have hfin:=i.h
  rw[hm0]at hfin
  have l3:=i.l3
  obtain⟨r,hv,hrn,hrc,hfix⟩:=Qx.fix (w0:=w) (F0:=F) (bs1:=[(b2,.cells [.bool false,.slice none 0 0].toArray 147 (0,0))]) (G:=λF=>True/\True) i.hr
  refine xi hfix ?_
  rw[hv]
  refine QB<|wE I<|wE I<|QI I (λw F hF h9=>WU hF (r:=r) (l:=i.out) (neg:=decide (n<0)) ⟨by rw[hrn];exact h9.2,by rw[hrn],O⟩ (i.dg) O) (λc24=>QO (vs:=[_,_]) I I I Jq I .here .h2 wP<|wG<|QY ?_)
  have e:n=N6 (decide (n<0)) i.out:=by
   have e2:=yJ n
   unfold N6;unfold Uw at e2
   split at e2<;>rename_i hs<;>simp only[hs]<;>simp<;>omega
  exact QV (c24) rfl (.JW (c:=[_,_]) I Jq .here .nil) (rfl) (λF ⟨⟨⟨hT,_⟩,hX⟩,h24⟩=>(by rw[<-e]at h24;exact h24))
theorem US(h:0<n):S3 n 1=aL n:=by
 have hne:(aL n).length≠0:=λe=>WB n (bH e)
 unfold S3 hd Wu
 rw[if_neg O,show 1 - (aL n).length=0 by omega]
 rfl
theorem UT(n:Nat):S3 n 9=Wu 9 (aL n):=by
 unfold S3 hd
 split
 ·rename_i h;subst h;rw[Yr];decide
 ·rfl
theorem NG(h:n<1000000000):(S3 n 9).length=9:=by
 rw[UT,IH]
 have:=YI (u:=n) (k:=9) O wa
 rw[bA];exact this
structure cH(l:List Int) where
 k:Nat
 s:List UInt8
 le:k<l.length
 ps:0<dv B9 (l.drop k)
 sl:s.length<=20+9*(l.length - k)
 h:s=aL (dv B9 (l.drop k)).toNat
theorem De(hd:DG B9 l)(hz:NZ l)(h0:0<l.length):dv B9 (l.drop (l.length - 1))=Qf l (l.length - 1)/\0<Qf l (l.length - 1):=by
 have e:=XZ (l:=l) (k:=l.length - 1) O
 rw[ao (i:=l.length - 1+1) O]at e
 refine⟨by rw[e];simp[dv],?_⟩
 obtain⟨h1,_⟩:=jd (n:=l.length - 1) hd hz O
 omega
def cH.start{l:List Int}(hd:DG B9 l)(hz:NZ l)(h0:0<l.length):cH l:=⟨l.length - 1,S3 (Qf l (l.length - 1)).toNat 1,O,by rw[(De hd hz h0).1];exact(De hd hz h0).2,by
  have b:=hd.Qf Jh (l.length - 1)
  have h9:B9=1000000000:=rfl
  rw[US (by have:=(De hd hz h0).2;omega),bA]
  have:=YI (u:=(Qf l (l.length - 1)).toNat) (k:=9) (by rw[h9]at b;omega) wa
  omega,by
  rw[US (by have:=(De hd hz h0).2;omega),(De hd hz h0).1]⟩
theorem cH.add(i:cH l)(hd:DG B9 l)(hk:0<i.k):dv B9 (l.drop (i.k - 1))=Qf l (i.k - 1)+B9*dv B9 (l.drop i.k):=by
 have hle:=i.le
 rw[XZ O,KV,show i.k - 1+1=i.k by omega]
def cH.next{l:List Int}(i:cH l)(hd:DG B9 l)(hk:0<i.k):cH l:=⟨i.k - 1,i.s++S3 (Qf l (i.k - 1)).toNat 9,by have:=i.le;omega,by
  rw[i.add hd hk]
  have b:=hd.Qf Jh (i.k - 1)
  have p:=i.ps
  have:B9*1<=B9*dv B9 (l.drop i.k):=ah O wa
  have h9:B9=1000000000:=rfl
  omega,by
  have b:=hd.Qf Jh (i.k - 1)
  have h9:B9=1000000000:=rfl
  rw[h9]at b
  have hle:=i.le
  have hsl:=i.sl
  rw[aa,NG O]
  omega,by
  have b:=hd.Qf Jh (i.k - 1)
  have h9:B9=1000000000:=rfl
  rw[h9]at b
  have p:=i.ps
  have e:=Vt (q:=(dv B9 (l.drop i.k)).toNat) O 9 (Qf l (i.k - 1)).toNat wa O
  rw[UT,i.h,<-e,i.add hd hk]
  congr 1
  generalize dv B9 (l.drop i.k)=D at *
  rw[h9]
  omega⟩
structure PaI(s:List UInt8) where
 s':List UInt8
 out:List Int
 v:Value
 ob:List (Nat×Obj)
 dg:DG B9 out
 al:X6 s'=true
 ll:s'.length+9*out.length<=s.length
 h:(JJ s':Int)*B9^out.length+dv B9 out=JJ s
 hr:Qx 3 1 v out.length (out.map JY) ob
theorem IV:((10^9:Nat):Int)=B9:=wa
theorem pQ{s:List UInt8}(h:(JJ s:Int)*B9^out.length+dv B9 out=z)(hl:9<=s.length):(JJ (s.take (s.length - 9)):Int)*B9^(out++[(JJ (s.drop (s.length - 9)):Int)]).length+dv B9 (out++[(JJ (s.drop (s.length - 9)):Int)])=z:=by
 have e:=Y0 (s.take (s.length - 9)) (s.drop (s.length - 9))
 rw[aE,bR,show s.length - (s.length - 9)=9 by omega]at e
 rw[Xl,aa,aF,aZ,<-h,e,Int.natCast_add,Int.natCast_mul,IV]
 generalize B9^out.length=p
 generalize ((JJ (s.take (s.length - 9)):Nat):Int)=a
 generalize ((JJ (s.drop (s.length - 9)):Nat):Int)=b
 generalize B9=B
 grind
theorem Rr(h:bC s [45]=true):1<=s.length:=by
 rcases aU s.length with g | g
 ·rw[bH g]at h;simp[bC]at h
 ·omega
theorem YM{ops:Array Oper}{l:List Oper}{m:Sl}{E E':Env}(h:∀w,St E w->St E' w)(k:JS P ops Q l N m E'):JS P ops Q l N m E:=λa w ha hw=>k a w ha (h w hw)
theorem QBc{t:List UInt8}(h:(JJ t:Int)*B9^out.length+dv B9 out=JJ (ai s [45])):N6 (bC s [45]) (out++[(JJ t:Int)])=Yw s:=by
 have e:dv B9 (out++[(JJ t:Int)])=JJ (ai s [45]):=by
  rw[Xl,<-h,aJ];omega
 unfold N6 Yw
 rw[e]
 unfold ai
 cases bC s [45]<;>simp
theorem To{s:List UInt8}(h:X6 s=true)(hl:s.length<=9):(JJ s:Int)<B9:=by
 have h1:=Gb h
 have h2:10^s.length<=10^9:=bz wa hl
 have h3:=IV
 omega
theorem DW(hF:Fits F w)(hs:X6 (ai s [45])=true)(hl:s.length<=1000000):NJ Tryz.prog 189 [tx s] w F (Yw s):=by
 refine QS.intro (G:=λF=>True) Tryz.func189 rfl wc rfl rfl hF wh<|wI<|Qb K9 (λb2=>QE<|QC ?_)
 refine YV [(0,_),(2,_)] [(3,.bool (bC s [45]))] wP ?_ ?_
 ·
  refine QB<|wE I<|QA (X7 I ZQ)<|QA (QZ I I I)<|wE I ?_
  refine Q3 (t:=8) rfl (λhb8=>?_) (λhb8=>?_)
  ·
   refine QM I I<|wE I<|QM I I<|QA (Gc (i:=0) rfl rfl ZQ (by have:=wM hb8;omega))<|QM I I<|QA (QZ I I I)<|QA (Qp I I I)<|wF I<|QE ?_
   exact J3 ⟨rfl,rfl,(congrArg (λb=>some (iw b)) (by have h0:0<s.length:=(by have:=wM hb8;omega);rw[BP h0];exact RO I)),trivial⟩ wK wi
  ·
   refine Qc I I I<|Qc I I I<|Qc I I I<|QA (Qj I I I)<|wF I<|QE ?_
   exact J3 ⟨rfl,rfl,(congrArg (λb=>some (iw b)) (by have h0:s.length=0:=(by have:=wN hb8;omega);rw[bH h0];rfl)),trivial⟩ wK wi
 ·
  simp only[ae,ag]
  refine YV [(2,_),(3,_)] [(0,tx (ai s [45]))] wP ?_ ?_
  ·
   refine wJ I<|QE<|QC ?_
   refine QR I (λhc=>?_) (λhc=>?_)
   ·
    refine QB<|wE I<|QA (GW (1) rfl rfl ZQ I (Rr hc))<|wF I<|QE ?_
    exact J3 ⟨rfl,rfl,(congrArg (λl=>some (tx l)) (by unfold ai;rw[if_pos hc];rfl)),trivial⟩ wK wi
   ·
    refine QQ ?_
    exact J3 ⟨rfl,rfl,(congrArg (λl=>some (tx l)) (by unfold ai;rw[hc];rfl)),trivial⟩ wK wi
  ·
   simp only[ae,ag]
   have hln:(ai s [45]).length<=s.length:=Ta _ _
   refine wI<|wH I<|QG<|QU<|JU (ι:=PaI (ai s [45])) [(2,_),(3,_)] (λi=>[(0,tx i.s'),(4,i.v)]) (λi=>(b2,.cells [.bool false,.slice none 0 0].toArray 147 (0,0))::i.ob) (λi F=>True) (λi=>i.s'.length) (⟨ai s [45],[],.slice none 0 0,[],DG.nil _,hs,we,we,.nil⟩) wP wP wK wh (λi=>?_)
   simp only[ae,ag]
   have hll:=i.ll
   refine QG<|wJ I<|QA (X7 I ZQ)<|QA (QZ I I I)<|QE<|QC ?_
   refine QR I (λhc=>?_) (λhc=>?_)
   ·
    have h9:9<i.s'.length:=by have:=wM hc;omega
    refine QQ<|QC<|QU<|wJ I<|wE I<|wE I<|QA (X7 I ZQ)<|QA (Xw I I O)<|QA (GW (i.s'.length - 9) rfl rfl ZQ wA O)<|QI I (λw F hF h9=>Rh hF (M0 i.al _) (by rw[bR];omega)) (λ_=>Qa I (Qw Q2) JR N3 I I (λb26=>ZP (bs':=[(b2,.cells [.bool false,.slice none 0 0].toArray 147 (0,0))]++i.ob) (ar _) ?_))
    refine Yu (ob:=i.ob) (k:=1) (sz:=1) (news:=[.int .i64 ((JJ (i.s'.drop (i.s'.length - 9)):Int))]) I I Q2 JR N3 I Av i.hr (Src.row (off:=0) wk (λj v hv=>by rw[aM];show([.int .i64 ((JJ (i.s'.drop (i.s'.length - 9)):Int))].toArray)[j]?=some v;rw[aq];exact hv) rfl) O O (Yc wO) (λv27 ob27 hr27=>?_)
    refine wH I<|QB<|wE I<|wE I<|QA (X7 I ZQ)<|QA (Xw I I O)<|QA (Ee (i.s'.length - 9) rfl rfl ZQ wA O)<|wF I<|QE<|Qk ?_
    exact Ql (⟨i.s'.take (i.s'.length - 9),i.out++[(JJ (i.s'.drop (i.s'.length - 9)):Int)],v27,ob27,i.dg.append (DG.cons O (To (M0 i.al _) (by rw[bR];omega)) (DG.nil _)),DE i.al _,by rw[aA,aa,aF];omega,pQ i.h O,by simpa[JY]using hr27⟩) (by show(i.s'.take (i.s'.length - 9)).length<i.s'.length;rw[aA];omega) wR wK (λF h=>⟨h.1.1.1,trivial⟩)
   ·
    have h9:i.s'.length<=9:=by have:=wN hc;omega
    refine Qz ?_
    repeat (first | refine QW ?_ | refine QP wc ?_)
    refine QX<|QC<|wJ I<|wE I<|wE I<|QI I (λw F hF h9=>Rh hF (i.al) O) (λ_=>Qa I (Qw Q2) JR N3 I I (λb37=>ZP (bs':=[(b2,.cells [.bool false,.slice none 0 0].toArray 147 (0,0))]++i.ob) (ar _) ?_))
    refine Yu (ob:=i.ob) (k:=1) (sz:=1) (news:=[.int .i64 ((JJ i.s':Int))]) I I Q2 JR N3 I Av i.hr (Src.row (off:=0) wk (λj v hv=>by rw[aM];show([.int .i64 ((JJ i.s':Int))].toArray)[j]?=some v;rw[aq];exact hv) rfl) O O (Yc wO) (λv38 ob38 hr38=>?_)
    obtain⟨r,hv,hrn,hrc,hfix⟩:=Qx.fix (w0:=w) (F0:=F) (bs1:=[(b2,.cells [.bool false,.slice none 0 0].toArray 147 (0,0))]) (G:=_) hr38
    refine YM hfix ?_
    rw[hv]
    refine QI I (λw F hF ⟨⟨⟨⟨hT,_⟩,_⟩,hs37⟩,hX⟩=>WU hF (r:=r) (l:=i.out++[(JJ i.s':Int)]) (neg:=bC s [45]) ⟨by rw[hrn];simpa[JY]using hX,by rw[hrn];simp,O⟩ (i.dg.append (DG.cons O (To i.al h9) (DG.nil _))) (by first | omega | (simp;omega))) (λc39=>QO (vs:=[_,_]) I I I Jq I .here .h2 wP<|wG<|QY ?_)
    exact QV (c39) rfl (.JW (c:=[_,_]) I Jq .here .nil) (rfl) (λF ⟨⟨⟨⟨⟨hT,_⟩,_⟩,hs37⟩,hX⟩,h39⟩=>(by rw[QBc i.h]at h39;exact h39))
theorem ND(z:Int):(Zf z).length<=sz z+2:=by
 have h:(aL z.natAbs).length<=sz z+1:=by
  rw[bA]
  refine YI ?_ O
  have h1:=DS z
  have h2:2^sz z<=10^sz z:=fz wa _
  have h3:10^sz z<=10^(sz z+1):=bz wa O
  omega
 rcases bG z 0 with g | g
 ·rw[Kh g,af];omega
 ·rw[XV g];omega
theorem Lw(n:Nat):(aL n).length<=sz (n:Int)+1:=by
 rw[bA]
 refine YI ?_ O
 have h1:=DS (n:Int)
 have h2:2^sz (n:Int)<=10^sz (n:Int):=fz wa _
 have h3:10^sz (n:Int)<=10^(sz (n:Int)+1):=bz wa O
 simp at h1
 omega
theorem qG(x:Rat):(Je x).length<=2*JL x+4:=by
 have h1:=ND x.num
 have h2:=Lw x.den
 have h3:=Js x
 have h4:=Jo x
 unfold Je
 split
 ·omega
 ·rw[aa,af];omega
theorem Ua{l:List UInt8}(h:l.contains 47=false):l.all (λc=>!ZC c)=true:=by
 rw[fJ]
 intro c hc
 have:c≠47:=by rintro rfl;simp[hc]at h
 simp[ZC,this]
theorem T2(z:Int):(Zf z).contains 47=false:=Ej z wa wa
theorem Fq{x:Rat}(h:x.den=1):Je x=Zf x.num/\ahead ZC (Je x)=(Je x).length:=by
 have e:Je x=Zf x.num:=by unfold Je;rw[if_pos h]
 exact⟨e,by rw[e];exact Ud (Ua (T2 _))⟩
theorem MY{x:Rat}(h:x.den≠1):ahead ZC (Je x)=(Zf x.num).length/\ahead ZC (Je x)<(Je x).length/\(Je x).take (ahead ZC (Je x))=Zf x.num/\(Je x).drop (ahead ZC (Je x)+1)=aL x.den:=by
 have e:Je x=Zf x.num++47::aL x.den:=by unfold Je;rw[if_neg h]
 have h1:ahead ZC (Je x)=(Zf x.num).length:=by
  refine Uc (by rw[e];simp) ?_ ?_
  ·rw[e,List.take_append_of_le_length (ay _),aw];exact Ua (T2 _)
  ·simp[e,ZC]
 rw[h1]
 refine⟨rfl,by rw[e];simp,?_,?_⟩
 ·rw[e];simp
 ·rw[e,eF];simp
theorem OP(x:Rat):(ahead ZC (Je x)=(Je x).length)↔x.den=1:=by
 constructor
 ·intro h
  by_cases g:x.den=1
  ·exact g
  ·have:=(MY g).2.1;omega
 ·intro h;exact(Fq h).2
theorem T1(z:Int):X6 (ai (Zf z) [45])=true:=by rw[Bq];exact Jv _
theorem j5(n:Nat):X6 (ai (aL n) [45])=true:=by rw[VY (Jv n)];exact Jv _
theorem jO(n:Nat):Yw (aL n)=n:=by rw[YF (Jv n),Zh]
@[reducible] def Ri.v2 (c:Ri×Ri):Value:=.tuple #[c.1.v,c.2.v]
theorem Ec{x:Rat}(hF:Fits F w)(hl:JL x<=100000):QS Tryz.prog 97 [tx (Je x)] w F Ri.v2 (λc F=>H5 F c.1 x.num/\H5 F c.2 x.den):=by
 have hlen:=qG x
 refine QS.intro (G:=λF=>True) Tryz.func97 rfl wc rfl rfl hF wh<|wI<|Qb K9 (λb2=>Qb K9 (λb3=>wG<|wJ rfl<|wH rfl<|wJ rfl<|QI rfl (λw F hF hT=>Tn hF O) (λ_=>wH rfl<|QG<|wJ rfl<|wE rfl ?_)))
 refine QA (X7 I ZQ)<|QA (QZ I I I)<|QE<|QC ?_
 refine QR I (λhc=>?_) (λhc=>?_)
 ·
  have hd:x.den=1:=(OP x).1 (by have:(ahead ZC (Je x):Int)=((Je x).length:Int):=(by simpa using hc);omega)
  rw[(Fq hd).1]
  refine wJ I<|QI I (λw F hF h9=>DW hF (T1 _) (by have:=ND x.num;have:=Js x;omega)) (λc14=>QI I (λw F hF h9=>RG hF wa) (λc15=>QO (vs:=[_,_]) I I I Jq I .u1 .h2 wP<|QO (vs:=[_,_]) I I I Jq I .here .h2 wP<|wG<|QY ?_))
  exact JZ ((c14,c15):Ri×Ri) rfl (.JW (c:=[_,_]) I Jq .u1 (.JW (c:=[_,_]) I Jq .here .nil)) (rfl) (λF ⟨⟨⟨hT,_⟩,h14⟩,h15⟩=>⟨by rw[K8]at h14;exact h14,by have e:(x.den:Int)=1:=(by rw[hd];rfl);rw[e];exact h15⟩)
 ·
  have hd:¬x.den=1:=λg=>by have:=(OP x).2 g;rw[this]at hc;simp at hc
  obtain⟨k1,k2,k3,k4⟩:=MY hd
  refine QQ<|QC<|QG<|JO (.cons _ (.cons _ .slnil)) mixed y0<|QK (QD I)<|QK (QD I)<|QK (Ee (ahead ZC (Je x)) I I ZQ I O) ?_
  rw[k3]
  refine QN I (λw F hF h9=>DW hF (T1 _) (by have:=ND x.num;have:=Js x;omega)) (λc19=>QK (QD I)<|QK (QD I)<|QK (Qu I I O)<|QK (GW ((ahead ZC (Je x)+1)) I I ZQ wA O) ?_)
  rw[k4]
  refine QN I (λw F hF h9=>DW hF (j5 _) (by have:=Lw x.den;have:=Jo x;omega)) (λc24=>JV (vs:=[_,_]) I I I Jq I .u1 (.cons _ .slnil) (λ_ h=>h.1.1) .h2 wP<|JV (vs:=[_,_]) I I I Jq I .here (.cons _ .slnil) (λ_ h=>h.1.1) .h2 wP<|Q6<|QC<|QY ?_)
  exact JZ ((c19,c24):Ri×Ri) rfl (.JW (c:=[_,_]) I Jq .u1 (.JW (c:=[_,_]) I Jq .here .nil)) (rfl) (λF ⟨⟨⟨hT,_⟩,SH⟩,h24⟩=>⟨by rw[K8]at SH;exact SH,by rw[jO]at h24;exact h24⟩)
structure QHf(zx zy:Int) where
 n:Ri
 d:Ri
 zn:Int
 zd:Int
 h:0<zd
 e:eQ zn zd=eQ zx zy
 sn:sz zn<=500000
 sd:sz zd<=500000
def H8(x:Rat):Rat:=if x.num<0 then -x else x
theorem cg(x:Rat):JL (H8 x)=JL x:=by
 unfold H8;split
 ·exact V3 x
 ·rfl
def QCr(x:Rat)(c:Int×Int×Bool):Prop:=c.2.2=true->c.1=x.num/\c.2.1=(x.den:Int)/\x.num.natAbs<1000000000/\x.den<1000000000
theorem F6:Je 0=[48]:=by
 have h:(0:Rat).num=0:=rfl
 unfold Je
 rw[if_pos wc,h,XV wa];exact Yr
theorem IN(x:Rat):x.num<0↔x<0:=by rw[<-Rat.not_le,<-Rat.num_nonneg];omega
theorem Cq(x:Rat):ED x.num=if x<0 then -1 else if x=0 then 0 else 1:=by
 unfold ED
 by_cases h:x<0
 ·rw[if_pos h,if_pos ((IN x).2 h)]
 ·rw[if_neg h,if_neg (λg=>h ((IN x).1 g))]
  by_cases h0:x=0
  ·rw[if_pos h0,if_pos (Rat.num_eq_zero.2 h0)]
  ·rw[if_neg h0,if_neg (λg=>h0 (Rat.num_eq_zero.1 g))]
def xr(s:List UInt8):Bool:=!Xx ((ai s [45]).take (ahead ZC (ai s [45])))||(bC s [45]&&(ai s [45]).take (ahead ZC (ai s [45]))==[48])
def Pj(s:List UInt8):List UInt8:=(ai s [45]).drop (ahead ZC (ai s [45])+1)
def Tk(s:List UInt8):Bool:=decide (ahead ZC (ai s [45])<(ai s [45]).length)
def xK(s:List UInt8):Bool:=Tk s&&(!Xx (Pj s)||(Pj s==[48]||Pj s==[49]))
def xp(s:List UInt8):Bool:=decide (600<ahead ZC (ai s [45]))||decide (600<(Pj s).length)
def vG(s:List UInt8):Bool:=Tk s&&!(fI (JJ ((ai s [45]).take (ahead ZC (ai s [45])))) (JJ (Pj s))==1)
def Au(s:List UInt8):Int:=if xr s=true then 1 else if xK s=true then 1 else if xp s=true then 4 else if vG s=true then 1 else 0
structure Zv{α:Type}(l:List α)(f:α->Int) where
 i:Nat
 le:i<=l.length
 h:Qn (l.map f)=Qn ((l.map f).drop i)
section
variable{α:Type}[Inhabited α]{l:List α}{f:α->Int}
theorem AL(hi:i<l.length):(l.map f)[i]'(by simpa using hi)=f (el l i):=by rw[List.getElem_map,JK hi]
def Zv.next(s:Zv l f)(hi:s.i<l.length)(h:f (el l s.i)=0):Zv l f:=⟨s.i+1,hi,by
 rw[s.h,W8 (by simpa using hi) (by rw[AL hi];exact h)]⟩
theorem Zv.hit(s:Zv l f)(hi:s.i<l.length)(h:f (el l s.i)≠0):Qn (l.map f)=f (el l s.i):=by
 rw[s.h,D0 (by simpa using hi) (by rw[AL hi];exact h),AL hi]
theorem Zv.stop(s:Zv l f)(hi:l.length<=s.i):Qn (l.map f)=0:=by
 rw[s.h,ao (by simpa using hi)];rfl
end
def Zv.start{α:Type}(l:List α)(f:α->Int):Zv l f:=⟨0,av _,rfl⟩
structure EC{α:Type}(l:List α)(p:α->Bool) where
 i:Nat
 le:i<=l.length
 h:l.all p=(l.drop i).all p
section
variable{α:Type}[Inhabited α]{l:List α}{p:α->Bool}
def EC.next(s:EC l p)(hi:s.i<l.length)(h:p (el l s.i)=true):EC l p:=⟨s.i+1,hi,by rw[s.h,DC hi,fX,h,Bool.true_and]⟩
theorem EC.hit(s:EC l p)(hi:s.i<l.length)(h:p (el l s.i)=false):l.all p=false:=by rw[s.h,DC hi,fX,h,Bool.false_and]
theorem EC.stop(s:EC l p)(hi:l.length<=s.i):l.all p=true:=by rw[s.h,ao hi];rfl
end
def EC.start{α:Type}(l:List α)(p:α->Bool):EC l p:=⟨0,av _,rfl⟩
def OO(p:List UInt8×List UInt8):List Value:=[tx p.1,tx p.2]
theorem By(p:List UInt8×List UInt8):(OO p).length=2:=rfl
def QIu(a:List UInt8)(d:Int):Bool:=decide ((a.length:Int)<=2*d+2)&&(Jw a==0&&(decide (((QIL (numOf a)).length:Int)<=d)&&decide (((QHW a).length:Int)<=d)))
def Ol(x y:Rat):Rat:=if Ks x y<=0 then x else y
def Oq(x y:Rat):Rat:=if Ks x y>=0 then x else y
theorem RW{x y:Rat}(hx:JL x<=k)(hy:JL y<=k):JL (Ol x y)<=k:=by unfold Ol;split<;>assumption
theorem RX{x y:Rat}(hx:JL x<=k)(hy:JL y<=k):JL (Oq x y)<=k:=by unfold Oq;split<;>assumption
@[reducible] def spT (a:Rat×Rat):Value:=.agg #[tx (Je a.1),tx (Je a.2)]
def FJ(k:Nat)(a:Rat×Rat):Prop:=JL a.1<=k/\JL a.2<=k
def Zd(i:Nat):Rat:=eQ 1 2^i
theorem js(i:Nat):(Zd i).num≠0:=by
 intro e
 have h0:=Rat.num_eq_zero.1 e
 unfold Zd at h0
 have h1:eQ 1 2≠0:=by
  intro h
  have:=O0.1
  rw[h]at this;exact absurd this wa
 induction i with
 |zero=>rw[Rat.pow_zero]at h0;exact absurd h0 wa
 |succ n ih =>
  rw[Rat.pow_succ]at h0
  rcases Rat.mul_eq_zero.1 h0 with h | h
  ·exact ih (Rat.num_eq_zero.2 h) h
  ·exact h1 h
theorem WV(hF:Fits F w):Qe Tryz.prog 61 [tx s] w F (.agg #[tx s,tx s]):=by
 refine QS.intro (G:=λF=>True) Tryz.func61 rfl wc rfl rfl hF wh<|wI<|Qb Xm (λb2=>wG<|wJ rfl<|wE rfl<|QA (Qv rfl Zu Xm (wD rfl rfl rfl))<|QO (vs:=[_,_]) rfl rfl rfl XD rfl .here .h2 wP<|wG<|QY ?_)
 exact QV (()) I (.JW (c:=[_,_]) I XD .here .nil) (rfl) wh
def Yd(x:Rat)(i:Nat):Rat:=((x / Zd i).floor:Rat)*Zd i
def QAZ(s:Rat×Rat)(l:List (Rat×Rat)):Rat×Rat:=l.foldl (λs p=>(Ol s.1 p.1,Oq s.2 p.2)) s
def QGB(p:Rat×Rat):List Value:=[tx (Je p.1),tx (Je p.2)]
theorem QDt(p:Rat×Rat):(QGB p).length=2:=rfl
structure QIi(l:List (Rat×Rat)) where
 i:Nat
 s:Rat×Rat
 le:i<=l.length
 sz:FJ 20000 s
 h:QAZ s (l.drop i)=QAZ (el l 0) (l.drop 1)
section
open Go Go.RowKit
section
variable[Dr][df:Df]
def GQ(l:List Oper)(r:List Nat)(i:Nat):Bool:=match l[i]? with
 |some o=>o.after.all λe=>!(ek .any e)||!(r.contains e.on)
 |none=>false
def OY(l:List Oper)(i:Nat):Bool:=match l[i]? with
 |some o=>J0 o.op
 |none=>false
def Eg(l:List Oper)(r:List Nat):Option Nat:=r.find? λi=>OY l i&&GQ l r i
def RU(l:List Oper):Bool :=
 Region.noSelect l.toArray&&Vc .any l.toArray l.length&&(bh l.length).all λj=>match l[j]? with
  |none=>false
  |some oj=>(bh j).all λi=>match l[i]? with
   |none=>false
   |some oi=>if J0 oi.op||J0 oj.op then(bB .any l.toArray j i||oi.apart l.toArray oj)else true
theorem RT{l:List Oper}(h:RU l=true){i j:Nat}(hij:i<j){oi oj:Oper}(hi:l[i]?=some oi)(hj:l[j]?=some oj)(hq:(J0 oi.op||J0 oj.op)=true):(bB .any l.toArray j i||oi.apart l.toArray oj)=true:=by
 simp only[RU,aO]at h
 have hjl:j<l.length:=by rcases aN j l.length with g | g;exact g;rw[aG g]at hj;cases hj
 have h1:=List.all_eq_true.1 h.2 j (List.mem_range.2 hjl)
 rw[hj]at h1
 have h2:=List.all_eq_true.1 h1 i (List.mem_range.2 hij)
 rw[hi]at h2
 simp only at h2
 rw[if_pos hq]at h2;exact h2
section
variable{P:Program}{Q:Exit->Act->World->Prop}{S:World->Prop}
def BX(P:Program)(l:List Oper)(Q:Exit->Act->World->Prop)(S:World->Prop):Nat->List Nat->Act->World->Prop
 |0,_,a,w=>Q .normal a w
 |n+1,r,a,w=>match Eg l r with
  |some i=>∃o v,l[i]?=some o/\YieldsIf P l.toArray S o v a/\BX P l Q S n (r.erase i) (a.put o.dst v) w
  |none=>∀i∈r,GQ l r i=true->wpOp P l.toArray (λ_ _ _=>False) i (λa' w'=>S w'/\BX P l Q S n (r.erase i) a' w') a w
theorem zY{l:List Oper}(hB:RU l=true)(hQ:∀c a d v w,Q (.panic c) (Act.put a d v) w->Q (.panic c) a w):
  ∀(m:Nat) (r:List Nat) (listed:Array Bool) (a:Act) (w:World),r.length=m->r.Pairwise (·<·)->(∀i,i∈r↔i<l.length/\listed.getD i true=false)->listed.size=l.length ->
   (∀j oj,l.toArray[j]?=some oj->listed.getD j false=true->∀e∈oj.after,ek .any e=true->listed.getD e.on false=true)->S w->BX P l Q S m r a w->wpAnyH P .any l.toArray Q S m listed a w:=by
 have hB':=hB
 simp only[RU,aO]at hB'
 obtain⟨⟨hns,hord⟩,_⟩:=hB'
 have hsel:=Region.noSelect_spec hns
 intro m
 induction m with
 |zero =>
  intro r listed a w hm hs hr hsz hcl hS h
  have:r=[]:=List.length_eq_zero_iff.1 hm
  subst this
  refine⟨?_,h⟩
  rw[List.eq_nil_iff_forall_not_mem]
  intro i hi
  obtain⟨h1,o,ho,_⟩:=mem_ready.1 hi
  have hlt:i<l.length:=by have:=(Array.getElem?_eq_some_iff.1 ho).1;simpa using this
  have:=(hr i).2 ⟨hlt,h1⟩
  cases this
 |succ m ih =>
  intro r listed a w hm hs hr hsz hcl hS h
  have hready:∀j,j∈ei .any l.toArray listed↔j∈r/\GQ l r j=true:=by
   intro j
   rw[mem_ready,hr j]
   constructor
   ·rintro⟨h1,o,ho,h2⟩
    have hlt:j<l.length:=by have:=(Array.getElem?_eq_some_iff.1 ho).1;simpa using this
    refine⟨⟨hlt,h1⟩,?_⟩
    unfold GQ
    have ho':l[j]?=some o:=by simpa using ho
    rw[ho']
    rw[ep]
    intro e he
    cases hb:ek .any e with
    |false=>rfl
    |true =>
     have:=h2 e he hb
     simp only[ie,ig,fH,fk,decide_eq_false_iff_not]
     intro hmem
     have h3:=((hr e.on).1 hmem).2
     rw[getD_both h3]at this;cases this
   ·rintro⟨⟨hlt,h1⟩,h2⟩
    obtain⟨o,ho,hed⟩:=ZL hord hlt
    refine⟨h1,o,ho,λe he hb=>?_⟩
    unfold GQ at h2
    have ho':l[j]?=some o:=by simpa using ho
    rw[ho',ep]at h2
    have:=h2 e he
    rw[hb]at this
    simp only[ie,ig,fH,fk,decide_eq_false_iff_not]at this
    cases hv:listed.getD e.on false with
    |true=>rfl
    |false =>
     have hel:=hed e he hb
     exact absurd ((hr e.on).2 ⟨O,getD_in O hv⟩) this
  have next:∀j,j∈ei .any l.toArray listed->∀a' w',S w'->BX P l Q S m (r.erase j) a' w'->wpAnyH P .any l.toArray Q S m (listed.setIfInBounds j true) a' w':=by
   intro j hj a' w' hS' h'
   have hjr:=((hready j).1 hj).1
   have hjsz:j<listed.size:=by rw[hsz];exact((hr j).1 hjr).1
   refine ih (r.erase j) _ a' w' (by rw[eV hjr];omega) (hs.sublist List.erase_sublist) (λk=>?_) (by simpa using hsz) (λk ok hk hl e he hb=>?_) hS' h'
   ·rw[List.Nodup.mem_erase_iff (hs.imp (λh=>Nat.ne_of_lt h)),hr k]
    by_cases hjk:j=k
    ·subst hjk;simp[hjsz]
    ·rw[getD_set_ne true hjk];simp[Ne.symm hjk]
   ·by_cases hjk:j=k
    ·subst hjk
     obtain⟨_,oj,hoj,hall⟩:=mem_ready.1 hj
     have:ok=oj:=ea (hk.symm.trans hoj)
     subst this
     exact getD_set_true (hall e he hb)
    ·rw[getD_set_ne false hjk]at hl
     exact getD_set_true (hcl k ok hk hl e he hb)
  unfold BX at h
  cases hp:Eg l r with
  |some j =>
   rw[hp]at h
   obtain⟨oj,v,hoj0,hy,h'⟩:=h
   have hoj:l.toArray[j]?=some oj:=by simpa using hoj0
   have hjr:j∈r:=eS hp
   have hqr:=fN hp
   simp only[aO]at hqr
   have hq:J0 oj.op=true:=by have:=hqr.1;unfold OY at this;rw[hoj0]at this;exact this
   have hj:j∈ei .any l.toArray listed:=(hready j).2 ⟨hjr,hqr.2⟩
   have hjs:=mem_ready.1 hj
   have happ:∀k ok,l.toArray[k]?=some ok->k≠j->listed.getD k true=false->(∀e∈ok.after,ek .any e=true->e.on≠j)->oj.apart l.toArray ok=true:=by
    intro k ok hok hkj hun hno
    have hnw:bB .any l.toArray k j=false:=by
     cases hv:bB .any l.toArray k j with
     |false=>rfl
     |true =>
      obtain⟨o',ho',e,he,hb,hon⟩:=fa hv
      have:o'=ok:=ea (ho'.symm.trans hok)
      subst this
      exact absurd hon (hno e he hb)
    have hnw2:bB .any l.toArray j k=false:=by
     cases hv:bB .any l.toArray j k with
     |false=>rfl
     |true =>
      obtain⟨o',ho',e,he,hb,hon⟩:=fa hv
      obtain⟨_,o2,ho2,hall⟩:=hjs
      have:o'=o2:=ea (ho'.symm.trans ho2)
      subst this
      have:=hall e he hb
      rw[hon,getD_both hun]at this;cases this
    rcases Nat.lt_or_gt_of_ne hkj with hlt | hgt
    ·have:=RT hB hlt (by simpa using hok) (by simpa using hoj) (by simp[hq])
     rw[hnw2]at this
     exact Sn (by simpa using this)
    ·have:=RT hB hgt (by simpa using hoj) (by simpa using hok) (by simp[hq])
     rw[hnw]at this
     simpa using this
   exact wpAnyH_first hoj hsel (λc a w h=>hQ c a _ v w h) m listed a w happ hj hy hS (next j hj _ w hS h')
  |none =>
   rw[hp]at h
   match r,hm,hs,hr,h,hready,next with
   |i::r,hm,hs,hr,h,hready,next =>
    have hil:=(hr i).1 we
    have hmin:∀j,j<i->listed.getD j false=true:=by
     intro j hj
     cases hv:listed.getD j false with
     |true=>rfl
     |false =>
      have hjl:j<l.length:=O
      have:=(hr j).2 ⟨hjl,getD_in O hv⟩
      rcases List.mem_cons.1 this with e | e
      ·omega
      ·have:=(List.pairwise_cons.1 hs).1 j e;omega
    obtain⟨oi,hoi,hed⟩:=ZL hord hil.1
    have hri:i∈ei .any l.toArray listed:=mem_ready.2 ⟨hil.2,oi,hoi,λe he hb=>hmin _ (hed e he hb)⟩
    refine⟨λh0=>(by rw[h0]at hri;cases hri),λj hj=>?_⟩
    have hj':=(hready j).1 hj
    exact FQ (wpOp_mono (λa' w' h=>⟨h.1,next j hj a' w' h.1 h.2⟩) (h j hj'.1 hj'.2))
theorem TE{l:List Oper}{Q':Exit->Act->World->Prop}(hB:RU l=true)(hQ:∀c a w,¬Q' (.panic c) a w){a:Act}{w:World}(hS:S w)(h:BX P l Q' S l.length (eH 0 l.length) a w):
  wpAny P .any l.toArray Q' l.length (Array.replicate l.length false) a w:=by
 refine wpAny_of_held _ _ _ _ (zY hB (λc a d v w h=>absurd h (hQ c _ w)) l.length (eH 0 l.length) _ a w we List.pairwise_lt_range' (λi=>?_) we (λj oj _ hl=>(by rw[getD_replicate_false]at hl;cases hl)) hS h)
 rw[List.mem_range'_1]
 constructor
 ·intro h
  have:i<l.length:=O
  simp[this]
 ·intro h;omega
theorem RJ{id:Nat}{a:Act}{l:List Oper}(hm:P.follows .mixedOrders=true)(hB:RU l=true)(hS:S { w with drawn:=w.drawn+1 })
  (h:BX P l (X9 (Q .normal)) S l.length (eH 0 l.length) a { w with drawn:=w.drawn+1 }):(Code.region id l.toArray true).wp P Q a w:=by
 refine wp_region_any hm ?_
 have:=TE (P:=P) (Q':=X9 (Q .normal)) hB (λc a w h=>h) hS h
 simpa using W5 (Q':=Q) (λe a w h=>by cases e<;>first | exact h | exact h.elim) _ _ _ _ this
end
section
variable{P:Program}{Q:Exit->Act->World->Prop}{N:Nat}{m:Sl}{E E0:Env}{l:List Oper}{r r':List Nat}{w0:World}{F0:Gs}{bs:List (Nat×Obj)}{G:Gs->Prop}
def JT(P:Program)(l:List Oper)(Q:Exit->Act->World->Prop)(E0:Env)(r:List Nat)(N:Nat)(m:Sl)(E:Env):Prop:=(∀w,St E w->St E0 w)->∀a w,JP N m a->St E w->BX P l Q (St E0) r.length r a w
def Ed(P:Program)(l:List Oper)(Q:Exit->Act->World->Prop)(E0:Env)(r:List Nat):Act->World->Prop:=λa w=>BX P l Q (St E0) r.length r a w
theorem JB(h:JT P l Q E0 r N m E):JD P l.toArray (X9 (Ed P l Q E0 r)) E0 [] N m E:=λhE a w ha hw=>h hE a w ha hw
theorem UM(h:i∈r):r.length=(r.erase i).length+1:=by
 rw[eV h]
 have:=List.length_pos_of_mem h
 omega
theorem Jp(i:Nat){o:Oper}(hp:Eg l r=some i)(ho:l[i]?=some o)(he:r.erase i=r')(h:JD P l.toArray (X9 (Ed P l Q E0 r')) E0 [o] N m E):JT P l Q E0 r N m E:=by
 intro hE a w ha hw
 subst he
 have hi:i∈r:=eS hp
 rw[UM hi]
 unfold BX
 rw[hp]
 have hq:J0 o.op=true:=by
  have:=fN hp
  simp only[aO]at this
  have:=this.1;unfold OY at this;rw[ho]at this;exact this
 rcases h hE a w ha hw with ⟨_,v,h1,h2⟩ | ⟨h1,_⟩
 ·exact⟨o,v,ho,h1,h2⟩
 ·rw[hq]at h1;cases h1
theorem RL{o:Oper}(ho:l[i]?=some o)(hq:J0 o.op=false)(h:JD P l.toArray (X9 (Ed P l Q E0 r')) E0 [o] N m E)(hE:∀w,St E w->St E0 w){a:Act}{w:World}(ha:JP N m a)(hw:St E w):
  wpOp P l.toArray (λ_ _ _=>False) i (λa' w'=>St E0 w'/\Ed P l Q E0 r' a' w') a w:=by
 have ho':l.toArray[i]?=some o:=by simpa using ho
 unfold wpOp
 simp only[ho']
 rcases h hE a w ha hw with ⟨h1,_⟩ | ⟨_,h2⟩
 ·rw[hq]at h1;cases h1
 ·split
  ·rename_i g
   rw[if_pos g]at h2
   exact .inl h2
  ·rename_i g
   rw[if_neg g]at h2
   exact h2
theorem QFB(hp:Eg l r=none)(h:∀i∈r.filter (GQ l r),∃o,l[i]?=some o/\J0 o.op=false/\JD P l.toArray (X9 (Ed P l Q E0 (r.erase i))) E0 [o] N m E)(hr:r≠[]:=by decide):JT P l Q E0 r N m E:=by
 intro hE a w ha hw
 obtain⟨x,s,rfl⟩:=List.exists_cons_of_ne_nil hr
 show BX P l Q (St E0) (s.length+1) (x::s) a w
 unfold BX
 rw[hp]
 intro i hi hrd
 obtain⟨o,ho,hq,hj⟩:=h i (List.mem_filter.2 ⟨hi,hrd⟩)
 have:=RL ho hq hj hE ha hw
 refine wpOp_mono (λa' w' h=>⟨h.1,?_⟩) this
 have h2:=h.2
 unfold Ed at h2
 rw[show s.length=((x::s).erase i).length by have:=UM hi;simp at this;omega]
 exact h2
theorem Xa(i:Nat){o:Oper}(hp:Eg l r=none)(hl:r.filter (GQ l r)=[i])(ho:l[i]?=some o)(hq:J0 o.op=false)(he:r.erase i=r')(h:JD P l.toArray (X9 (Ed P l Q E0 r')) E0 [o] N m E)(hr:r≠[]:=by decide):JT P l Q E0 r N m E :=
 QFB hp (λk hk=>by rw[hl]at hk;cases List.mem_singleton.1 hk;exact⟨o,ho,hq,he ▸ h⟩) hr
theorem Ny(i j:Nat){o u:Oper}{r2:List Nat}(hp:Eg l r=none)(hl:r.filter (GQ l r)=[i,j])(ho:l[i]?=some o)(hu:l[j]?=some u)(hq:J0 o.op=false)(hq2:J0 u.op=false)(he:r.erase i=r')(he2:r.erase j=r2)
  (h:JD P l.toArray (X9 (Ed P l Q E0 r')) E0 [o] N m E) (h2:JD P l.toArray (X9 (Ed P l Q E0 r2)) E0 [u] N m E) (hr:r≠[]:=by decide):JT P l Q E0 r N m E :=
 QFB hp (λk hk=>by
  rw[hl]at hk
  simp only[aP,bc,or_false]at hk
  rcases hk with rfl | rfl
  ·exact⟨o,ho,hq,he ▸ h⟩
  ·exact⟨u,hu,hq2,he2 ▸ h2⟩) hr
theorem K7{id:Nat}{bs0:List (Nat×Obj)}(hb0:bs0.Sublist bs)(hm:P.follows .mixedOrders=true)(hB:RU l=true)(hr:eH 0 l.length=r)(h:JT P l (X9 (Q .normal)) ⟨w0,F0,bs0,G⟩ r N m ⟨w0,F0,bs,G⟩):J P (.region id l.toArray true) Q N m ⟨w0,F0,bs,G⟩:=λa w ha hw=>by
 subst hr
 refine RJ hm hB ((hw.imp hb0 λ_ h=>h).drew) ?_
 have:=h (λ_ h=>h.imp hb0 λ_ h=>h) a _ ha hw.drew
 simpa using this
theorem Y4(h:Fin Q .normal N m E):JT P l (X9 (Q .normal)) E0 [] N m E:=λ_=>h
end
end
end
def Kz(a:Rat×Rat)(n:Int):Rat×Rat:=(if(decide (n>0)&&(decide (n%2=0)&&(decide (ED a.1.num<0)&&decide (ED a.2.num>0))))=true then 0 else(KW (a.1^n.toNat) [a.2^n.toNat]).1,(KW (a.1^n.toNat) [a.2^n.toNat]).2)
def QGD(n:Int):Int:=if n<0\/n>12 then 3 else 0
theorem zj:JL 0<=1:=wa
end Go.Proofs.YtjcphjpkimmmjaaGreatDoor
namespace Ig
def Yo:List Int->List Int->Bool
 |x::a,y::b=>decide (y<x)||(decide (x=y)&&Yo a b)
 |_::_,[]=>true
 |[],_=>false
def before(a b:List Int):Bool:=decide (b.sum<a.sum)||(decide (a.sum=b.sum)&&Yo a b)
theorem Eo:∀a:List Int,Yo a a=false
 |[]=>rfl
 |x::a=>by simp[Yo,Eo a]
theorem NW:∀ {a b c:List Int},Yo a b=true->Yo b c=true->Yo a c=true
 |[],_,_,h,_=>by simp[Yo]at h
 |_::_,[],_,_,h=>by simp[Yo]at h
 |_::_,_::_,[],_,_=>rfl
 |x::a,y::b,z::c,h,k=>by
  simp only[Yo,bV,aO,decide_eq_true_eq]at h k ⊢
  rcases h with h | ⟨h,h'⟩<;>rcases k with k | ⟨k,k'⟩
  ·left;omega
  ·left;omega
  ·left;omega
  ·right;exact⟨O,NW h' k'⟩
theorem UF:∀a b:List Int,a=b\/Yo a b=true\/Yo b a=true
 |[],[]=>.inl rfl
 |[],_::_=>.inr (.inr rfl)
 |_::_,[]=>.inr (.inl rfl)
 |x::a,y::b=>by
  simp only[Yo,bV,aO,decide_eq_true_eq,fl]
  rcases eB x y with h | h | h
  ·right;right;left;omega
  ·rcases UF a b with k | k | k
   ·left;exact⟨h,k⟩
   ·right;left;right;exact⟨h,k⟩
   ·right;right;right;exact⟨h.symm,k⟩
  ·right;left;left;omega
theorem before_irrefl(a:List Int):before a a=false:=by simp[before,Eo]
theorem before_trans{a b c:List Int}(h:before a b=true)(k:before b c=true):before a c=true:=by
 simp only[before,bV,aO,decide_eq_true_eq]at h k ⊢
 rcases h with h | ⟨h,h'⟩<;>rcases k with k | ⟨k,k'⟩
 ·left;omega
 ·left;omega
 ·left;omega
 ·right;exact⟨O,NW h' k'⟩
theorem Wr(a b:List Int):a=b\/before a b=true\/before b a=true:=by
 simp only[before,bV,aO,decide_eq_true_eq]
 rcases eB a.sum b.sum with h | h | h
 ·right;right;left;exact h
 ·rcases UF a b with k | k | k
  ·left;exact k
  ·right;left;right;exact⟨h,k⟩
  ·right;right;right;exact⟨h.symm,k⟩
 ·right;left;left;exact h
theorem xJ{a b:List Int}(h:before a b=true):a≠b:=by
 rintro rfl;rw[before_irrefl]at h;cases h
theorem uz{a b:List Int}(h:before a b=true):before b a=false:=by
 cases hb:before b a with
 |false=>rfl
 |true=>have:=before_trans h hb;rw[before_irrefl]at this;cases this
abbrev Tm:=Rat×List Int
def Jn:List Tm->List Int->Rat
 |[],_=>0
 |t::p,k=>(if t.2=k then t.1 else 0)+Jn p k
theorem YB(p q:List Tm)(k:List Int):Jn (p++q) k=Jn p k+Jn q k:=by
 induction p with
 |nil=>simp[Jn,aC]
 |cons t p ih=>simp only[ae,Jn,ih,aQ]
structure Canon(p:List Tm):Prop where
 srt:p.Pairwise (λx y=>before x.2 y.2=true)
 nz:∀t∈p,t.1≠0
theorem Canon.nil:Canon []:=⟨bU,λ_ h=>by cases h⟩
theorem Canon.tail{t:Tm}{p:List Tm}(h:Canon (t::p)):Canon p:=⟨(List.pairwise_cons.1 h.srt).2,λx hx=>h.nz x (aK _ hx)⟩
theorem WX{p:List Tm}{k:List Int}(h:∀t∈p,t.2≠k):Jn p k=0:=by
 induction p with
 |nil=>rfl
 |cons t p ih=>rw[Jn,if_neg (h t we),ih (λx hx=>h x (by simp[hx])),aC]
theorem Canon.head{t:Tm}{p:List Tm}(h:Canon (t::p)):Jn (t::p) t.2=t.1:=by
 rw[Jn,if_pos rfl,WX,az]
 intro x hx e
 have:=(List.pairwise_cons.1 h.srt).1 x hx
 rw[e,before_irrefl]at this;cases this
theorem Canon.early{t:Tm}{p:List Tm}(h:Canon (t::p)){k:List Int}(hk:before k t.2=true):Jn (t::p) k=0:=WX λx hx e=>by
 rcases List.mem_cons.1 hx with rfl | hx
 ·rw[e,before_irrefl]at hk;cases hk
 ·have:=before_trans hk ((List.pairwise_cons.1 h.srt).1 x hx)
  rw[e,before_irrefl]at this;cases this
theorem My:∀ {p q:List Tm},Canon p->Canon q->(∀k,Jn p k=Jn q k)->p=q
 |[],[],_,_,_=>rfl
 |[],y::q,_,hq,h=>by
  have:=h y.2
  rw[hq.head]at this
  exact absurd this.symm (hq.nz y we)
 |x::p,[],hp,_,h=>by
  have:=h x.2
  rw[hp.head]at this
  exact absurd this (hp.nz x we)
 |x::p,y::q,hp,hq,h=>by
  rcases Wr x.2 y.2 with e | e | e
  ·have h1:=h x.2
   rw[hp.head]at h1
   have h2:=hq.head
   rw[<-e]at h2
   rw[h2]at h1
   have hxy:x=y:=Prod.ext h1 e
   subst hxy
   congr 1
   refine My hp.tail hq.tail (λk=>?_)
   have h3:=h k
   simp only[Jn]at h3
   generalize Jn p k=a at *
   generalize Jn q k=b at *
   grind
  ·have h1:=h x.2
   rw[hp.head,hq.early e]at h1
   exact absurd h1 (hp.nz x we)
  ·have h1:=h y.2
   rw[hq.head,hp.early e]at h1
   exact absurd h1.symm (hq.nz y we)
def Zk:List Tm->Tm->List Tm
 |[],t=>if t.1=0 then[]else[t]
 |x::p,t=>if before x.2 t.2=true then x::Zk p t else if x.2=t.2 then(if x.1+t.1=0 then p else(x.1+t.1,t.2)::p)else if t.1=0 then x::p else t::x::p
theorem CJ(p:List Tm)(t:Tm)(k:List Int):Jn (Zk p t) k=Jn p k+(if t.2=k then t.1 else 0):=by
 induction p with
 |nil =>
  unfold Zk
  split
  ·rename_i h;rw[h];simp[Jn,az]
  ·simp[Jn,aC,az]
 |cons x p ih =>
  unfold Zk
  split
  ·simp only[Jn,ih,aQ]
  ·split
   ·rename_i h
    split
    ·rename_i h0
     simp only[Jn]
     rw[h]
     by_cases hk:t.2=k
     ·simp only[hk,if_true]
      rw[aQ,bT (Jn p k),<-aQ,h0,aC]
     ·simp only[hk,if_false,aC,az]
    ·simp only[Jn]
     rw[h]
     by_cases hk:t.2=k
     ·simp only[hk,if_true]
      rw[aQ,aQ,bT t.1]
     ·simp only[hk,if_false,aC,az]
   ·split
    ·rename_i h0;rw[h0];simp[az]
    ·simp only[Jn];rw[bT]
theorem Mk{p:List Tm}{t x:Tm}(h:x∈Zk p t):x∈p\/x.2=t.2:=by
 induction p with
 |nil =>
  unfold Zk at h
  split at h
  ·cases h
  ·simp at h;subst h;exact .inr rfl
 |cons y p ih =>
  unfold Zk at h
  split at h
  ·rcases List.mem_cons.1 h with rfl | h
   ·exact .inl we
   ·rcases ih h with h | h
    ·exact .inl (by simp[h])
    ·exact .inr h
  ·split at h
   ·split at h
    ·exact .inl (by simp[h])
    ·rcases List.mem_cons.1 h with rfl | h
     ·exact .inr rfl
     ·exact .inl (by simp[h])
   ·split at h
    ·exact .inl h
    ·rcases List.mem_cons.1 h with rfl | h
     ·exact .inr rfl
     ·exact .inl h
theorem Canon.Zk{p:List Tm}(h:Canon p)(t:Tm):Canon (Ig.Zk p t):=by
 induction p with
 |nil =>
  unfold Ig.Zk
  split
  ·exact Canon.nil
  ·rename_i h0;exact⟨List.pairwise_singleton _ _,λx hx=>by simp at hx;subst hx;exact h0⟩
 |cons x p ih =>
  have hs:=List.pairwise_cons.1 h.srt
  unfold Ig.Zk
  split
  ·rename_i hb
   have hc:=ih h.tail
   refine⟨List.pairwise_cons.2 ⟨λy hy=>?_,hc.srt⟩,λy hy=>?_⟩
   ·rcases Mk hy with hy | hy
    ·exact hs.1 y hy
    ·rw[hy];exact hb
   ·rcases List.mem_cons.1 hy with rfl | hy
    ·exact h.nz _ we
    ·exact hc.nz y hy
  ·rename_i hb
   split
   ·rename_i he
    split
    ·exact h.tail
    ·rename_i h0
     refine⟨List.pairwise_cons.2 ⟨λy hy=>?_,hs.2⟩,λy hy=>?_⟩
     ·have:=hs.1 y hy;rw[he]at this;exact this
     ·rcases List.mem_cons.1 hy with rfl | hy
      ·exact h0
      ·exact h.nz y (by simp[hy])
   ·rename_i he
    split
    ·exact h
    ·rename_i h0
     have hb':before t.2 x.2=true:=by
      rcases Wr x.2 t.2 with q | q | q
      ·exact absurd q he
      ·exact absurd q hb
      ·exact q
     refine⟨List.pairwise_cons.2 ⟨λy hy=>?_,h.srt⟩,λy hy=>?_⟩
     ·rcases List.mem_cons.1 hy with rfl | hy
      ·exact hb'
      ·exact before_trans hb' (hs.1 y hy)
     ·rcases List.mem_cons.1 hy with rfl | hy
      ·exact h0
      ·exact h.nz y hy
def J6(l:List Tm):List Tm:=l.foldl Zk []
theorem SN(l:List Tm):∀ {p:List Tm},Canon p->Canon (l.foldl Zk p)/\∀k,Jn (l.foldl Zk p) k=Jn p k+Jn l k:=by
 induction l with
 |nil=>intro p h;exact⟨h,λk=>by simp[Jn,az]⟩
 |cons t l ih =>
  intro p h
  obtain⟨h1,h2⟩:=ih (h.Zk t)
  exact⟨h1,λk=>by rw[bp,h2,CJ,Jn,aQ]⟩
theorem Yt(l:List Tm):Canon (J6 l):=(SN l Canon.nil).1
theorem Wp(l:List Tm)(k:List Int):Jn (J6 l) k=Jn l k:=by
 rw[J6,(SN l Canon.nil).2,Jn,aC]
def Yh(p q:List Tm):Prop:=∀k,Jn p k=Jn q k
theorem Yh.refl(p:List Tm):Yh p p:=λ_=>rfl
theorem Yh.symm{p q:List Tm}(h:Yh p q):Yh q p:=λk=>(h k).symm
theorem Yh.trans{p q r:List Tm}(h:Yh p q)(h':Yh q r):Yh p r:=λk=>(h k).trans (h' k)
theorem Yh.append{p q p' q':List Tm}(h:Yh p p')(h':Yh q q'):Yh (p++q) (p'++q'):=λk=>by rw[YB,YB,h,h']
theorem NV{l m:List Tm}(h:Yh l m):J6 l=J6 m:=My (Yt l) (Yt m) λk=>by rw[Wp,Wp,h]
theorem IS{p l:List Tm}(hp:Canon p)(h:Yh p l):p=J6 l:=My hp (Yt l) λk=>by rw[Wp,h]
theorem R4{p:List Tm}(hp:Canon p):J6 p=p:=(IS hp (Yh.refl p)).symm
theorem Yh.perm{l m:List Tm}(h:l.Perm m):Yh l m:=by
 intro k
 induction h with
 |nil=>rfl
 |cons x _ ih=>rw[Jn,Jn,ih]
 |swap x y l=>simp only[Jn];rw[<-aQ,<-aQ];congr 1;exact bT _ _
 |trans _ _ h1 h2=>exact h1.trans h2
theorem Yh.cons{p q:List Tm}(t:Tm)(h:Yh p q):Yh (t::p) (t::q):=λk=>by rw[Jn,Jn,h]
theorem eqv_zero(t:List Int)(p:List Tm):Yh ((0,t)::p) p:=λk=>by simp[Jn,aC]
theorem eqv_filter(p:List Tm):Yh (p.filter (λt=>decide (t.1≠0))) p:=by
 induction p with
 |nil=>exact Yh.refl _
 |cons t p ih =>
  rw[List.filter_cons]
  split
  ·exact ih.cons t
  ·rename_i h
   have h0:t.1=0:=by simpa using h
   intro k
   rw[Jn,h0,ih k];simp[aC]
def XH(a b:List Int):List Int:=ik (·+·) a b
theorem xU(a b:List Int):XH a b=XH b a:=by
 unfold XH;rw[List.zipWith_comm];congr 1;funext x y;exact Int.add_comm _ _
theorem Ss:∀a b c:List Int,XH (XH a b) c=XH a (XH b c)
 |[],_,_=>by simp[XH]
 |_::_,[],_=>by simp[XH]
 |_::_,_::_,[]=>by simp[XH]
 |x::a,y::b,z::c=>by
  have:=Ss a b c
  simp only[XH,List.zipWith_cons_cons]at this ⊢
  rw[this,e8]
theorem Bm{a b:List Int}(h:a.length=b.length):(XH a b).length=a.length:=by simp[XH,h]
def OL(k a:List Int):List Int:=ik (· - ·) k a
theorem Nq:∀ {a b k:List Int},a.length=b.length->(XH a b=k↔k.length=a.length/\b=OL k a)
 |[],[],k,_=>by cases k<;>simp[XH,OL]
 |x::a,y::b,[],_=>by simp[XH]
 |x::a,y::b,z::k,h=>by
  have ih:=Nq (a:=a) (b:=b) (k:=k) (by simpa using h)
  simp only[XH,OL,List.zipWith_cons_cons,fl,af,Nat.add_right_cancel_iff]at ih ⊢
  rw[ih]
  constructor
  ·rintro⟨h1,h2,h3⟩;exact⟨h2,O,h3⟩
  ·rintro⟨h1,h2,h3⟩;exact⟨O,h1,h3⟩
def Jy(s:Tm)(q:List Tm):List Tm:=q.map λt=>(s.1*t.1,XH s.2 t.2)
def Jb(p q:List Tm):List Tm:=p.flatMap λs=>Jy s q
def ZO(n:Nat)(p:List Tm):Prop:=∀t∈p,t.2.length=n
theorem ZO.append{n:Nat}{p q:List Tm}(h:ZO n p)(k:ZO n q):ZO n (p++q):=λt ht=>by
 rcases List.mem_append.1 ht with ht | ht
 ·exact h t ht
 ·exact k t ht
theorem ZO.tail{n:Nat}{t:Tm}{p:List Tm}(h:ZO n (t::p)):ZO n p:=λx hx=>h x (by simp[hx])
theorem ZO.Jy{n:Nat}{s:Tm}{q:List Tm}(hs:s.2.length=n)(h:ZO n q):ZO n (Ig.Jy s q):=λt ht=>by
 obtain⟨u,hu,rfl⟩:=List.mem_map.1 ht
 show(XH s.2 u.2).length=n
 rw[Bm (by rw[hs,h u hu]),hs]
theorem ZO.Jb{n:Nat}{p q:List Tm}(h:ZO n p)(k:ZO n q):ZO n (Ig.Jb p q):=λt ht=>by
 obtain⟨s,hs,ht⟩:=List.mem_flatMap.1 ht
 exact k.Jy (h s hs) t ht
theorem ZO.Zk{n:Nat}{p:List Tm}{t:Tm}(h:ZO n p)(ht:t.2.length=n):ZO n (Ig.Zk p t):=λx hx=>by
 rcases Mk hx with hx | hx
 ·exact h x hx
 ·rw[hx];exact ht
theorem ZO.J6{n:Nat}{l:List Tm}(h:ZO n l):ZO n (Ig.J6 l):=by
 have:∀(l p:List Tm),ZO n p->ZO n l->ZO n (l.foldl Ig.Zk p):=by
  intro l
  induction l with
  |nil=>intro p hp _;exact hp
  |cons t l ih=>intro p hp hl;exact ih _ (hp.Zk (hl t we)) hl.tail
 exact this l [] (λ_ h=>by cases h) h
theorem Be{n:Nat}{s:Tm}{q:List Tm}(hs:s.2.length=n)(h:ZO n q)(k:List Int):Jn (Jy s q) k=if k.length=n then s.1*Jn q (OL k s.2)else 0:=by
 induction q with
 |nil=>simp[Jy,Jn,fe]
 |cons t q ih =>
  have ht:t.2.length=n:=h t we
  have hk:=Nq (a:=s.2) (b:=t.2) (k:=k) (by rw[hs,ht])
  rw[Jy,aj,Jn]
  show(if XH s.2 t.2=k then s.1*t.1 else 0)+Jn (Jy s q) k=_
  rw[ih h.tail]
  by_cases hl:k.length=n
  ·rw[if_pos hl,if_pos hl,Jn,Rat.mul_add]
   congr 1
   by_cases e:XH s.2 t.2=k
   ·rw[if_pos e,if_pos (hk.1 e).2]
   ·rw[if_neg e,if_neg (λq=>e (hk.2 ⟨by rw[hl,hs],q⟩)),fe]
  ·rw[if_neg hl,if_neg hl,if_neg (λe=>hl (by rw[(hk.1 e).1,hs])),aC]
theorem XO(s:Tm)(p q:List Tm):Jb (s::p) q=Jy s q++Jb p q:=by simp[Jb]
theorem Yh.QAE{n:Nat}{p q q':List Tm}(hp:ZO n p)(hq:ZO n q)(hq':ZO n q')(h:Yh q q'):Yh (Jb p q) (Jb p q'):=by
 induction p with
 |nil=>exact Yh.refl _
 |cons s p ih =>
  rw[XO,XO]
  refine Yh.append (λk=>?_) (ih hp.tail)
  rw[Be (hp s we) hq,Be (hp s we) hq',h]
theorem Dt(p q:List Tm):(Jb p q).Perm (Jb q p):=by
 induction p with
 |nil =>
  have:Jb q []=[]:=by simp[Jb,Jy]
  rw[this];exact ar _
 |cons s p ih =>
  rw[XO]
  refine(eP _ ih).trans ?_
  clear ih
  induction q with
  |nil=>exact ar _
  |cons t q ih =>
   rw[XO,XO]
   show((s.1*t.1,XH s.2 t.2)::(Jy s q++(Jy t p++Jb q p))).Perm ((t.1*s.1,XH t.2 s.2)::(Jy t p++Jb q (s::p)))
   rw[Rat.mul_comm t.1,xU t.2]
   refine List.Perm.cons _ ?_
   refine List.Perm.trans ?_ (eP _ ih)
   rw[<-aY,<-aY]
   exact List.Perm.append_right _ aV
theorem Yh.prod{n:Nat}{p p' q q':List Tm}(hp:ZO n p)(hp':ZO n p')(hq:ZO n q)(hq':ZO n q')(h:Yh p p')(k:Yh q q'):Yh (Jb p q) (Jb p' q') :=
 (Yh.QAE hp hq hq' k).trans ((Yh.perm (Dt p q')).trans ((Yh.QAE hq' hp hp' h).trans (Yh.perm (Dt q' p'))))
theorem TI(s t:Tm)(q:List Tm):Jy s (Jy t q)=Jy (s.1*t.1,XH s.2 t.2) q:=by
 simp only[Jy,e9]
 congr 1;funext u
 simp[ij,Ss]
theorem GN(s:Tm)(p q:List Tm):Jy s (p++q)=Jy s p++Jy s q:=by simp[Jy]
theorem Uq(s:Tm)(p q:List Tm):Jy s (Jb p q)=Jb (Jy s p) q:=by
 induction p with
 |nil=>rfl
 |cons t p ih =>
  rw[XO,GN,ih,TI]
  show _=Jb ((s.1*t.1,XH s.2 t.2)::Jy s p) q
  rw[XO]
theorem V5(p p' q:List Tm):Jb (p++p') q=Jb p q++Jb p' q:=by simp[Jb]
theorem IB(p q r:List Tm):Jb (Jb p q) r=Jb p (Jb q r):=by
 induction p with
 |nil=>rfl
 |cons s p ih=>rw[XO,V5,ih,XO,Uq]
end Ig
namespace Go.Proofs.YtjcphjpkimmmjaaGreatDoor
variable{s:List UInt8}{N c cap i j k m n:Nat}{w:World}{F F':Gs}{t z:Int}{T et kt:TypeId}{x y:Operand}{g:FuncId}{a b l o out u:List Int}{ob:List (Nat×Obj)}{cs rest:List Value}{Q:Exit->Act->World->Prop}{P:Program}{α ι:Type}{f:Rat->Rat->Rat}{seen:List Nat}
open Go.RowKit Ig
section
variable[Dr]
def PW(l:List Int):Prop:=(∀x∈l,0<=x/\x<=1000000)/\l.length<=1000
theorem PW.el(h:PW l){i:Nat}(hi:i<l.length):0<=Qf l i/\Qf l i<=1000000:=by rw[KD hi];exact h.1 _ (Q4 hi)
theorem Ra(hi:i<l.length):(l.take (i+1)).sum=(l.take i).sum+Qf l i:=by
 rw[XN hi,eJ,KD hi];simp
theorem PW.sum(h:PW l):∀i,i<=l.length->0<=(l.take i).sum/\(l.take i).sum<=i*1000000:=by
 intro i
 induction i with
 |zero=>intro _;simp
 |succ i ih =>
  intro hi
  have h1:=ih O
  have h2:=h.el (i:=i) O
  rw[Ra O]
  omega
theorem Ct(l:List Int):Qn l=Qn (l.map λx=>x):=by rw[List.map_id']
def L0:List Int->List Int->Int
 |[],[]=>0
 |[],_::_=>-1
 |_::_,[]=>1
 |x::a,y::b=>if YP x y≠0 then YP x y else L0 a b
theorem Uu:∀a b:List Int,(L0 b a<0↔Yo a b=true)/\(L0 b a=0↔a=b)
 |[],[]=>by simp[L0,Yo]
 |[],_::_=>by simp[L0,Yo]
 |_::_,[]=>by simp[L0,Yo]
 |x::a,y::b=>by
  have ih:=Uu a b
  unfold L0 Yo YP
  by_cases h1:y<x
  ·simp[h1];omega
  ·by_cases h2:y=x
   ·subst h2;simp[ih.1,ih.2]
   ·have h3:¬x=y:=λe=>h2 e.symm
    simp[h1,h2,h3]
theorem Pl(x y:Int):ib x y=YP x y:=by
 unfold ib YP
 by_cases h1:x<y
 ·simp[h1]
 ·by_cases h2:x=y
  ·subst h2;simp
  ·have h3:y<x:=O
   simp[h1,h2,h3]
def GC(a b:List Int):Int:=Qn [YP b.sum a.sum,L0 b a]
theorem Hg(a b:List Int):before a b=decide (GC a b<0):=by
 obtain⟨h1,h2⟩:=Uu a b
 unfold before GC
 rw[fO,decide_eq_true_iff]
 simp only[Qn]
 by_cases h:b.sum<a.sum
 ·have e:YP b.sum a.sum = -1:=by unfold YP;rw[if_pos h]
  rw[e];simp[h]
 ·by_cases g:b.sum=a.sum
  ·have e:YP b.sum a.sum=0:=by unfold YP;rw[if_neg h,if_pos g]
   rw[e]
   by_cases k:L0 b a=0
   ·have hf:Yo a b=false:=by cases hl:Yo a b with
     |false=>rfl
     |true=>have:=h1.2 hl;omega
    simp[k,g,hf]
   ·simp[k,g,h1]
  ·have e:YP b.sum a.sum=1:=by unfold YP;rw[if_neg h,if_neg g]
   have g2:¬a.sum=b.sum:=λe=>g e.symm
   rw[e];simp[h,g2]
theorem QCD(h:GC a b=0):a=b:=by
 rcases Wr a b with q | q | q
 ·exact q
 ·rw[Hg]at q;have:=wM q;omega
 ·
  obtain⟨h1,h2⟩:=Uu a b
  unfold GC at h
  simp only[Qn]at h
  split at h
  ·split at h
   ·exact h2.1 (by assumption)
   ·exact absurd h (by assumption)
  ·exact absurd h (by assumption)
def Kq(l:List Int):List UInt8:=l.flatMap λx=>ia x++[32]
theorem Gj(x:Int)(l:List Int):Kq (x::l)=Zf x++32::Kq l:=by unfold Kq;rw[bt];simp[Zf]
theorem Ep:∀ {a b:List Int},Kq a=Kq b->a=b
 |[],[],_=>rfl
 |[],y::b,h=>by rw[Gj]at h;simp[Kq]at h
 |x::a,[],h=>by rw[Gj]at h;simp[Kq]at h
 |x::a,y::b,h=>by
  rw[Gj,Gj]at h
  have h1:=Sc (c:=32) (a:=Zf x) (b:=Kq a) (Ej x wa wa)
  have h2:=Sc (c:=32) (a:=Zf y) (b:=Kq b) (Ej y wa wa)
  rw[h,h2]at h1
  simp only[Prod.mk.injEq,and_true]at h1
  have e:x=y:=by rw[<-K8 x,<-K8 y,h1.1]
  rw[e,Ep h1.2.symm]
theorem Tw{r:Sr}(hF:Fits F w)(hR:J7 F r l)(hp:PW l):Qe Tryz.prog 318 [r.v] w F (.int .i64 l.sum):=by
 obtain⟨q,n,c⟩:=r
 have hln:=hR.2.1
 dsimp only[Sr.v]at hln ⊢
 have hl1:=hp.2
 refine QS.intro (G:=λF=>J7 F ⟨q,n,c⟩ l) Tryz.func318 rfl wc rfl rfl hF (λF' hF'=>hR.le hF')<|wI<|wH rfl<|wI<|wH rfl<|QG<|wJ rfl<|QA (Qh rfl Q2)<|wE rfl<|wG<|QU<|ZK (ι:={i:Nat // i<=l.length}) [(6,_),(7,_)] (λi=>[(3,.int .i64 ((l.take i.1).sum)),(8,.int .i64 ((i.1:Nat):Int))]) (λi=>l.length - i.1) (⟨0,av _⟩) wP wP (λi=>?_)
 simp only[ae,ag]
 have hi:=i.2
 have hs:=hp.sum i.1 hi
 refine wI<|QA (QZ I I I)<|wG<|QG ?_
 refine QR I (λhc=>?_) (λhc=>?_)
 ·
  have hlt:i.1<l.length:=by have:=wM hc;omega
  have he:=hp.el hlt
  refine QQ<|QC<|QG<|QU<|wI<|QA (Q9 (n:=n) (i.1) (λF hR=>(hR).1) rfl rfl Q2 JR O)<|QA (Jd (n:=n) ((i.1)*1) (λF hR=>(hR).1) O rfl JR (XR (o:=l) O))<|wH I<|QB<|wE I<|wE I<|QA (Qu I I O)<|wF I<|QE<|Qk<|QC<|QB<|QA (Qu I I O)<|wE I<|QE ?_
  exact Ql (⟨i.1+1,hlt⟩) (by show l.length - (i.1+1)<l.length - i.1;omega) ⟨rfl,rfl,(congrArg (λz:Int=>some (au .i64 z)) (Ra hlt).symm),rfl,trivial⟩ wK wi
 ·
  have hge:i.1=l.length:=by have:=wN hc;omega
  refine Qz ?_
  repeat (first | refine QW ?_ | refine QP wc ?_)
  refine QX<|QC<|wJ I<|wH I<|QY ?_
  exact wL I I (congrArg (au .i64) (by rw[aD O])) wh
theorem pR{q:Option Addr}(hF:Fits F w)(hR:Qy F q n 1 (l.map JY))(hn:n<=1000000000):Qe Tryz.prog 316 [.slice q n c] w F (.int .i64 (Qn l)):=by
 have hln:l.length=n:=by have:=hR.1;simpa using this
 have em:l=l.map (λx=>x):=we
 refine QS.intro (G:=λF=>Qy F q n 1 (l.map JY)) Tryz.func316 rfl wc rfl rfl hF (λF' hF'=>hR.le hF')<|wI<|wH rfl<|wI<|wH rfl<|QG<|wJ rfl<|QA (Qh rfl Q2)<|wE rfl<|wG<|QU<|ZK (ι:=Zv l (λx=>x)) [(3,_),(6,_),(7,_)] (λi=>[(8,.int .i64 ((i.i:Nat):Int))]) (λi=>l.length - i.i) (Zv.start _ _) wQ wO (λi=>?_)
 simp only[ae,ag]
 have hi:=i.le
 refine wI<|QA (QZ I I I)<|wG<|QG ?_
 refine QR I (λhc=>?_) (λhc=>?_)
 ·
  have hlt:i.i<l.length:=by have:=wM hc;omega
  refine QQ<|QC<|QG<|QU<|wI<|QA (Q9 (n:=n) i.i wi rfl rfl Q2 JR O)<|QA (Jd (n:=n) ((i.i)*1) wi O rfl JR (XR (o:=l) O))<|wH I<|wJ I<|wE I<|QA (QZ I I I)<|QE<|QC ?_
  refine QR I (λhc=>?_) (λhc=>?_)
  ·
   refine wJ I<|wH I<|QY ?_
   repeat (first | refine JA ?_ | refine Q5 ?_)
   exact wL I I (congrArg (au .i64) (by rw[KD hlt,Ct l];exact i.hit hlt (by rw[<-KD hlt];simpa using hc))) wh
  ·
   refine QQ<|Qk<|QC<|QB<|QA (Qu I I O)<|wE I<|QE ?_
   exact Ql (i.next hlt (by rw[<-KD hlt];simpa using hc)) (by show l.length - (i.i+1)<l.length - i.i;omega) wR wK wi
 ·
  have hge:l.length<=i.i:=by have:=wN hc;omega
  refine Qz ?_
  repeat (first | refine QW ?_ | refine QP wc ?_)
  refine QX<|QC<|wJ I<|wH I<|QY ?_
  exact wL I I (congrArg (au .i64) (by rw[Ct l];exact i.stop hge)) wh
structure QCP(a b:List Int) where
 i:Nat
 la:i<=a.length
 lb:i<=b.length
 h:L0 a b=L0 (a.drop i) (b.drop i)
theorem QCP.cons(s:QCP a b)(ha:s.i<a.length)(hb:s.i<b.length):L0 a b=if YP (Qf a s.i) (Qf b s.i)≠0 then YP (Qf a s.i) (Qf b s.i)else L0 (a.drop (s.i+1)) (b.drop (s.i+1)):=by
 rw[s.h,XZ ha,XZ hb,L0]
theorem Fs{ra rb:Sr}(hF:Fits F w)(hA:J7 F ra a)(hB:J7 F rb b)(la:a.length<=1000000)(lb:b.length<=1000000):Qe Tryz.prog 319 [ra.v,rb.v] w F (.int .i64 (L0 a b)):=by
 obtain⟨q,n,c⟩:=ra
 obtain⟨q',n',c'⟩:=rb
 have na:=hA.2.1
 have nb:=hB.2.1
 dsimp only[Sr.v]at na nb ⊢
 refine QS.intro (G:=λF=>J7 F ⟨q,n,c⟩ a/\J7 F ⟨q',n',c'⟩ b) Tryz.func319 rfl wc rfl rfl hF (λF' hF'=>⟨hA.le hF',hB.le hF'⟩)<|wI<|wH rfl<|QG<|wJ rfl<|QA (Qh rfl Q2)<|wE rfl<|wG<|QU<|ZK (ι:=QCP a b) [(0,_),(1,_),(9,_),(10,_)] (λi=>[(11,.int .i64 ((i.i:Nat):Int))]) (λi=>a.length - i.i) (⟨0,av _,av _,rfl⟩) wR wO (λi=>?_)
 simp only[ae,ag]
 have hla:=i.la
 have hlb:=i.lb
 refine wI<|QA (QZ I I I)<|wG<|QG ?_
 refine QR I (λhc=>?_) (λhc=>?_)
 ·
  have hlt:i.i<a.length:=by have:=wM hc;omega
  refine QQ<|QC<|QG<|QU<|wJ I<|QA (Q9 (n:=n) i.i (λF h9=>(h9.1).1) rfl rfl Q2 JR O)<|QA (Jd (n:=n) ((i.i)*1) (λF h9=>(h9.1).1) O rfl JR (XR (o:=a) O))<|wF I<|wH I<|QG<|wJ I<|wE I<|QA (Qh I Q2)<|QA (QZ I I I)<|QE<|QC ?_
  refine QR I (λhc=>?_) (λhc=>?_)
  ·
   have hge2:b.length<=i.i:=by have:=wM hc;omega
   refine wI<|wH I<|QY ?_
   repeat (first | refine JA ?_ | refine Q5 ?_)
   exact wL I I (congrArg (au .i64) (by rw[i.h,XZ hlt,ao hge2];rfl)) wh
  ·
   have hlt2:i.i<b.length:=by have:=wN hc;omega
   refine QQ<|QC<|wJ I<|wE I<|QA (Q9 (n:=n') i.i (λF h9=>(h9.2).1) rfl rfl Q2 JR O)<|QA (Jd (n:=n') ((i.i)*1) (λF h9=>(h9.2).1) O rfl JR (XR (o:=b) O))<|wH I<|wJ I<|wE I<|QI I (λw F hF h9=>MA hF ) (λ_=>wH I<|wJ I<|QA (QZ I I I)<|QE<|QC ?_)
   refine QR I (λhc=>?_) (λhc=>?_)
   ·
    refine wJ I<|wH I<|QY ?_
    repeat (first | refine JA ?_ | refine Q5 ?_)
    exact wL I I (congrArg (au .i64) (by rw[i.cons hlt hlt2,if_pos (by rw[<-Pl];simpa using hc),Pl])) wh
   ·
    refine QQ<|Qk<|QC<|QB<|QA (Qu I I O)<|wE I<|QE ?_
    exact Ql (⟨i.i+1,hlt,hlt2,by rw[i.cons hlt hlt2,if_neg (by rw[<-Pl];simpa using hc)]⟩) (by show a.length - (i.i+1)<a.length - i.i;omega) wS wK wj
 ·
  have hge:a.length<=i.i:=by have:=wN hc;omega
  refine Qz ?_
  repeat (first | refine QW ?_ | refine QP wc ?_)
  refine QX<|QC<|QG<|wJ I<|QA (Qh I Q2)<|wE I<|QA (Qh I Q2)<|QA (QZ I I I)<|QE<|QC ?_
  refine QR I (λhc=>?_) (λhc=>?_)
  ·
   have hlt3:=wM hc
   refine wI<|wH I<|QY ?_
   exact wL I I (congrArg (au .i64) (by rw[i.h,ao hge,XZ (l:=b) (k:=i.i) O];rfl)) wh
  ·
   have hlt3:=wN hc
   refine QQ<|QC<|wI<|wH I<|QY ?_
   exact wL I I (congrArg (au .i64) (by rw[i.h,ao hge,ao O];rfl)) wh
theorem Ru{ra rb:Sr}(hF:Fits F w)(hA:J7 F ra a)(hB:J7 F rb b)(pa:PW a)(pb:PW b):Qe Tryz.prog 284 [ra.v,rb.v] w F (.int .i64 (GC a b)):=by
 have la:=pa.2
 have lb:=pb.2
 dsimp only[Sr.v]
 refine QS.intro (G:=λF=>J7 F ra a/\J7 F rb b) Tryz.func284 rfl wc rfl rfl hF (λF' hF'=>⟨hA.le hF',hB.le hF'⟩)<|wI<|wH rfl<|wJ rfl<|QI rfl (λw F hF h9=>Tw hF (r:=rb) h9.2 (pb)) (λ_=>wE rfl<|QI rfl (λw F hF h9=>Tw hF (r:=ra) h9.1.1 (pa)) (λ_=>QI rfl (λw F hF h9=>MA hF ) (λ_=>?_)))
 rw[Pl]
 refine wE I<|wE I<|QI I (λw F hF h9=>Fs hF (ra:=rb) (rb:=ra) h9.1.1.1.2 (h9.1.1.1.1) O O) (λ_=>Qa I (Qw Q2) JR N3 I I (λb13=>QI I (λw F hF h9=>pR hF (Qy.of (cs:=fS JY [YP b.sum a.sum,L0 b a]) h9.2 I) wa) (λ_=>wH I<|QY ?_)))
 exact wL I I (rfl) wh
end
def Xd{κ:Type}(K:κ->Value):List (κ×Value)->Nat->List MapEntry
 |[],_=>[]
 |x::l,i=>⟨K x.1,x.2,i⟩::Xd K l (i+1)
def Z9{κ:Type}(K:κ->Value)(l:List (κ×Value)):Obj:=.map (Xd K l 0).toArray l.length
def KM{κ:Type}[DecidableEq κ]:List (κ×Value)->κ->Nat->Option (Nat×Value)
 |[],_,_=>none
 |x::l,k,i=>if k=x.1 then some (i,x.2)else KM l k (i+1)
def N9{κ:Type}[DecidableEq κ]:List (κ×Value)->κ->Value->List (κ×Value)
 |[],k,v=>[(k,v)]
 |x::l,k,v=>if k=x.1 then(k,v)::l else x::N9 l k v
structure Ll(P:Program)(kt:TypeId){κ:Type}[DecidableEq κ](K:κ->Value):Prop where
 chk:∀e w k,(Instr.checkKey e 10000 kt (K k)).run P w = .ok () w
 find:∀w k (l:List (κ×Value)),(Instr.findKey kt (K k) (Xd K l 0)).run P w = .ok (KM l k 0) w
 same:∀k,Instr.sameBits 10000 (K k) (K k)=true
section
variable{κ:Type}{K:κ->Value}
theorem Mv:∀(l:List (κ×Value)) i,(Xd K l i).length=l.length
 |[],_=>rfl
 |_::l,i=>by simp[Xd,Mv l]
theorem SX:∀(l:List (κ×Value)) i k v,Xd K (l++[(k,v)]) i=Xd K l i++[⟨K k,v,i+l.length⟩]
 |[],i,k,v=>by simp[Xd]
 |x::l,i,k,v=>by
  simp only[ae,Xd,SX l,af]
  rw[show i+1+l.length=i+(l.length+1)from by omega]
theorem Gm:∀(l:List (κ×Value)) (i j:Nat),(Xd K l i)[j]?=l[j]?.map λx=>(⟨K x.1,x.2,i+j⟩:MapEntry)
 |[],_,_=>by simp[Xd]
 |x::l,i,0=>by simp[Xd]
 |x::l,i,j+1=>by
  simp only[Xd,eZ,Gm l]
  rw[show i+1+j=i+(j+1)from by omega]
theorem UN:∀(l:List (κ×Value)) i j k v,Xd K (l.set j (k,v)) i=(Xd K l i).modify j λe=>{ e with key:=K k,val:=v }
 |[],_,_,_,_=>by simp[Xd]
 |x::l,i,0,k,v=>by simp[Xd]
 |x::l,i,j+1,k,v=>by simp[Xd,UN l]
theorem D3:∀(l:List (κ×Value)) i,∀e∈Xd K l i,i<=e.born/\e.born<i+l.length
 |[],_,e,h=>by cases h
 |x::l,i,e,h=>by
  simp only[Xd,aP]at h
  rcases h with rfl | h
  ·simp
  ·have:=D3 l (i+1) e h
   simp only[af];omega
theorem Ni:∀(l:List (κ×Value)) i,((Xd K l i).map (·.born)).Nodup
 |[],_=>eN
 |x::l,i=>by
  simp only[Xd,aj]
  refine List.nodup_cons.2 ⟨λh=>?_,Ni l (i+1)⟩
  obtain⟨e,he,h⟩:=List.mem_map.1 h
  have:=(D3 l (i+1) e he).1
  omega
variable[DecidableEq κ]
theorem D1:∀ {l:List (κ×Value)} {k i j v},KM l k i=some (j,v)->i<=j/\j - i<l.length/\l[j - i]?=some (k,v)
 |[],_,_,_,_,h=>by cases h
 |x::l,k,i,j,v,h=>by
  simp only[KM]at h
  split at h
  ·rename_i e
   cases h
   subst e
   simp
  ·obtain⟨h1,h2,h3⟩:=D1 h
   refine⟨O,by simp only[af];omega,?_⟩
   rw[show j - i=(j - (i+1))+1 from by omega,eZ];exact h3
theorem Tv:∀ {l:List (κ×Value)} {k v i},KM l k i=none->N9 l k v=l++[(k,v)]
 |[],_,_,_,_=>rfl
 |x::l,k,v,i,h=>by
  simp only[KM]at h
  split at h
  ·cases h
  ·rename_i e
   simp only[N9,if_neg e,ae,Tv h]
theorem Tu:∀ {l:List (κ×Value)} {k v i j u},KM l k i=some (j,u)->N9 l k v=l.set (j - i) (k,v)
 |[],_,_,_,_,_,h=>by cases h
 |x::l,k,v,i,j,u,h=>by
  simp only[KM]at h
  split at h
  ·rename_i e
   cases h
   simp[N9,e]
  ·rename_i e
   have:=(D1 h).1
   simp only[N9,if_neg e,Tu h]
   rw[show j - i=(j - (i+1))+1 from by omega];rfl
end
theorem OS(a b:List UInt8):Instr.sameNow .string (tx a) (tx b)=some (decide (a=b)):=by
 show some ((⟨a.toArray⟩:ByteArray)==⟨b.toArray⟩)=_
 congr 1
 rw[fO,decide_eq_true_iff,fm]
 constructor
 ·intro h;cases h;rfl
 ·intro h;rw[h]
theorem SQ(k:List UInt8):∀(l:List (List UInt8×Value)) (i n:Nat),fU .string (tx k) (Xd tx l n) i=some (KM l k i)
 |[],_,_=>rfl
 |x::l,i,n=>by
  simp only[Xd,fU,OS,KM]
  by_cases h:k=x.1
  ·simp[h]
  ·simp[h,SQ k l]
theorem Ll.str(h:P.underlying kt=some .string):Ll P kt tx where
 chk:=λe w k=>MapKept.run_checkKey (k:=tx k) h (by simp[MapKept.IsKey,tx]) e 9999
 find:=λw k l=>MapKept.run_findKey h (SQ k l 0 0)
 same:=λk=>by
  show(fG k.toArray==fG k.toArray)=true
  rw[fm]
def zvB(P:Program)(T:TypeId):Option Value:=match P.info? T with
 |some i=>i.zero
 |none=>none
theorem dV{z:Value}(h:zvB P T=some z)(w:World):(zeroValue T).run P w = .ok z w:=by
 unfold zvB at h
 split at h
 ·rename_i i hi
  simp[zeroValue,typeInfo,hi,h]
 ·cases h
def Ou(P:Program)(T kt et:TypeId):Bool:=match P.underlying T with | some (.map k e)=>Nat.beq k kt&&Nat.beq e et | _=>false
theorem AN(h:Ou P T kt et=true):P.underlying T=some (.map kt et):=by
 unfold Ou at h
 split at h
 ·rename_i e
  simp only[aO]at h
  have h1:=fi h.1
  have h2:=fi h.2
  rw[e,h1,h2]
 ·cases h
section
variable[Dr][df:Df]{P:Program}{Q:Exit->Act->World->Prop}{N:Nat}{m:Sl}{E E0:Env}{ops:Array Oper}{l:List Oper}{w0:World}{F0:Gs}{bs:List (Nat×Obj)}{G:Gs->Prop}{d:Nat}{ty:TypeId}{pos:String}{aft:Array Edge}
theorem Hn{κ:Type}(K:κ->Value){T:TypeId}(k:∀b,JS P ops Q l N ((d,.map (some b))::m) ⟨w0,F0,(b,Z9 K [])::bs,G⟩)(hd:J5 N (some d)=true:=by rfl):
  JS P ops Q (⟨some d,.makeMap T none,ty,pos,aft,none⟩::l) N m ⟨w0,F0,bs,G⟩:=λa w ha hw=>by
 have hrun:(execOp a.eval ⟨some d,.makeMap T none,ty,pos,aft,none⟩).run P w = .ok (.value (.map (some w.heap.size))) (w.alloc (.map #[] 0)):=by
  simp[execOp,Instr.makeMap]
 exact wpList_plain rfl λKk hK=>upon_value hrun (hK _ _ (k _ _ _ (ha.put hd _) (hw.alloc _ (λc fr e=>by cases e))))
variable{κ:Type}[DecidableEq κ]{K:κ->Value}{kv:List (κ×Value)}{b:Nat}{f:Obj->List (Nat×Obj)}
theorem yh{k:κ}{v:Value}(hq:Ll P kt K)(hx:ev m x=some (.map (some b)))(hy:ev m y=some (K k))(ht:Ou P T kt et=true)(ho:Own bs b (Z9 K kv) f)(hf:KM kv k 0=some (i,v)):
  Qt P N m (St ⟨w0,F0,bs,G⟩) (.lookup T x y true) ty (.tuple #[v,.bool true]):=λa w _ _ _ _ ha hw=>by
 have hb:=hw.own ho
 unfold Z9 at hb
 have hu:=AN ht
 simp[execOp,ha.ev hx,ha.ev hy,ic,run_underlying hu,bD hb,hq.chk,hq.find,hf]
theorem jS{k:κ}{z:Value}(hq:Ll P kt K)(hx:ev m x=some (.map (some b)))(hy:ev m y=some (K k))(ht:Ou P T kt et=true)(hz:zvB P et=some z)(ho:Own bs b (Z9 K kv) f)(hf:KM kv k 0=none):
  Qt P N m (St ⟨w0,F0,bs,G⟩) (.lookup T x y true) ty (.tuple #[z,.bool false]):=λa w _ _ _ _ ha hw=>by
 have hb:=hw.own ho
 unfold Z9 at hb
 have hu:=AN ht
 simp[execOp,ha.ev hx,ha.ev hy,ic,run_underlying hu,bD hb,hq.chk,hq.find,hf,dV hz]
theorem Uf{z:Operand}{k:κ}{v:Value}(hq:Ll P kt K)(hx:ev m x=some (.map (some b)))(hy:ev m y=some (K k))(hz:ev m z=some v)(ht:Ou P T kt et=true)(ho:Own bs b (Z9 K kv) f)
  (kk:JS P ops Q l N m ⟨w0,F0,f (Z9 K (N9 kv k v)),G⟩):JS P ops Q (⟨none,.mapUpdate T x y z,ty,pos,aft,none⟩::l) N m ⟨w0,F0,bs,G⟩:=λa w ha hw=>by
 have hb:=hw.own ho
 obtain⟨pre,post,e1,e2⟩:=ho.split
 subst e1
 rw[e2]at kk
 have hu:=AN ht
 have hb':=hb
 unfold Z9 at hb'
 have hrun:(execOp a.eval ⟨none,.mapUpdate T x y z,ty,pos,aft,none⟩).run P w = .ok .skip { w with heap:=w.heap.setIfInBounds b (Z9 K (N9 kv k v)) }:=by
  cases hf:KM kv k 0 with
  |none =>
   have e:Z9 K (N9 kv k v) = .map ((Xd K kv 0).toArray.push ⟨K k,v,kv.length⟩) (kv.length+1):=by
    rw[Tv hf];simp[Z9,SX]
   rw[e]
   simp[execOp,ha.ev hx,ha.ev hy,ha.ev hz,fL,run_underlying hu,bD hb',hq.chk,hq.find,hf,eU _ hb']
  |some r =>
   obtain⟨i,u⟩:=r
   obtain⟨_,h2,h3⟩:=D1 hf
   rw[fg]at h2 h3
   have e:Z9 K (N9 kv k v) = .map ((Xd K kv 0).toArray.modify i λe=>{ e with key:=K k,val:=v }) kv.length:=by
    rw[Tu hf]
    unfold Z9
    rw[fg,UN,aI]
    congr 1
    apply iB
    simp
   have hk:((((Xd K kv 0).toArray[i]?).map (·.key)).getD (K k))=K k:=by
    simp[Gm,h3]
   rw[e]
   simp only[execOp,ha.ev hx,ha.ev hy,ha.ev hz,fL,iy,run_underlying hu,bD hb',hq.chk,hq.find,hf,fw,hk,Instr.keyThatStays,hq.same,if_true,ix,eU _ hb']
 exact wpList_plain rfl λKk hK=>upon_skip hrun (hK _ _ (kk _ _ ha (hw.write pre ⟨rfl,rfl,rfl,rfl,rfl⟩ (λc fr e=>by cases e))))
def nxA(kv:List (κ×Value))(K:κ->Value):Option Nat->Array Value
 |some j=>match kv[j]? with
  |some p=>#[.bool true,K p.1,p.2]
  |none=>#[.bool true]
 |none=>#[.bool false]
def nxS(seen:List Nat):Option Nat->List Nat
 |some j=>seen++[j]
 |none=>seen
def nxP(n:Nat)(seen:List Nat):Option Nat->Prop
 |some j=>j<n/\j∉seen
 |none=>∀j,j<n->j∈seen
omit [DecidableEq κ] in
theorem QEI(x:Option Nat):(nxA kv K x)[0]?=some (.bool x.isSome):=by
 cases x with
 |none=>rfl
 |some j =>
  simp only[nxA]
  cases kv[j]?<;>rfl
def xo(b n:Nat)(seen:List Nat):Obj:=.mapIter (some b) n seen.toArray n
omit [DecidableEq κ] in
theorem Lo(hx:ev m x=some (.map (some b)))(ht:Ou P T kt et=true)(ho:Own bs b (Z9 K kv) f)(k:∀r,JS P ops Q l N ((d,.pointer (some ⟨r,0,none⟩))::m) ⟨w0,F0,(r,xo b kv.length [])::bs,G⟩)(hd:J5 N (some d)=true:=by rfl):
  JS P ops Q (⟨some d,.range T x,ty,pos,aft,none⟩::l) N m ⟨w0,F0,bs,G⟩:=λa w ha hw=>by
 have hb:=hw.own ho
 unfold Z9 at hb
 have hrun:(execOp a.eval ⟨some d,.range T x,ty,pos,aft,none⟩).run P w = .ok (.value (.pointer (some ⟨w.heap.size,0,none⟩))) (w.alloc (xo b kv.length [])):=by
  simp[execOp,ha.ev hx,run_range_map w T kt et b _ _ (AN ht) hb,xo]
 exact wpList_plain rfl λKk hK=>upon_value hrun (hK _ _ (k _ _ _ (ha.put hd _) (hw.alloc _ (λc fr e=>by cases e))))
omit [DecidableEq κ] in
theorem CT{r:Nat}{g:Obj->List (Nat×Obj)}(hx:ev m x=some (.pointer (some ⟨r,0,none⟩)))(hr:Own bs r (xo b kv.length seen) g)(ho:Own bs b (Z9 K kv) f)
  (k:∀x,nxP kv.length seen x->JS P ops Q l N ((d,.tuple (nxA kv K x))::m) ⟨w0,F0,g (xo b kv.length (nxS seen x)),G⟩) (hd:J5 N (some d)=true:=by rfl) :
  JS P ops Q (⟨some d,.next x false,ty,pos,aft,none⟩::l) N m ⟨w0,F0,bs,G⟩:=λa w ha hw=>by
 have hb:=hw.own ho
 have hi:=hw.own hr
 unfold Z9 at hb
 obtain⟨pre,post,e1,e2⟩:=hr.split
 subst e1
 simp only[e2]at k
 have hold:∀e∈(Xd K kv 0).toArray.toList,e.born<kv.length:=λe he=>by have:=(D3 kv 0 e (by simpa using he)).2;omega
 rcases run_next_at (P:=P) w ty r b kv.length kv.length seen.toArray (Xd K kv 0).toArray kv.length hi hb hold (ay _)with ⟨h0,hn⟩ | ⟨e,he,w1,hw1,hn⟩
 ·have hrun:(execOp a.eval ⟨some d,.next x false,ty,pos,aft,none⟩).run P w = .ok (.value (.tuple (nxA kv K none))) w:=by
   simp[execOp,ha.ev hx,hn,nxA]
  refine wpList_plain rfl λKk hK=>upon_value hrun (hK _ _ (k none (λj hj=>?_) _ _ (ha.put hd _) hw))
  have hm:(⟨K kv[j].1,kv[j].2,j⟩:MapEntry)∈Xd K kv 0:=by
   have:=Gm (K:=K) kv 0 j
   rw[ak hj,aM]at this
   exact fj this
  have hz:leftOf (Xd K kv 0).toArray seen.toArray=#[]:=Array.eq_empty_of_size_eq_zero h0
  unfold leftOf at hz
  rw[Array.filter_eq_empty_iff]at hz
  have:=hz _ (by simpa using hm)
  simpa using this
 ·unfold leftOf at he
  simp only[List.mem_toArray,Array.mem_toList_iff,Array.mem_filter]at he
  obtain⟨hm,hs⟩:=he
  obtain⟨j,hj,hje⟩:=fu hm
  rw[Mv]at hj
  have hg:=Gm (K:=K) kv 0 j
  rw[ak hj,ak (by rw[Mv];exact hj),hje,aM]at hg
  have hg':e=⟨K kv[j].1,kv[j].2,j⟩:=by simpa using hg
  subst hg'
  have hrun:(execOp a.eval ⟨some d,.next x false,ty,pos,aft,none⟩).run P w = .ok (.value (.tuple (nxA kv K (some j)))) (ChangeMaps.setBlock w1 r (xo b kv.length (nxS seen (some j)))):=by
   simp[execOp,ha.ev hx,hn,nxA,hj,xo,nxS]
  have hw2:St ⟨w0,F0,pre++(r,xo b kv.length seen)::post,G⟩ w1:=by
   rcases hw1 with rfl | rfl
   ·exact hw
   ·exact hw.drew
  exact wpList_plain rfl λKk hK=>upon_value hrun (hK _ _ (k (some j) ⟨hj,by simpa using hs⟩ _ _ (ha.put hd _) (hw2.write pre ⟨rfl,rfl,rfl,rfl,rfl⟩ (λc fr e=>by cases e))))
omit [DecidableEq κ] in
theorem pG{r:Nat}{p:κ×Value}{g:Obj->List (Nat×Obj)}(hx:ev m x=some (.pointer (some ⟨r,0,none⟩)))(hr:Own bs r (xo b kv.length (seen++[j])) g)(ho:Own bs b (Z9 K kv) f)(hj:kv[j]?=some p):
  Qt P N m (St ⟨w0,F0,bs,G⟩) (.entry x) ty (.tuple #[K p.1,p.2]):=λa w _ _ _ _ ha hw=>by
 have hb:=hw.own ho
 have hi:=hw.own hr
 unfold Z9 at hb
 have hg:=Gm (K:=K) kv 0 j
 rw[hj,aM]at hg
 have hmem:=fj hg
 have:=run_entry_at (P:=P) w r b kv.length seen.toArray (Xd K kv 0).toArray kv.length ⟨K p.1,p.2,j⟩ (by rw[hi];simp[xo]) hb (by simpa using hmem) (by simpa using Ni kv 0)
 simp[execOp,ha.ev hx,this]
end
theorem jm(l:List Int)(x:Int):Kq (l++[x])=(Kq l++ia x)++[32]:=by unfold Kq;rw[ba];simp
theorem UI{x:Int}(h:0<=x/\x<=1000000):(ia x).length<=21:=Lib.itoa_length_le x O O
theorem Iz:∀ {l:List Int},(∀x∈l,0<=x/\x<=1000000)->(Kq l).length<=22*l.length
 |[],_=>by simp[Kq]
 |x::l,h=>by
  have h1:=UI (h x we)
  have h2:=Iz (l:=l) (λy hy=>h y (by simp[hy]))
  rw[Gj]
  simp only[aa,af]
  change (Zf x).length<=21 at h1
  omega
structure QGx(b:Nat)(l:List Int) where
 i:Nat
 ob:List (Nat×Obj)
 le:i<=l.length
 bl:L2 b (Kq (l.take i)) ob
theorem kA{r:Sr}(hF:Fits F w)(hGl:JC F)(hR:J7 F r l)(hp:PW l):Qe Tryz.prog 281 [r.v] w F (tx (Kq l)):=by
 obtain⟨q,n,c⟩:=r
 have hln:=hR.2.1
 dsimp only[Sr.v]at hln ⊢
 have hl1:=hp.2
 refine QS.intro (G:=λF=>JC F/\J7 F ⟨q,n,c⟩ l) Tryz.func281 rfl wc rfl rfl hF (λF' hF'=>⟨hGl.le hF',hR.le hF'⟩)<|wI<|wH rfl<|wI<|Qb cV (λb3=>wG<|QG<|wJ rfl<|QA (Qh rfl Q2)<|wE rfl<|wG<|QU<|JU (ι:=QGx b3 l) [(3,_),(6,_),(7,_)] (λi=>[(8,.int .i64 ((i.i:Nat):Int))]) (λi=>i.ob++[]) (λi F=>True) (λi=>l.length - i.i) (⟨0,_,av _,by rw[List.take_zero];exact .fresh⟩) wQ wO wK wh (λi=>?_))
 have hi:=i.le
 have hkl:=Iz (l:=l.take i.i) (λx hx=>hp.1 x (bZ hx))
 rw[aA]at hkl
 refine wI<|QA (QZ I I I)<|wG<|QG ?_
 refine QR I (λhc=>?_) (λhc=>?_)
 ·
  have hlt:i.i<l.length:=by have:=wM hc;omega
  have he:=hp.el hlt
  have hil:=UI he
  refine QQ<|QC<|QG<|QU<|wI<|QA (Q9 (n:=n) i.i (λF h9=>(h9.1.2).1) rfl rfl Q2 JR O)<|QA (Jd (n:=n) ((i.i)*1) (λF h9=>(h9.1.2).1) O rfl JR (XR (o:=l) O))<|wH I<|wJ I<|QI I (λw F hF h9=>kz hF h9.1.1 (O) (O)) (λ_=>XX I (ar _) (GL i.bl O) (λcW=>JQ _ (λw F hF h=>h.2) (λhbl=>wG<|QB<|XX I (ar _) (FN (c:=32) hbl (by rw[aa];omega)) (λwob2=>JQ _ (λw F hF h=>h.2) (λhbl2=>?_)))))
  rw[<-jm,KD hlt,<-XN hlt]at hbl2
  refine QE<|Qk<|QC<|QB<|QA (Qu I I O)<|wE I<|QE ?_
  exact Ql (⟨i.i+1,wob2,hlt,hbl2⟩) (by show l.length - (i.i+1)<l.length - i.i;omega) wR wK (λF h=>⟨h.1.1.1.1,trivial⟩)
 ·
  have hge:i.i=l.length:=by have:=wN hc;omega
  refine Qz ?_
  repeat (first | refine QW ?_ | refine QP wc ?_)
  refine QX<|QC<|QG<|QB ?_
  have hbl:=i.bl
  rw[hge,aw]at hbl
  refine Nz (v:=tx (Kq l)) hF rfl (enters_of Tryz.func290 wc rfl) (λw' hw'=>Tryz.Builder_String_any w.heap.size b3 (Kq l) w' (hbl.is hw') (by obtain⟨F',h'⟩:=hw';exact h'.ext.size))<|wH I<|QY ?_
  exact wL I I (rfl) wh
end Go.Proofs.YtjcphjpkimmmjaaGreatDoor
namespace Ig
def D8:List Tm->Tm->List Tm
 |[],n=>[n]
 |t::l,n=>if n.2=t.2 then n::l else t::D8 l n
theorem Ue:∀(l:List Tm) (n:Tm),∀k,k∈(D8 l n).map (·.2)->k=n.2\/k∈l.map (·.2)
 |[],n,k,h=>by simp[D8]at h;exact .inl h
 |t::l,n,k,h=>by
  simp only[D8]at h
  split at h
  ·simp only[aj,aP]at h ⊢;rcases h with h | h
   ·exact .inl h
   ·exact .inr (.inr h)
  ·simp only[aj,aP]at h ⊢;rcases h with h | h
   ·exact .inr (.inl h)
   ·rcases Ue l n k h with h | h
    ·exact .inl h
    ·exact .inr (.inr h)
theorem Su:∀ {l:List Tm} (n:Tm),(l.map (·.2)).Nodup->((D8 l n).map (·.2)).Nodup
 |[],n,_=>by simp[D8]
 |t::l,n,h=>by
  simp only[aj]at h
  obtain⟨h1,h2⟩:=List.nodup_cons.1 h
  simp only[D8]
  split
  ·rename_i e
   simp only[aj];rw[e];exact h
  ·rename_i e
   simp only[aj]
   refine List.nodup_cons.2 ⟨λhm=>?_,Su n h2⟩
   rcases Ue l n _ hm with g | g
   ·exact e g.symm
   ·exact h1 g
theorem UW:∀ {l:List Tm} (n:Tm),(l.map (·.2)).Nodup->∀k,Jn (D8 l n) k=if n.2=k then n.1 else Jn l k
 |[],n,_,k=>by simp[D8,Jn,az]
 |t::l,n,h,k=>by
  simp only[aj]at h
  obtain⟨h1,h2⟩:=List.nodup_cons.1 h
  have hz:Jn l t.2=0:=WX λx hx e=>h1 (e ▸ ab (f:=(·.2)) hx)
  simp only[D8]
  split
  ·rename_i e
   simp only[Jn]
   by_cases g:n.2=k
   ·have g2:t.2=k:=e ▸ g
    rw[if_pos g,if_pos g,<-g2,hz,az]
   ·have g2:¬t.2=k:=λq=>g (e.trans q)
    rw[if_neg g,if_neg g,if_neg g2]
  ·rename_i e
   simp only[Jn]
   rw[UW n h2 k]
   by_cases g:n.2=k
   ·have g2:¬t.2=k:=λq=>e (g.trans q.symm)
    rw[if_pos g,if_neg g2,if_pos g,aC]
   ·rw[if_neg g,if_neg g]
structure xV(T l:List Tm):Prop where
 nd:(T.map (·.2)).Nodup
 eq:Yh T l
theorem xV.nil:xV [] []:=⟨eN,Yh.refl _⟩
theorem xV.add{T l:List Tm}(h:xV T l)(f:Rat)(p:List Int):xV (D8 T (f+Jn T p,p)) (l++[(f,p)]) :=
 ⟨Su _ h.nd,λk=>by
  rw[UW _ h.nd,YB,<-h.eq k]
  simp only[Jn]
  by_cases g:p=k
  ·rw[if_pos g,if_pos g,g,az];exact bT _ _
  ·rw[if_neg g,if_neg g,az,az]⟩
theorem xV.Sh{T l:List Tm}(h:xV T l){t:Tm}(ht:t∈T):Jn T t.2=t.1:=by
 have key:∀ {T:List Tm},(T.map (·.2)).Nodup->t∈T->Jn T t.2=t.1:=by
  intro T
  induction T with
  |nil=>intro _ h;cases h
  |cons x T ih =>
   intro hn hm
   simp only[aj]at hn
   obtain⟨h1,h2⟩:=List.nodup_cons.1 hn
   rcases List.mem_cons.1 hm with rfl | hm
   ·simp only[Jn]
    have hz:Jn T t.2=0:=WX λx hx e=>h1 (e ▸ ab (f:=(·.2)) hx)
    rw[if_pos trivial,hz,az]
   ·simp only[Jn]
    have:¬x.2=t.2:=λe=>h1 (e ▸ ab (f:=(·.2)) hm)
    rw[if_neg this,ih h2 hm,aC]
 exact key h.nd ht
theorem xB{T:List Tm}{p:List Int}(h:p∉T.map (·.2)):Jn T p=0:=WX λx hx e=>h (e ▸ ab (f:=(·.2)) hx)
theorem xV.norm{T l s:List Tm}(h:xV T l)(hp:s.Perm (T.filter λt=>decide (t.1≠0)))(hs:s.Pairwise λx y=>before x.2 y.2=true):s=J6 l:=by
 refine IS ⟨hs,λt ht=>?_⟩ ((Yh.perm hp).trans ((eqv_filter T).trans h.eq))
 have:=(hp.mem_iff).1 ht
 simpa using(List.mem_filter.1 this).2
end Ig
namespace Go.Proofs.YtjcphjpkimmmjaaGreatDoor
variable{s:List UInt8}{N c cap i j k m n:Nat}{w:World}{F F':Gs}{t z:Int}{T et kt:TypeId}{x y:Operand}{g:FuncId}{a b l o out u:List Int}{ob:List (Nat×Obj)}{cs rest:List Value}{Q:Exit->Act->World->Prop}{P:Program}{α ι:Type}{f:Rat->Rat->Rat}{seen:List Nat}
open Go.RowKit Ig
structure ZR where
 x:Fr
 r:Sr
 t:Tm
variable{ts:List ZR}
instance :Inhabited ZR:=⟨⟨⟨⟨0,none,0,0⟩,⟨0,none,0,0⟩⟩,⟨none,0,0⟩,(0,[])⟩⟩
def V1(t:ZR):List Value:=[.int .i64 t.x.n.s,.slice t.x.n.q t.x.n.n t.x.n.cap,.int .i64 t.x.d.s,.slice t.x.d.q t.x.d.n t.x.d.cap,.slice t.r.q t.r.n t.r.cap]
@[reducible] def xj (t:ZR):Value:=.agg #[.int .i64 t.x.n.s,.slice t.x.n.q t.x.n.n t.x.n.cap,.int .i64 t.x.d.s,.slice t.x.d.q t.x.d.n t.x.d.cap,.slice t.r.q t.r.n t.r.cap]
theorem B1(t:ZR):(V1 t).length=5:=rfl
def xz(F:Gs)(t:ZR):Prop:=JM F t.x t.t.1/\J7 F t.r t.t.2
theorem xz.le{t:ZR}(h:xz F t)(k:Gs.le F F'):xz F' t:=⟨h.1.le k,h.2.le k⟩
def GU(F:Gs)(ts:List ZR):Prop:=∀t∈ts,xz F t
theorem GU.le(h:GU F ts)(k:Gs.le F F'):GU F' ts:=λt ht=>(h t ht).le k
def Hw(ts:List ZR):List (List UInt8×Value):=ts.map λt=>(Kq t.t.2,xj t)
def J1(ts:List ZR):List Tm:=ts.map (·.t)
def addN:List ZR->ZR->List ZR
 |[],n=>[n]
 |t::l,n=>if n.t.2=t.t.2 then n::l else t::addN l n
theorem Fb:∀(ts:List ZR) (n:ZR),J1 (addN ts n)=D8 (J1 ts) n.t
 |[],n=>rfl
 |t::l,n=>by
  have ih:=Fb l n
  unfold J1 at ih ⊢
  simp only[addN,aj,D8]
  split
  ·simp
  ·simp[ih]
theorem SD:∀(ts:List ZR) (n:ZR),Hw (addN ts n)=N9 (Hw ts) (Kq n.t.2) (xj n)
 |[],n=>rfl
 |t::l,n=>by
  have ih:=SD l n
  unfold Hw at ih ⊢
  simp only[addN,aj,N9]
  by_cases h:n.t.2=t.t.2
  ·rw[if_pos h,if_pos (congrArg Kq h)];simp
  ·rw[if_neg h,if_neg λe=>h (Ep e)];simp[ih]
theorem R9{n x:ZR}(h:x∈addN ts n):x=n\/x∈ts:=by
 induction ts with
 |nil=>simp[addN]at h;exact .inl h
 |cons t l ih =>
  simp only[addN]at h
  split at h
  ·rcases List.mem_cons.1 h with h | h
   ·exact .inl h
   ·exact .inr (aK _ h)
  ·rcases List.mem_cons.1 h with h | h
   ·exact .inr (h ▸ ax)
   ·rcases ih h with h | h
    ·exact .inl h
    ·exact .inr (aK _ h)
theorem QAd:∀(ts:List ZR) (p:List Int) (i:Nat),(KM (Hw ts) (Kq p) i=none/\p∉(J1 ts).map (·.2))\/∃j,∃t∈ts,t.t.2=p/\KM (Hw ts) (Kq p) i=some (j,xj t)
 |[],_,_=>.inl ⟨rfl,by simp[J1]⟩
 |t::l,p,i=>by
  by_cases h:p=t.t.2
  ·exact .inr ⟨i,t,ax,h.symm,by show(if _ then _ else _)=_;rw[if_pos (congrArg Kq h)]⟩
  ·rcases QAd l p (i+1)with ⟨h1,h2⟩ | ⟨j,u,hu,h1,h2⟩
   ·refine .inl ⟨?_,?_⟩
    ·show(if _ then _ else _)=_
     rw[if_neg λe=>h (Ep e)];exact h1
    ·simp only[J1,aj,aP,not_or];exact⟨h,h2⟩
   ·refine .inr ⟨j,u,aK _ hu,h1,?_⟩
    show(if _ then _ else _)=_
    rw[if_neg λe=>h (Ep e)];exact h2
def KI(l:List Tm):Nat:=(l.map λt=>JL t.1+1).sum
theorem Zo(l m:List Tm):KI (l++m)=KI l+KI m:=by unfold KI;rw[aH,eJ]
theorem RY:∀(l:List Tm) (k:List Int),JL (Jn l k)<=KI l+1
 |[],k=>by show JL (0:Rat)<=_;decide
 |t::l,k=>by
  have h1:=RY l k
  simp only[Jn]
  have h2:=KU (if t.2=k then t.1 else 0) (Jn l k)
  have h3:JL (if t.2=k then t.1 else 0)<=JL t.1+1:=by
   split
   ·omega
   ·have:JL (0:Rat)<=1:=wa
    omega
  have e:KI (t::l)=JL t.1+1+KI l:=by unfold KI;rw[aj,bN]
  have h4:JL (Jn (t::l) k)<=KI l+1+(JL t.1+1):=by
   simp only[Jn]
   by_cases g:t.2=k
   ·rw[if_pos g]at h2 ⊢
    omega
   ·rw[if_neg g,aC];omega
  rw[e]
  simp only[Jn]at h4
  omega
structure WM(ts:List ZR)(l:List Tm):Prop where
 jF:xV (J1 ts) l
 pw:∀t∈ts,PW t.t.2
 ln:ts.length<=l.length
theorem WM.nil:WM [] []:=⟨xV.nil,(λ_ h=>by cases h),ay _⟩
theorem gM(ts:List ZR)(n:ZR):(addN ts n).length<=ts.length+1:=by
 induction ts with
 |nil=>exact ay _
 |cons t l ih =>
  simp only[addN]
  split<;>simp only[af]<;>omega
theorem WM.add{l:List Tm}(h:WM ts l){f:Rat}{p:List Int}(hp:PW p){n:ZR}(hn:n.t=(f+Jn (J1 ts) p,p)):WM (addN ts n) (l++[(f,p)]) :=
 ⟨by rw[Fb,hn];exact h.jF.add f p,λt ht=>by
  rcases R9 ht with rfl | ht
  ·rw[hn];exact hp
  ·exact h.pw t ht,by have:=gM ts n;have:=h.ln;rw[aa];simp only[aF];omega⟩
theorem WM.sz{l:List Tm}(h:WM ts l){t:ZR}(ht:t∈ts):JL t.t.1<=KI l+1:=by
 rw[<-h.jF.Sh (ab (f:=ZR.t) ht),h.jF.eq];exact RY _ _
theorem R8:Ou Tryz.prog 266 9 263=true:=y0
theorem AU:Ll Tryz.prog 9 tx:=.str y0
theorem dU:zvB Tryz.prog 263=some (.agg #[.int .i64 0,.slice none 0 0,.int .i64 0,.slice none 0 0,.slice none 0 0]):=y0
section
theorem FF{m:Sl}{w0:World}{F0:Gs}{bs:List (Nat×Obj)}{G H:Gs->Prop}{c:Code}(h:∀F,G F->H F)(k:J P c Q N m ⟨w0,F0,bs,λF=>G F/\H F⟩):J P c Q N m ⟨w0,F0,bs,G⟩ :=
 λa w ha hw=>k a w ha (hw.BY λF h'=>⟨h',h F h'⟩)
variable{w0:World}{F0:Gs}{bs:List (Nat×Obj)}{G:Gs->Prop}
theorem OK{l:List Tm}{x:Fr}{f:Rat}{r:Sr}{p:List Int}(hI:WM ts l)(hp:PW p)(hz:JL f<=40000000)(hl:KI l<=40000000)(hG:∀F,G F->JC F/\GU F ts/\JM F x f/\J7 F r p){t0:ZR}{j:Nat}(ht:t0∈ts)(h0:t0.t.2=p)(hf:KM (Hw ts) (Kq p) 0=some (j,xj t0)):
  XB Tryz.prog 225 [.map (some m),x.v,r.v] ⟨w0,F0,(m,Z9 tx (Hw ts))::bs,G⟩ (λ(_:ZR)=>.tuple #[]) (λn=>⟨w0,F0,(m,Z9 tx (Hw (addN ts n)))::bs,λF=>G F/\GU F (addN ts n)/\n.t=(f+Jn (J1 ts) p,p)⟩):=by
 have hc0:Jn (J1 ts) p=t0.t.1:=by rw[<-h0];exact hI.jF.Sh (ab (f:=ZR.t) ht)
 have hz0:=hI.sz ht
 dsimp only[Sr.v,Fr.v]
 refine XB.intro Tryz.func225 rfl wc rfl rfl<|FF hG<|wI<|Qo rfl (vs:=[_,_,_,_]) rfl (λb4=>wG<|wJ rfl<|QI rfl (λw F hF h9=>kA hF h9.2.1 (r:=r) h9.2.2.2.2 (hp)) (λ_=>wH rfl<|QG<|wJ rfl<|wE rfl<|QA (yh AU rfl rfl R8 .u1 hf)<|wE rfl<|QA (QT rfl rfl)<|QA (QT rfl rfl)<|Qb GY (λb7=>QO (vs:=[_,_,_,_,_]) rfl rfl rfl Xy rfl .here .h5 wS ?_)))
 refine wH I<|wJ I<|QE<|QC ?_
 refine QR I (λhc=>?_) (λhc=>?_)
 ·
  refine QB<|QA (QJ (vs:=[_,_,_,_]) I QL .u1 .h4 rfl)<|QA (QH I W9 QL)<|QA (QJ (vs:=[_,_,_,_]) I QL .here .h4 rfl)<|QI I (λw F hF ⟨⟨hG0,hGl,hT,⟨hxn,hxd⟩,hR⟩,_⟩=>D2 hF ⟨by assumption,by assumption⟩ ((hT t0 ht).1) O O) (λx21=>QO (vs:=[_,_,_,_]) I I I QL I .u1 .h4 wR<|wG<|QB<|wE I<|wE I<|QA (QJ (vs:=[_,_,_,_]) I QL .u1 .h4 rfl)<|wE I<|QA (Qv I y5 GY (.cons (vs:=[_,_,_,_]) I I I .h4 (.cons (vs:=[_]) I I I (.skip (.skip (.skip (.skip .h1)))) .nil)))<|Uf (k:=Kq p) (v:=xj ⟨x21,r,(f+t0.t.1,p)⟩) AU I I I R8 .u2<|QE<|M9 ?_)
  exact KQ (⟨x21,r,(f+t0.t.1,p)⟩) I .nil (rfl) (λw h=>by
   show St ⟨w0,F0,(m,Z9 tx (Hw (addN ts ⟨x21,r,(f+t0.t.1,p)⟩)))::bs,_⟩ w
   rw[SD]
   exact St.imp h (.cons _ (.cons _ wK)) (λF ⟨⟨⟨hG0,hGl,hT,⟨hxn,hxd⟩,hR⟩,_⟩,⟨h21,h21_⟩⟩=>⟨hG0,λt ht=>by
    rcases R9 ht with rfl | ht
    ·exact⟨⟨by assumption,by assumption⟩,hR⟩
    ·exact hT t ht,by rw[hc0]⟩))
 ·exact absurd hc (by cases hc)
theorem Fk{l:List Tm}{x:Fr}{f:Rat}{r:Sr}{p:List Int}(hI:WM ts l)(hp:PW p)(hz:JL f<=40000000)(hl:KI l<=40000000)(hG:∀F,G F->JC F/\GU F ts/\JM F x f/\J7 F r p)(hf:KM (Hw ts) (Kq p) 0=none)(hm:p∉(J1 ts).map (·.2)):
  XB Tryz.prog 225 [.map (some m),x.v,r.v] ⟨w0,F0,(m,Z9 tx (Hw ts))::bs,G⟩ (λ(_:ZR)=>.tuple #[]) (λn=>⟨w0,F0,(m,Z9 tx (Hw (addN ts n)))::bs,λF=>G F/\GU F (addN ts n)/\n.t=(f+Jn (J1 ts) p,p)⟩):=by
 have hc0:Jn (J1 ts) p=0:=xB hm
 dsimp only[Sr.v,Fr.v]
 refine XB.intro Tryz.func225 rfl wc rfl rfl<|FF hG<|wI<|Qo rfl (vs:=[_,_,_,_]) rfl (λb4=>wG<|wJ rfl<|QI rfl (λw F hF h9=>kA hF h9.2.1 (r:=r) h9.2.2.2.2 (hp)) (λ_=>wH rfl<|QG<|wJ rfl<|wE rfl<|QA (jS AU rfl rfl R8 dU .u1 hf)<|wE rfl<|QA (QT rfl rfl)<|QA (QT rfl rfl)<|Qb GY (λb7=>QO (vs:=[_,_,_,_,_]) rfl rfl rfl Xy rfl .here .h5 wS ?_)))
 refine wH I<|wJ I<|QE<|QC ?_
 refine QR I (λhc=>?_) (λhc=>?_)
 ·exact absurd hc (by cases hc)
 ·
  refine QQ<|QC<|QB<|wE I<|wE I<|QA (QJ (vs:=[_,_,_,_]) I QL .u1 .h4 rfl)<|wE I<|QA (Qv I y5 GY (.cons (vs:=[_,_,_,_]) I I I .h4 (.cons (vs:=[_]) I I I (.skip (.skip (.skip (.skip .h1)))) .nil)))<|Uf (k:=Kq p) (v:=xj ⟨x,r,(f,p)⟩) AU I I I R8 .u2<|QE<|M9 ?_
  exact KQ (⟨x,r,(f,p)⟩) I .nil (rfl) (λw h=>by
   show St ⟨w0,F0,(m,Z9 tx (Hw (addN ts ⟨x,r,(f,p)⟩)))::bs,_⟩ w
   rw[SD]
   exact St.imp h (.cons _ (.cons _ wK)) (λF ⟨⟨hG0,hGl,hT,⟨hxn,hxd⟩,hR⟩,_⟩=>⟨hG0,λt ht=>by
    rcases R9 ht with rfl | ht
    ·exact⟨⟨by assumption,by assumption⟩,hR⟩
    ·exact hT t ht,by rw[hc0,az]⟩))
theorem ES{l:List Tm}{x:Fr}{f:Rat}{r:Sr}{p:List Int}(hI:WM ts l)(hp:PW p)(hz:JL f<=40000000)(hl:KI l<=40000000)(hG:∀F,G F->JC F/\GU F ts/\JM F x f/\J7 F r p):
  XB Tryz.prog 225 [.map (some m),x.v,r.v] ⟨w0,F0,(m,Z9 tx (Hw ts))::bs,G⟩ (λ(_:ZR)=>.tuple #[]) (λn=>⟨w0,F0,(m,Z9 tx (Hw (addN ts n)))::bs,λF=>G F/\GU F (addN ts n)/\n.t=(f+Jn (J1 ts) p,p)⟩):=by
 rcases QAd ts p 0 with ⟨h1,h2⟩ | ⟨j,t,ht,h1,h2⟩
 ·exact Fk hI hp hz hl hG h1 h2
 ·exact OK hI hp hz hl hG ht h1 h2
end
section
variable[Dr]
theorem pP{a b:ZR}(hF:Fits F w)(hA:xz F a)(hB:xz F b)(pa:PW a.t.2)(pb:PW b.t.2):Qe Tryz.prog 283 [xj a,xj b] w F (.int .i64 (GC a.t.2 b.t.2)):=by
 refine QS.intro (G:=λF=>xz F a/\xz F b) Tryz.func283 rfl wc rfl rfl hF (λF' hF'=>⟨hA.le hF',hB.le hF'⟩)<|wI<|Qo rfl (vs:=[_,_,_,_,_]) rfl (λb2=>Qo rfl (vs:=[_,_,_,_,_]) rfl (λb3=>wH rfl<|wI<|QA (QH rfl V8 Jf)<|QA (Qg rfl Jf .u1 (.skip (.skip (.skip (.skip .h1)))))<|QA (QH rfl V8 Jf)<|QA (Qg rfl Jf .here (.skip (.skip (.skip (.skip .h1)))))<|QI rfl (λw F hF h9=>Ru hF (ra:=a.r) (rb:=b.r) h9.1.2 (h9.2.2) (pa) (pb)) (λ_=>wH rfl<|QY ?_)))
 exact wL I I (rfl) wh
end
end Go.Proofs.YtjcphjpkimmmjaaGreatDoor
namespace Go.Proofs
open Go.Shelf
def Tryz.ja:Go.Shelf.Ren:=⟨λ| 14=>314 | 20=>340 | 21=>341 | 22=>342 | 23=>343 | 24=>344 | 25=>345 | 26=>346 | 27=>347 | 46=>363 | 47=>364 | 48=>365 | 49=>366 | 50=>367 | 15=>315 | 57=>375 | 28=>348 | 29=>311 | n=>n,λ| 24=>263 | 22=>189 | 3=>3 | 25=>317 | 4=>4 | 0=>0 | 46=>359 | 45=>358 | 50=>233 | 66=>383 | 39=>337 | 55=>297 | 70=>387 | 76=>397 | 77=>398 | 53=>365 | 5=>5 | 9=>9 | n=>n,λ| n=>n⟩
theorem Tryz.QAG:fK Tryz.prog Tryz.ja:={
 mixed:=y0
 f14:=⟨Tryz.f314.name,wa,Tryz.func314.trans w6⟩
 f15:=Tryz.func315.trans w6
 f20:=⟨Tryz.f340.name,wa,Tryz.func340.trans w6⟩
 f21:=⟨Tryz.f341.name,wa,Tryz.func341.trans w6⟩
 f22:=⟨Tryz.f342.name,wa,Tryz.func342.trans w6⟩
 f23:=⟨Tryz.f343.name,wa,Tryz.func343.trans w6⟩
 f24:=⟨Tryz.f344.name,wa,Tryz.func344.trans w6⟩
 f25:=⟨Tryz.f345.name,wa,Tryz.func345.trans w6⟩
 f26:=⟨Tryz.f346.name,wa,Tryz.func346.trans w6⟩
 f27:=⟨Tryz.f347.name,wa,Tryz.func347.trans w6⟩
 f28:=Tryz.func348.trans w6
 f29:=Tryz.func311.trans w6
 f46:=⟨Tryz.f363.name,wa,Tryz.func363.trans w6⟩
 f47:=Tryz.func364.trans w6
 f48:=Tryz.func365.trans w6
 f49:=⟨Tryz.f366.name,wa,Tryz.func366.trans w6⟩
 f50:=⟨Tryz.f367.name,wa,Tryz.func367.trans w6⟩
 f57:=⟨Tryz.f375.name,wa,Tryz.func375.trans w6⟩
 t0:=Tryz.underlying0
 a0:=Tryz.isAgg0
 z0:=Tryz.sizeOf0
 v0:=Tryz.zeroValue0
 t3:=Tryz.underlying3
 a3:=Tryz.isAgg3
 z3:=Tryz.sizeOf3
 v3:=Tryz.zeroValue3
 t4:=Tryz.underlying4
 a4:=Tryz.isAgg4
 z4:=Tryz.sizeOf4
 v4:=Tryz.zeroValue4
 t5:=Tryz.underlying5
 a5:=Tryz.isAgg5
 z5:=Tryz.sizeOf5
 v5:=Tryz.zeroValue5
 t9:=Tryz.underlying9
 a9:=Tryz.isAgg9
 z9:=Tryz.sizeOf9
 v9:=Tryz.zeroValue9
 t22:=Tryz.underlying189
 a22:=Tryz.isAgg189
 z22:=Tryz.sizeOf189
 v22:=Tryz.zeroValue189
 t25:=Tryz.underlying317
 a25:=Tryz.isAgg317
 z25:=Tryz.sizeOf317
 v25:=Tryz.zeroValue317
 t39:=Tryz.underlying337
 a39:=Tryz.isAgg337
 z39:=Tryz.sizeOf337
 v39:=Tryz.zeroValue337
 t45:=Tryz.underlying358
 a45:=Tryz.isAgg358
 z45:=Tryz.sizeOf358
 v45:=Tryz.zeroValue358
 t46:=Tryz.underlying359
 a46:=Tryz.isAgg359
 z46:=Tryz.sizeOf359
 v46:=Tryz.zeroValue359
 t50:=Tryz.underlying233
 a50:=Tryz.isAgg233
 z50:=Tryz.sizeOf233
 v50:=Tryz.zeroValue233
 t53:=Tryz.underlying365
 a53:=Tryz.isAgg365
 z53:=Tryz.sizeOf365
 v53:=Tryz.zeroValue365
 t55:=Tryz.underlying297
 a55:=Tryz.isAgg297
 z55:=Tryz.sizeOf297
 v55:=Tryz.zeroValue297
 t66:=Tryz.underlying383
 a66:=Tryz.isAgg383
 z66:=Tryz.sizeOf383
 v66:=Tryz.zeroValue383
 t70:=Tryz.underlying387
 a70:=Tryz.isAgg387
 z70:=Tryz.sizeOf387
 v70:=Tryz.zeroValue387
 t76:=Tryz.underlying397
 a76:=Tryz.isAgg397
 z76:=Tryz.sizeOf397
 v76:=Tryz.zeroValue397
 t77:=Tryz.underlying398
 a77:=Tryz.isAgg398
 z77:=Tryz.sizeOf398
 v77:=Tryz.zeroValue398 }
end Go.Proofs
namespace Go.Proofs.YtjcphjpkimmmjaaGreatDoor
variable{s:List UInt8}{N c cap i j k m n:Nat}{w:World}{F F':Gs}{t z:Int}{T et kt:TypeId}{x y:Operand}{g:FuncId}{a b l o out u:List Int}{ob:List (Nat×Obj)}{cs rest:List Value}{Q:Exit->Act->World->Prop}{P:Program}{α ι:Type}{f:Rat->Rat->Rat}{seen:List Nat}{ts:List ZR}
section
open Go.RowKit Ig Go.Sort
def ntd:ZR:=⟨⟨⟨0,none,0,0⟩,⟨1,none,0,0⟩⟩,⟨none,0,0⟩,(0,[])⟩
theorem QEJ(F:Gs):xz F ntd:=⟨⟨XG.small F wa wa,XG.small F wa wa⟩,⟨by simp[Qy,ntd],rfl,ay _⟩⟩
theorem PW.nil:PW []:=⟨λ_ h=>(by cases h),we⟩
abbrev cJ(F:Gs):={t:ZR // xz F t/\PW t.t.2}
instance(F:Gs):Inhabited (cJ F):=⟨⟨ntd,QEJ F,PW.nil⟩⟩
def DN(F:Gs):cJ F->List Value:=λt=>V1 t.1
def cfT(F:Gs):cJ F->cJ F->Int:=λx y=>GC x.1.t.2 y.1.t.2
theorem ltT(x y:cJ F):ltOf (cfT F) x y=before x.1.t.2 y.1.t.2:=(Hg _ _).symm
theorem TR{c:List Int}(h:before a b=false)(k:before b c=false):before a c=false:=by
 cases hb:before a c with
 |false=>rfl
 |true =>
  rcases Wr b c with e | e | e
  ·subst e;rw[h]at hb;cases hb
  ·rw[k]at e;cases e
  ·rw[before_trans hb e]at h;cases h
theorem QDp(F:Gs):SWO (ltOf (cfT F)) where
 irrefl:=λx=>by rw[ltT];exact before_irrefl _
 trans:=λx y z h k=>by rw[ltT]at h k ⊢;exact before_trans h k
 ntrans:=λx y z h k=>by rw[ltT]at h k ⊢;exact TR h k
def je(w:World)(F:Gs)(W:World):Gs:=λb=>if b<w.heap.size then F b else match W.heap[b]? with | some (.cells c T _)=>if T=297 then some (c,297)else none | _=>none
theorem Gh{W:World}{b:Nat}(h:b<w.heap.size):je w F W b=F b:=if_pos h
theorem qB{W:World}(hF:Fits F w):Gs.le F (je w F W):=λb x hb=>by rw[Gh (hF.lt hb)];exact hb
theorem T4{W:World}{BA:Nat}{c':Array Value}{fr':Nat×Nat}(hF:Fits F w)(hn:F BA=none)(hT:T≠297)(h1:∀b,b<w.heap.size->b≠BA->W.heap[b]?=w.heap[b]?)(h2:W.heap[BA]?=some (.cells c' T fr')):Fits (je w F W) W:=by
 refine⟨λb c T hb=>?_,λb c fr hb=>?_⟩
 ·by_cases hlt:b<w.heap.size
  ·rw[Gh hlt]at hb
   obtain⟨fr,e⟩:=hF.row b c T hb
   have hne:b≠BA:=by rintro rfl;rw[hn]at hb;cases hb
   exact⟨fr,by rw[h1 b hlt hne];exact e⟩
  ·unfold je at hb
   rw[if_neg hlt]at hb
   split at hb
   ·rename_i c' T' fr heq
    split at hb
    ·rename_i hT;cases hb;exact⟨fr,by rw[heq,hT]⟩
    ·cases hb
   ·cases hb
 ·by_cases hlt:b<w.heap.size
  ·rw[Gh hlt]
   by_cases hne:b=BA
   ·subst hne;rw[h2]at hb;cases hb;exact absurd rfl hT
   ·rw[h1 b hlt hne]at hb;exact hF.all b c fr hb
  ·unfold je
   rw[if_neg hlt,hb];simp
theorem uT{w':World}(h1:Below w.heap.size w w')(h2:w.drawn<=w'.drawn):w'=grow (w.drewN (w'.drawn - w.drawn)) (w'.heap.extract w.heap.size w'.heap.size):=by
 have hh:w'.heap=w.heap++w'.heap.extract w.heap.size w'.heap.size:=by
  apply ee
  intro i
  rw[bW]
  split
  ·rename_i h;exact h1.block i h
  ·rename_i h
   rw[Array.getElem?_extract]
   have:=h1.size
   by_cases g:i<w'.heap.size
   ·rw[if_pos O];congr 1;omega
   ·rw[if_neg O,bS O]
 obtain⟨e1,e2,e3,_,_⟩:=h1
 cases w' with
 |mk heap tape drawn os output =>
  simp only at hh e1 e2 e3 h2
  unfold grow World.drewN
  simp only[World.mk.injEq]
  exact⟨hh,e2,O,e1,e3⟩
section
variable{α:Type}[Inhabited α]{enc:α->List Value}{k:Nat}{w:World}{BA m:Nat}{dk:Array α}{os:Array Obj}{c:Array Value}{T:TypeId}{fr:Nat×Nat}
theorem ER(b:Nat)(hb:b<w.heap.size)(hne:b≠BA):(sortWorldK enc k w BA 0 m dk os).heap[b]?=w.heap[b]?:=by
 show((w.heap.modify BA _)++os)[b]?=_
 rw[bW,if_pos (by simpa using hb),fb,if_neg (Ne.symm hne)]
theorem zz(h:w.heap[BA]?=some (.cells c T fr)):(sortWorldK enc k w BA 0 m dk os).heap[BA]?=some (.cells (putCells id 0 (flatK enc k dk) c) T fr):=by
 have hb:BA<w.heap.size:=by
  rcases aN BA w.heap.size with g | g
  ·exact g
  ·rw[bS g]at h;cases h
 show((w.heap.modify BA _)++os)[BA]?=_
 rw[bW,if_pos (by simpa using hb),fb,if_pos rfl,h]
 rfl
theorem O3(hk:∀x,(enc x).length=k)(d:Array α):flatK enc k d=(d.toList.flatMap enc).toArray:=by
 have hl:(d.toList.flatMap enc).length=d.size*k:=by
  generalize hd:d.toList=l
  have:d.size=l.length:=by rw[<-hd];simp
  rw[this]
  clear this hd
  induction l with
  |nil=>simp
  |cons x l ih=>rw[bt,aa,ih,hk,af,fp];omega
 apply ee
 intro t
 by_cases ht:t<d.size*k
 ·have hk0:0<k:=Nat.pos_of_ne_zero λe=>by rw[e]at ht;simp at ht
  have h1:t / k<d.size:=(Nat.div_lt_iff_lt_mul hk0).2 ht
  have h2:t%k<k:=fA _ hk0
  have h3:t%k<(enc d[t / k]!).length:=by rw[hk];exact h2
  have e1:(flatK enc k d)[t]?=some ((enc d[t / k]!)[t%k]!):=by
   rw[Array.getElem?_eq_getElem (by rw[size_flatK];exact ht)]
   have:=get_flatK enc k d t ht
   rw[getElem!_pos _ t (by rw[size_flatK];exact ht)]at this
   rw[this]
  rw[e1,aq]
  have h4:el d.toList (t / k)=d[t / k]!:=by simp[el,h1]
  have:=Jm (f:=enc) hk (l:=d.toList) (i:=t / k) (j:=t%k) (u:=(enc d[t / k]!)[t%k]!) (by simpa using h1) (by rw[h4,ak h3,getElem!_pos (enc d[t / k]!) (t%k) h3])
  rw[Nat.mul_comm,Nat.div_add_mod]at this
  exact this.symm
 ·rw[bS (by rw[size_flatK];omega),aq,aG O]
theorem U9{a b:List Value}(h:b.length=a.length):putCells id 0 b.toArray (a++rest).toArray=(b++rest).toArray:=by
 apply ee
 intro i
 unfold putCells
 rw[Array.getElem?_mapIdx,aq,aq,bw,bw]
 by_cases hi:i<a.length
 ·have hi':i<b.length:=O
  rw[if_pos hi,if_pos hi',ak hi,ak hi']
  simp[hi']
 ·have hi':¬i<b.length:=O
  rw[if_neg hi,if_neg hi',h]
  have e:¬(0<=i/\i<0+b.toArray.size):=wg
  cases rest[i - a.length]? with
  |none=>rfl
  |some x=>simp only[Option.map_some];rw[if_neg e]
end
def xe(g:FuncId):Prop:=Enters Tryz.prog g/\∀(w:World) (F:Gs) (a b:ZR),Fits F w->xz F a->xz F b->PW a.t.2->PW b.t.2->@QS ⟨True⟩ Tryz.prog g [xj a,xj b] w F Unit (λ_=>.int .i64 (GC a.t.2 b.t.2)) (λ_ _=>True)
theorem xe.lays(hg:xe g){w:World}{F:Gs}{BA size:Nat}{c:Array Value}{T:TypeId}{fr:Nat×Nat}(hF:Fits F w)(hn:F BA=none)(hT:T≠297)(hb:w.heap[BA]?=some (.cells c T fr)):CmpLays Tryz.prog g #[] (DN F) 5 (cfT F) BA 0 size w:=λm os dk _ x y=>by
 have hf:=T4 (W:=sortWorldK (DN F) 5 w BA 0 m dk os) hF hn hT (λb h1 h2=>ER b h1 h2) (zz hb)
 have hle:=qB (W:=sortWorldK (DN F) 5 w BA 0 m dk os) hF
 have:=(hg.2 _ _ x.1 y.1 hf (x.2.1.le hle) (y.2.1.le hle) x.2.2 y.2.2).2
 refine this.mono ?_
 rintro e w' ⟨_,F',rfl,hx,_⟩
 exact⟨rfl,_,_,uT (@TT.toBelow ⟨True⟩ _ _ hx) (@TT.dr ⟨True⟩ _ _ hx trivial)⟩
theorem QGP(x:cJ F):∀v∈DN F x,v.oneCell'=true:=by
 intro v hv
 unfold DN V1 at hv
 simp only[aP,bc,or_false]at hv
 rcases hv with rfl | rfl | rfl | rfl | rfl<;>rfl
variable[Dr]{w0:World}{F0:Gs}{bs:List (Nat×Obj)}{G:Gs->Prop}
theorem QEA(hg:xe g){b n cap lim:Nat}{ts:List ZR}{rest:List Value}(hG:∀F,G F->GU F ts)(hp:∀t∈ts,PW t.t.2)(hl:ts.length=n)(hn:n<4611686018427387904)(hlim:lim<4611686018427387904):
  XB Tryz.prog 314 [.slice (some ⟨b,0,none⟩) n cap,.int .i64 0,.int .i64 (n:Nat),.int .i64 (lim:Nat),.func (.func g) #[] #[]] ⟨w0,F0,(b,.cells (ts.flatMap V1++rest).toArray 263 (0,0))::bs,G⟩ (λ(_:List ZR)=>.tuple #[])
   (λts'=>⟨w0,F0,(b,.cells (ts'.flatMap V1++rest).toArray 263 (0,0))::bs,λF=>G F/\ts'.Perm ts/\ts'.Pairwise (λx y=>before y.t.2 x.t.2=false)⟩):=by
 refine⟨enters_of Tryz.func314 wc rfl,λw hw=>?_⟩
 obtain⟨F,h⟩:=hw
 obtain⟨hb1,hb2,hb3⟩:=h.bx (b,_) ax
 have hts:=hG F h.hG
 have hblt:b<w.heap.size:=(Array.getElem?_eq_some_iff.1 hb1).1
 have hT:(263:TypeId)≠297:=wa
 obtain⟨d,hd⟩:∃d:Array (cJ F),d.toList.map (·.1)=ts:=by
  refine⟨(ts.attach.map λt=>(⟨t.1,hts t.1 t.2,hp t.1 t.2⟩:cJ F)).toArray,?_⟩
  simp[e9,Function.comp_def]
 have hds:d.size=n:=by rw[<-hl,<-hd];simp
 have hfl:∀d:Array (cJ F),flatK (DN F) 5 d=((d.toList.map (·.1)).flatMap V1).toArray:=λd=>by
  rw[O3 (enc:=DN F) (k:=5) (λ_=>rfl),List.flatMap_map];rfl
 have hH:HoldsK (DN F) 5 w b 0 d:=by
  intro j hj
  rw[hfl,hd]at hj ⊢
  have hj':j<(ts.flatMap V1).length:=by simpa using hj
  rw[aM]
  refine⟨?_,by simp[World.frozen?,hb1]⟩
  simp only[World.cell?,hb1,Option.isSome_none,Bool.false_eq_true,if_false,aq]
  rw[List.getElem?_append_left hj',ak hj']
  show some _=some ((ts.flatMap V1).toArray[j]!)
  rw[getElem!_pos (ts.flatMap V1).toArray j (by simpa using hj')]
  simp
 have hR:RowK (DN F) 5 w b 0 d:=⟨λ_=>rfl,λx=>QGP x,hH,hblt⟩
 have eg:=hg.1
 have hcmp:=hg.lays (size:=d.size) h.fits hb3 hT hb1
 have hs:=AnyQ.pdqsortCmpFunc_all Tryz.QAG 5 (Um Xy) (VX Xy) (DN F) (cfT F) g #[] (QDp F) b 0 cap d w eg hcmp hR (d.size+1) 0 d.size lim d w O rfl (SWK.start hH) (av _) (ay _) O hlim (Or.inl I)
 have hpl:=pdq_sorts (ltOf (cfT F)) (QDp F) d 0 d.size lim true true (av _) (ay _) (Or.inl I)
 generalize pdq (ltOf (cfT F)) d 0 d.size lim true true=d' at hs hpl
 obtain⟨⟨hp1,_,hp2⟩,hso⟩:=hpl
 rw[hds]at hs
 refine hs.mono ?_
 rintro e w' ⟨rfl,m,os,rfl⟩
 have hbk:=zz (enc:=DN F) (k:=5) (m:=m) (dk:=d') (os:=os) hb1
 have hfit:=T4 (W:=sortWorldK (DN F) 5 w b 0 m d' os) h.fits hb3 hT (λb h1 h2=>ER b h1 h2) hbk
 have hle:=qB (W:=sortWorldK (DN F) 5 w b 0 m d' os) h.fits
 have hperm:(d'.toList.map (·.1)).Perm ts:=by
  rw[<-hd]
  refine List.Perm.map _ ?_
  have e1:(d'.extract 0 d.size).toList=d'.toList:=by rw[<-hp1];simp
  have e2:(d.extract 0 d.size).toList=d.toList:=we
  rw[e1,e2]at hp2;exact hp2
 have hcells:putCells id 0 (flatK (DN F) 5 d') (ts.flatMap V1++rest).toArray=((d'.toList.map (·.1)).flatMap V1++rest).toArray:=by
  rw[hfl]
  refine U9 ?_
  have:=(eK V1 hperm).length_eq
  exact this
 rw[hcells]at hbk
 have hsz:w.heap.size<=(sortWorldK (DN F) 5 w b 0 m d' os).heap.size:=by
  show _<=((w.heap.modify b _)++os).size
  simp
 refine⟨d'.toList.map (·.1),rfl,je w F (sortWorldK (DN F) 5 w b 0 m d' os),?_⟩
 refine⟨Gs.le_trans h.le hle,λk hk=>?_,hfit,⟨⟨?_,?_,?_,?_,?_⟩,?_⟩,λk hk=>?_,h.nd,λF' hF'=>⟨h.g F' (Gs.le_trans hle hF'),hperm,?_⟩⟩
 ·have:k<w.heap.size:=fB hk h.ext.size
  rw[Gh this];exact h.old k hk
 ·exact h.ext.os
 ·exact h.ext.tape
 ·exact h.ext.output
 ·exact bL h.ext.size hsz
 ·intro k hk
  have h1:k<w.heap.size:=fB hk h.ext.size
  have h2:k≠b:=by rintro rfl;exact absurd hk (Nat.not_lt.2 hb2)
  rw[ER k h1 h2];exact h.ext.block k hk
 ·intro hd
  exact bL (h.ext.dr hd) (Nat.le_add_right _ _)
 ·rcases List.mem_cons.1 hk with rfl | hk
  ·exact⟨hbk,hb2,by rw[Gh hblt];exact hb3⟩
  ·obtain⟨g1,g2,g3⟩:=h.bx k (aK _ hk)
   have h1:k.1<w.heap.size:=(Array.getElem?_eq_some_iff.1 g1).1
   have h2:k.1≠b:=by
    have:=h.nd
    simp only[aj]at this
    have:=(List.nodup_cons.1 this).1
    rintro e
    exact this (e ▸ ab (f:=(·.1)) hk)
   exact⟨by rw[ER k.1 h1 h2];exact g1,g2,by rw[Gh h1];exact g3⟩
 ·rw[er,List.pairwise_iff_getElem]
  intro i j hi hj hij
  have hi':i<d'.size:=by simpa using hi
  have hj':j<d'.size:=by simpa using hj
  have:=hso i j (av _) hij O
  rw[ltT,getElem!_pos _ i hi',getElem!_pos _ j hj']at this
  simpa using this
end
open Go.RowKit Ig
section
variable[Dr]{w0:World}{F0:Gs}{bs:List (Nat×Obj)}{G:Gs->Prop}
theorem xH(hF:Fits F w){n:Nat}(h:n<4611686018427387904):Qe Tryz.prog 315 [.int .u64 (n:Nat)] w F (.int .i64 (Lib.bitLen n:Nat)) :=
 QS.same (enters_of Tryz.func315 wc rfl) hF (by
  have:=Tryz.bits_Len (n:Nat) w O O
  rwa [Int.toNat_natCast]at this)
theorem vJ:∀ {ts:List ZR},ts.flatMap V1=[]->ts=[]
 |[],_=>rfl
 |t::l,h=>by rw[bt]at h;simp[V1]at h
theorem QBX(hg:xe g){n lim:Nat}{v:Value}{ts:List ZR}{ob:List (Nat×Obj)}(hr:Qx 263 5 v n (ts.flatMap V1) ob)(hG:∀F,G F->GU F ts)(hp:∀t∈ts,PW t.t.2)(hl:ts.length=n)(hn:n<4611686018427387904)(hlim:lim<4611686018427387904):
  XB Tryz.prog 314 [v,.int .i64 0,.int .i64 (n:Nat),.int .i64 (lim:Nat),.func (.func g) #[] #[]] ⟨w0,F0,ob++bs,G⟩ (λ(_:List ZR×List (Nat×Obj))=>.tuple #[])
   (λc=>⟨w0,F0,c.2++bs,λF=>G F/\Qx 263 5 v n (c.1.flatMap V1) c.2/\c.1.Perm ts/\c.1.Pairwise (λx y=>before y.t.2 x.t.2=false)⟩):=by
 generalize hcs:ts.flatMap V1=cs at hr
 cases hr with
 |nil =>
  have:=vJ hcs
  subst this
  refine⟨enters_of Tryz.func314 wc rfl,λw hw=>?_⟩
  refine(AnyF.pdqsortCmpFunc_none Tryz.QAG none 0 (lim:Nat) (.func (.func g) #[] #[]) w).mono ?_
  rintro e w' ⟨rfl,rfl⟩
  exact⟨([],[]),rfl,hw.BY λF h=>⟨h,.nil,ar _,bU⟩⟩
 |some h1 h2 h3 h4 =>
  rename_i b cap rest
  subst hcs
  have h:=QEA (w0:=w0) (F0:=F0) (bs:=bs) (G:=G) hg (b:=b) (n:=n) (cap:=cap) (lim:=lim) (ts:=ts) (rest:=rest) hG hp hl hn hlim
  refine⟨h.1,λw hw=>(h.2 w hw).mono ?_⟩
  rintro e w' ⟨ts',rfl,hw'⟩
  refine⟨(ts',[(b,.cells (ts'.flatMap V1++rest).toArray 263 (0,0))]),rfl,hw'.BY λF ⟨hG',hpm,hpw⟩=>⟨hG',?_,hpm,hpw⟩⟩
  have hlen:(ts'.flatMap V1).length=(ts.flatMap V1).length:=(eK V1 hpm).length_eq
  exact .some (by rw[hlen];exact h1) (by rw[hlen];exact h2) h3 h4
theorem QBF(hg:xe g){n:Nat}{v:Value}{ts:List ZR}{ob:List (Nat×Obj)}(hr:Qx 263 5 v n (ts.flatMap V1) ob)(hG:∀F,G F->GU F ts)(hp:∀t∈ts,PW t.t.2)(hl:ts.length=n)(hn:n<4611686018427387904):
  XB Tryz.prog 282 [v,.func (.func g) #[] #[]] ⟨w0,F0,ob++bs,G⟩ (λ(_:List ZR×List (Nat×Obj))=>.tuple #[])
   (λc=>⟨w0,F0,c.2++bs,λF=>G F/\Qx 263 5 v n (c.1.flatMap V1) c.2/\c.1.Perm ts/\c.1.Pairwise (λx y=>before y.t.2 x.t.2=false)⟩):=by
 refine XB.intro Tryz.func282 rfl wc rfl rfl<|wJ rfl<|QA (C2 rfl hr KB)<|wH rfl<|QB<|wE rfl<|wE rfl<|wE rfl<|QA (C3 rfl QDf QAU O)<|QI rfl (λw F hF _=>xH hF hn) (λ_=>wE rfl<|XX rfl (ar _) (QBX hg hr (λF h=>hG F h.1) hp hl hn (Nat.lt_of_le_of_lt (Lib.bitLen_le n 62 O O) O)) (λc=>QE<|M9 ?_))
 exact KQ (c) rfl .nil (rfl) (λw h=>h.BY λF h=>⟨h.1.1,h.2⟩)
end
theorem Mi:∀(n:Nat) (l:List Nat),l.Nodup->(∀j∈l,j<n)->l.length<=n
 |0,l,_,h=>by
  cases l with
  |nil=>exact ay _
  |cons x l=>exact absurd (h x ax) (fR _)
 |n+1,l,hn,h=>by
  have h1:=Mi n (l.erase n) (hn.erase n) λj hj=>by
   have h2:=(hn.mem_erase_iff).1 hj
   have h3:=h j h2.2
   have h4:=h2.1
   omega
  rw[List.length_erase]at h1
  split at h1<;>omega
theorem jJ{l:List Nat}(hn:l.Nodup)(h:∀j∈l,j<n)(hj:j<n)(hjn:j∉l):(l++[j]).Nodup/\(∀i∈l++[j],i<n)/\l.length<n:=by
 have h1:(l++[j]).Nodup:=by
  rw[List.nodup_append]
  exact⟨hn,we,λa ha b hb=>by rw[List.mem_singleton.1 hb];rintro rfl;exact hjn ha⟩
 have h2:∀i∈l++[j],i<n:=λi hi=>by
  rcases List.mem_append.1 hi with hi | hi
  ·exact h i hi
  ·rw[List.mem_singleton.1 hi];exact hj
 have h3:=Mi n _ h1 h2
 rw[aa]at h3
 exact⟨h1,h2,by simp at h3;omega⟩
theorem yN{l:List Nat}(hn:l.Nodup)(h:∀j∈l,j<n)(ha:∀j,j<n->j∈l):l.Perm (bh n) :=
 (List.perm_ext_iff_of_nodup hn List.nodup_range).2 λa=>by rw[List.mem_range];exact⟨h a,ha a⟩
theorem AM[Inhabited α](l:List α):(bh l.length).map (el l)=l:=by
 apply List.ext_getElem?
 intro i
 by_cases h:i<l.length
 ·rw[ew,List.getElem?_range h,ak h];simp[JK h]
 ·rw[aG wg,aG O]
def XU(F:Gs)(s:Sr)(ts:List ZR)(p:List Tm):Prop:=Qy F s.q s.n 5 (ts.flatMap V1)/\GU F ts/\J1 ts=p/\s.n<=s.cap/\ts.length=s.n
theorem XU.le{s:Sr}{p:List Tm}(h:XU F s ts p)(k:Gs.le F F'):XU F' s ts p:=⟨h.1.le k,h.2.1.le k,h.2.2⟩
def C8(ts:List ZR):List ZR:=ts.filter λt=>decide (t.t.1≠0)
theorem IM(ts:List ZR)(t:ZR):C8 (ts++[t])=C8 ts++(if t.t.1≠0 then[t]else[]):=by
 unfold C8;rw[List.filter_append];congr 1
 by_cases h:t.t.1=0
 ·simp[h]
 ·simp[h]
structure QE7(ts:List ZR) where
 seen:List Nat
 v:Value
 n:Nat
 ob:List (Nat×Obj)
 hr:Qx 263 5 v n ((C8 (seen.map (el ts))).flatMap V1) ob
 nd:seen.Nodup
 lt:∀j∈seen,j<ts.length
 hn:(C8 (seen.map (el ts))).length=n
theorem qJ(ts:List ZR):(Hw ts).length=ts.length:=by simp[Hw]
theorem vz:xe 283:=⟨enters_of Tryz.func283 wc rfl,λw F a b hF hA hB pa pb=>letI:Dr:=⟨True⟩;pP hF hA hB pa pb⟩
theorem yG{r:Rat}:ED r.num=0↔r=0:=by
 unfold ED
 constructor
 ·intro h
  apply Rat.num_eq_zero.1
  split at h
  ·omega
  ·split at h<;>omega
 ·rintro rfl;rfl
theorem z6{os:List ZR}{l:List Tm}(hI:WM ts l)(hn:seen.Nodup)(hlt:∀j∈seen,j<ts.length)(hall:∀j,j<ts.length->j∈seen)(hp:os.Perm (C8 (seen.map (el ts))))(hs:os.Pairwise λx y=>before y.t.2 x.t.2=false):J1 os=J6 l:=by
 have h1:os.Perm (C8 ts):=by
  refine hp.trans ?_
  unfold C8
  refine List.Perm.filter _ ?_
  have:=(yN hn hlt hall).map (el ts)
  rwa [AM]at this
 have h2:(J1 os).Perm ((J1 ts).filter λt=>decide (t.1≠0)):=by
  have:=h1.map ZR.t
  unfold C8 at this
  have e:(ts.filter λt=>decide (t.t.1≠0)).map ZR.t=(ts.map ZR.t).filter λt=>decide (t.1≠0):=by
   rw[List.filter_map];rfl
  rw[e]at this;exact this
 refine hI.jF.norm h2 ?_
 have hnd:((J1 os).map (·.2)).Nodup:=by
  have h3:((J1 os).map (·.2)).Perm (((J1 ts).filter λt=>decide (t.1≠0)).map (·.2)):=h2.map _
  rw[h3.nodup_iff]
  exact(List.filter_sublist.map _).nodup hI.jF.nd
 unfold J1 at hnd ⊢
 rw[er]
 rw[e9]at hnd
 have hnd2:=List.pairwise_map.1 hnd
 refine(hs.and hnd2).imp ?_
 rintro x y ⟨h1,h2⟩
 rcases Wr x.t.2 y.t.2 with e | e | e
 ·exact absurd e h2
 ·exact e
 ·rw[h1]at e;cases e
theorem Oo(hlt:∀j∈seen,j<ts.length){t:ZR}(h:t∈C8 (seen.map (el ts))):t∈ts:=by
 have:=(List.mem_filter.1 h).1
 obtain⟨j,hj,e⟩:=List.mem_map.1 this
 rw[<-e];exact Q4 (hlt j hj)
theorem kK{t:ZR}(e:el ts j=t)(h:t.t.1≠0):C8 ((seen++[j]).map (el ts))=C8 (seen.map (el ts))++[t]:=by
 rw[aH,aj,il,e,IM,if_pos h]
theorem QAM{t:ZR}(e:el ts j=t)(h:t.t.1=0):C8 ((seen++[j]).map (el ts))=C8 (seen.map (el ts)):=by
 rw[aH,aj,il,e,IM,if_neg (not_not_intro h),bJ]
theorem pU(t:ZR):∀v∈V1 t,v.oneCell'=true:=by
 intro v hv
 unfold V1 at hv
 simp only[aP,bc,or_false]at hv
 rcases hv with rfl | rfl | rfl | rfl | rfl<;>rfl
section
variable{w0:World}{F0:Gs}{bs:List (Nat×Obj)}{G:Gs->Prop}
theorem Bt{l:List Tm}(hI:WM ts l)(hlen:ts.length<=1000000000)(hG:∀F,G F->GU F ts):
  XB Tryz.prog 226 [.map (some m)] ⟨w0,F0,(m,Z9 tx (Hw ts))::bs,G⟩ (λ(c:Sr×List ZR)=>c.1.v) (λc=>⟨w0,F0,(m,Z9 tx (Hw ts))::bs,λF=>G F/\XU F c.1 c.2 (J6 l)⟩):=by
 refine XB.intro Tryz.func226 rfl wc rfl rfl<|FF hG<|wI<|wH rfl<|wI<|wH rfl<|QG<|wJ rfl<|Lo rfl R8 .here (λb7=>wG<|QU<|JU (ι:=QE7 ts) [(7,_)] (λi=>[(3,i.v)]) (λi=>(b7,xo m (Hw ts).length i.seen)::(m,Z9 tx (Hw ts))::(i.ob++bs)) (λi F=>True) (λi=>ts.length - i.seen.length) (⟨[],_,0,[],.nil,eN,(λ_ h=>by cases h),rfl⟩) wO wO wK wh (λi=>?_))
 simp only[ae,ag]
 have hn0:i.n<=i.seen.length:=by rw[<-i.hn];exact bL (List.length_filter_le _ _) we
 refine wI<|CT (kv:=Hw ts) (K:=tx) (b:=m) rfl .here .u1 (λx hx=>QA (QT I (QEI x))<|wG<|QG ?_)
 refine QR I (λhc=>?_) (λhc=>?_)
 ·
  obtain⟨j,rfl⟩:∃j,x=some j:=by
   cases x with
   |none=>cases hc
   |some j=>exact⟨j,rfl⟩
  obtain⟨hj,hjn⟩:=hx
  rw[qJ]at hj
  obtain⟨hs1,hs2,hs3⟩:=jJ i.nd i.lt hj hjn
  have htm:=Q4 hj
  have hkj:(Hw ts)[j]?=some (Kq (el ts j).t.2,xj (el ts j)):=by rw[Hw,ew,ak hj,JK hj];rfl
  generalize hte:el ts j=t at htm hkj
  refine QQ<|QC<|QU<|wI<|QA (pG (kv:=Hw ts) (K:=tx) (p:=(Kq t.t.2,xj t)) I .here .u1 hkj)<|QA (QT I I)<|Qb GY (λb5=>QO (vs:=[_,_,_,_,_]) I I I Xy I .here .h5 wS<|wG<|wI<|QA (QH I W9 QL)<|QA (QJ (vs:=[_,_,_,_]) I QL .here .h4 rfl)<|QI I (λw F hF h9=>TA hF ((h9.1.2 t htm).1)) (λ_=>QA (QZ I I I)<|QE<|QC ?_))
  refine QR I (λhc=>?_) (λhc=>?_)
  ·
   have hnz:t.t.1≠0:=λe=>by rw[e]at hc;cases hc
   refine QB<|wE I<|QA (QJ (vs:=[_,_,_,_,_]) I Xy .here .h5 rfl)<|Qa I (Qw KB) Xy GY I I (λb18=>ZP (bs':=(_::_::_::bs)++i.ob) (.cons _ (.cons _ (.cons _ aV))) ?_)
   refine Yu (ob:=i.ob) (k:=1) (sz:=5) (news:=V1 t) rfl rfl KB Xy GY I QCE i.hr (Src.row (off:=0) wk (λj v hv=>by rw[aM];show((V1 t).toArray)[j]?=some v;rw[aq];exact hv) rfl) O O (pU t) (λv19 ob19 hr19=>?_)
   refine ZP (bs':=_::_::_::(ob19++bs)) (.cons _ (.cons _ (.cons _ aV)))<|wF I<|QE<|Qk ?_
   exact Ql (⟨i.seen++[j],v19,i.n+1,ob19,by rw[kK hte hnz,ba];simpa using hr19,hs1,hs2,by rw[kK hte hnz,aa,i.hn];rfl⟩) (by show _ - (i.seen++[j]).length<_;rw[aa];simp only[aF];omega) wP (.cons _ wK) (λF h=>⟨h.1.1.1,trivial⟩)
  ·
   have hz:t.t.1=0:=yG.1 (by simpa using hc)
   refine QQ<|Qk ?_
   exact Ql (⟨i.seen++[j],i.v,i.n,i.ob,by rw[QAM hte hz];exact i.hr,hs1,hs2,by rw[QAM hte hz];exact i.hn⟩) (by show _ - (i.seen++[j]).length<_;rw[aa];simp only[aF];omega) wP (.cons _ wK) (λF h=>⟨h.1.1,trivial⟩)
 ·
  obtain rfl:x=none:=by
   cases x with
   |none=>rfl
   |some j=>cases hc
  rw[show nxP (Hw ts).length i.seen none=∀j,j<(Hw ts).length->j∈i.seen from rfl,qJ]at hx
  refine Qz ?_
  repeat (first | refine QW ?_ | refine QP wc ?_)
  refine QX<|QC<|wJ I<|XX I (List.perm_middle.trans (.cons _ eD)).symm (QBF vz i.hr (λF ⟨⟨hG0,hT⟩,_⟩ t ht=>hT t (Oo i.lt ht)) (λt ht=>hI.pw t (Oo i.lt ht)) i.hn (by have:=Mi _ _ i.nd i.lt;omega)) (λc=>JQ _ (λw F hF h=>h.2) (λhso=>?_))
  obtain⟨r,hv,hrn,hrc,hfix⟩:=Qx.fix (w0:=w0) (F0:=F0) (bs1:=(b7,xo m (Hw ts).length (nxS i.seen none))::(m,Z9 tx (Hw ts))::bs) (G:=_) hso.1
  refine ZP aV<|YM hfix ?_
  rw[hv]
  refine wG<|wJ I<|wH I<|QY ?_
  exact KQ (⟨r,c.1⟩) I (wB I) (rfl) (λw h=>St.imp h (.cons _ wK) (λF h9=>⟨h9.1.1.1.1,by rw[hrn];exact h9.2,λt ht=>h9.1.1.1.2 t (Oo i.lt (hso.2.1.mem_iff.1 ht)),z6 hI i.nd i.lt hx hso.2.1 hso.2.2,by rw[hrn];exact hrc,hso.2.1.length_eq.trans (i.hn.trans hrn.symm)⟩))
end
section
variable[Dr][df:Df]{P:Program}{N:Nat}{m:Sl}{w0:World}{F0:Gs}{bs:List (Nat×Obj)}{G:Gs->Prop}
theorem pF{yT ty e:TypeId}{q:Option Addr}{Y:World->Prop}(hx:ev m x=some (.slice q n c))(hy:ev m y=some (.slice none 0 0))(hT:Hr P T=some e):Qt P N m Y (.binOp .eql T x y yT) ty (.bool q.isNone):=λa w _ _ _ _ ha _=>by
 have:=Lib.run_eql_slice_nil (P:=P) w T e q n c 0 0 (Qw hT)
 simp[execOp,ha.ev hx,ha.ev hy,eqGuard,this]
theorem Src.QDw{sz:Nat}{a:Addr}{news:List Value}(hr:∀F,G F->Qy F (some a) k sz news)(hl:news.length=k*sz):Src ⟨w0,F0,bs,G⟩ sz (.slice (some a) k c) k news:=by
 refine⟨hl,.inr ⟨a,c,rfl,λw hw j v hv=>?_⟩⟩
 have hk:0<k:=by
  rcases aU k with h | h
  ·rw[h,ff]at hl;rw[List.length_eq_zero_iff.1 hl]at hv;simp at hv
  ·exact h
 obtain⟨F,h⟩:=id hw
 obtain⟨b,off,_,_,e,_,_⟩:=(hr F h.hG).2 hk
 cases e
 rw[H2];exact GG hw hr hk hv
theorem Src.QGC{q:Option Addr}{sz:Nat}{news:List Value}(h0:q=none->k=0)(hr:∀F,G F->Qy F q k sz news)(hl:news.length=k*sz):Src ⟨w0,F0,bs,G⟩ sz (.slice q k c) k news:=by
 cases q with
 |some a=>exact .QDw hr hl
 |none =>
  have h:=h0 rfl
  subst h
  rw[ff,eY]at hl
  subst hl
  exact .nil
theorem kF(h:J7 F ⟨none,n,c⟩ l):Qx 3 1 (.slice none 0 0) n (l.map JY) []:=by
 obtain⟨⟨_,h1⟩,h2,_⟩:=h
 have h0:n=0:=by
  rcases aU n with h | h
  ·exact h
  ·obtain⟨_,_,_,_,e,_⟩:=h1 h;cases e
 subst h0
 rw[List.length_eq_zero_iff.1 h2];exact .nil
theorem uQ(l:List Int):∀v∈l.map JY,v.oneCell'=true:=by
 intro v hv
 obtain⟨x,_,rfl⟩:=List.mem_map.1 hv
 rfl
end
section
variable{w0:World}{F0:Gs}{bs:List (Nat×Obj)}{G:Gs->Prop}
theorem As{r:Sr}(hG:∀F,G F->J7 F r l)(hn:l.length=r.n)(hl:l.length<=1000000000):
  XB Tryz.prog 224 [r.v] ⟨w0,F0,bs,G⟩ (λ(c:Value×List (Nat×Obj))=>c.1) (λc=>⟨w0,F0,bs++c.2,λF=>G F/\Qx 3 1 c.1 r.n (l.map JY) c.2⟩):=by
 obtain⟨q,n,c⟩:=r
 dsimp only[Sr.v]at hn ⊢
 refine XB.intro Tryz.func224 rfl wc rfl rfl<|FF hG<|wI<|wH rfl<|QG<|wJ rfl<|QA (pF rfl rfl Q2)<|QE<|QC ?_
 refine QR I (λhc=>?_) (λhc=>?_)
 ·
  obtain rfl:q=none:=by
   cases q with
   |none=>rfl
   |some a=>cases hc
  refine wI<|wH I<|QY ?_
  exact KQ (⟨.slice none 0 0,[]⟩) I (wB I) (rfl) (λw h=>St.imp h we (λF h9=>⟨h9.1,kF h9.2⟩))
 ·
  obtain⟨a,rfl⟩:∃a,q=some a:=by
   cases q with
   |none=>cases hc
   |some a=>exact⟨a,rfl⟩
  refine QQ<|QC<|wI<|ML (Qw Q2) JR (λb5=>wE I<|ZP (bs':=bs++[(b5,.cells ([]++[]:List Value).toArray 3 (0,0))]) (aV (l₁:=[_]))<|Yu (ob:=[(b5,.cells ([]++[]:List Value).toArray 3 (0,0))]) (n:=0) (k:=n) (sz:=1) (news:=l.map JY) rfl rfl Q2 JR N3 I Av (.some rfl rfl (ay _) wa) (Src.QDw (λF hG=>hG.2.1) (by simp[hn])) O O (uQ l) (λv7 ob7 hr7=>?_))
  rw[aM,ag]at hr7
  refine wH I<|QY ?_
  exact KQ (⟨v7,ob7⟩) I (wB I) (rfl) (λw h=>St.imp h wK (λF h9=>⟨h9.1,hr7⟩))
end
structure EE where
 f:List UInt8
 r:Sr
 k:List Int
variable{ps:List EE}
instance :Inhabited EE:=⟨⟨[],⟨none,0,0⟩,[]⟩⟩
def Nn(t:EE):List Value:=[tx t.f,.slice t.r.q t.r.n t.r.cap]
theorem Pm(t:EE):(Nn t).length=2:=rfl
def WQ(F:Gs)(ts:List EE):Prop:=∀t∈ts,J7 F t.r t.k
theorem WQ.le{ts:List EE}(h:WQ F ts)(k:Gs.le F F'):WQ F' ts:=λt ht=>(h t ht).le k
def dJ(t:EE):Tm:=(Qs t.f,t.k)
structure QE5(ps:List EE) where
 i:Nat
 ts:List ZR
 le:i<=ps.length
 hI:WM ts ((ps.take i).map dJ)
theorem zo(l:List Tm)(i:Nat):KI (l.take i)<=KI l:=by
 have:=Zo (l.take i) (l.drop i)
 rw[aE]at this;omega
theorem PO{l:List Tm}{t:Tm}(h:t∈l):JL t.1<=KI l:=by
 induction l with
 |nil=>cases h
 |cons x l ih =>
  have e:KI (x::l)=JL x.1+1+KI l:=by unfold KI;rw[aj,bN]
  rcases List.mem_cons.1 h with rfl | h
  ·omega
  ·have:=ih h;omega
section
variable{P:Program}{w:World}{F:Gs}{f:FuncId}{args:List Value}{γ:Type}{val:γ->Value}{fact:γ->Gs->Prop}
theorem XB.toG[Dr]{G0:Gs->Prop}{E':γ->Env}(h:XB P f args ⟨w,F,[],G0⟩ val E')(hF:Fits F w)(hg:∀F',Gs.le F F'->G0 F')(he:∀c w',St (E' c) w'->St ⟨w,F,[],λF=>fact c F⟩ w'):QS P f args w F val fact:=by
 refine⟨h.1,(h.2 w (St.start hF hg)).mono ?_⟩
 rintro e w' ⟨c,rfl,hw⟩
 obtain⟨F',h'⟩:=he c w' hw
 exact⟨c,F',rfl,h'.ext,h'.le,h'.old,h'.fits,h'.g⟩
theorem uv{r:Sr}(hF:Fits F w)(hR:J7 F r l)(hl:l.length<=1000000000):QS Tryz.prog 224 [r.v] w F (λ(c:Sr)=>c.v) (λc F=>J7 F c l):=by
 have h:=As (w0:=w) (F0:=F) (bs:=[]) (G:=λF'=>Gs.le F F') (r:=r) (l:=l) (λF' h=>hR.le h) hR.2.1 hl
 refine⟨h.1,(h.2 w (St.start hF λ_ h=>h)).mono ?_⟩
 rintro e w' ⟨⟨v,ob⟩,rfl,hw⟩
 obtain⟨F1,h1⟩:=id hw
 have ho:=(h1.hG).2
 dsimp only at ho hw
 obtain⟨s,hv,hsn,hsc,hfix⟩:=Qx.fix (w0:=w) (F0:=F) (bs1:=[]) ho
 obtain⟨F',h'⟩:=hfix w' hw
 exact⟨s,F',by rw[hv],h'.ext,h'.le,h'.old,h'.fits,λF'' hle=>⟨by rw[hsn];exact(h'.g F'' hle).2,by rw[hsn];exact hR.2.1,by rw[hsn];exact hsc⟩⟩
end
section
theorem pJ{r:Sr}(hF:Fits F w)(hGl:JC F)(hR:Qy F r.q r.n 2 (ps.flatMap Nn))(hP:WQ F ps)(hn:ps.length=r.n)(hl:ps.length<=100000)(hv:∀t∈ps,Jw t.f=0/\t.f.length<=1000000/\PW t.k)(hz:KI (ps.map dJ)<=40000000):
  QS Tryz.prog 146 [r.v] w F (λ(c:Sr×List ZR)=>c.1.v) (λc F=>XU F c.1 c.2 (J6 (ps.map dJ))):=by
 obtain⟨q,n,cap⟩:=r
 dsimp only[Sr.v]at hn hR ⊢
 refine QS.intro (G:=λF=>JC F/\Qy F q n 2 (ps.flatMap Nn)/\WQ F ps) Tryz.func146 rfl wc rfl rfl hF (λF' hF'=>⟨hGl.le hF',hR.le hF',hP.le hF'⟩)<|wI<|wH rfl<|wI<|Hn tx (λm=>wH rfl<|QG<|wJ rfl<|QA (Qh rfl BK)<|wE rfl<|wG<|QU<|JU (ι:=QE5 ps) [(3,_),(7,_),(8,_)] (λi=>[(9,.int .i64 ((i.i:Nat):Int))]) (λi=>[(m,Z9 tx (Hw i.ts))]) (λi F=>GU F i.ts) (λi=>ps.length - i.i) (⟨0,[],av _,WM.nil⟩) wQ wO wK (λ_ _ _ h=>by cases h) (λi=>?_))
 simp only[ae,ag]
 have hi:=i.le
 refine wI<|QA (QZ I I I)<|wG<|QG ?_
 refine QR I (λhc=>?_) (λhc=>?_)
 ·
  have hlt:i.i<ps.length:=by have:=wM hc;omega
  have hv1:=hv _ (Q4 hlt)
  have hz1:=zo (ps.map dJ) i.i
  rw[<-fW]at hz1
  have hz2:JL (dJ (el ps i.i)).1<=KI (ps.map dJ):=PO (ab (Q4 hlt))
  dsimp only[dJ]at hz2
  have hl1:=hv1.2.2.2
  refine QQ<|QC<|QG<|QU<|wI<|QA (Q9 (n:=n) i.i (λF h9=>h9.1.2.1) rfl rfl BK VH O)<|QA (Ja (n:=n) (vs:=[tx (el ps i.i).f,.slice (el ps i.i).r.q (el ps i.i).r.n (el ps i.i).r.cap]) ((i.i)*2) (λF h9=>h9.1.2.1) O rfl VH I (λj v hv=>Jm (f:=Nn) (l:=ps) Pm O hv))<|Qb W4 (λb5=>QO (vs:=[_,_]) I I I VH I .here .h2 wP<|wG<|JO (.cons_cons _ (.cons _ .slnil)) mixed y0<|QK (QD I)<|QK (QH I Ai XA)<|QK (Qg I XA .here .h1)<|QN I (λw F hF h9=>Kr hF h9.1.1 ((XT (hv _ (Q4 hlt)).1).1) (by have:=(hv _ (Q4 hlt)).2.1;omega)) (λx16=>QK (QH I E3 Jf)<|QK (Qg I Jf .here (.skip .h1))<|QN I (λw F hF h9=>uv hF (r:=(el ps i.i).r) (h9.1.1.2.2 _ (Q4 hlt)) O) (λc19=>Ls I (ey _ _ _) (ES (r:=c19) (x:=x16) i.hI hv1.2.2 O O (λF h9=>⟨h9.1.1.1.1,h9.1.1.2,h9.1.2,h9.2⟩)) (λn w h=>St.imp h (.cons _ wK) (λF h=>h.1.1.1)) (λn20=>Y5 _ (λw F hF h=>h.2.2) (λh20=>?_)))))
  have hI2:WM (addN i.ts n20) ((ps.take (i.i+1)).map dJ):=by
   have:=i.hI.add hv1.2.2 h20
   rw[XN hlt,aH];exact this
  refine Q6<|Qk<|QC<|QB<|QA (Qu I I O)<|wE I<|QE ?_
  exact Ql (⟨i.i+1,addN i.ts n20,hlt,hI2⟩) (by show ps.length - (i.i+1)<ps.length - i.i;omega) wR (.cons_cons _ (.cons _ .slnil)) (λF h=>⟨h.1.1.1.1,h.2.1⟩)
 ·
  have hge:i.i=ps.length:=by have:=wN hc;omega
  refine Qz ?_
  repeat (first | refine QW ?_ | refine QP wc ?_)
  refine QX<|QC<|wI<|wE I ?_
  have hI:=i.hI
  rw[hge,aw]at hI
  refine XX I (ar _) (Bt hI (by have:=hI.ln;rw[aW]at this;omega) wk) (λc23=>wH I<|QY ?_)
  exact QV (c23) rfl (wB I) (rfl) wk
end
abbrev Vn:=Sr×List ZR
variable{ls:List Vn}
instance :Inhabited Vn:=⟨(⟨none,0,0⟩,[])⟩
def PL(F:Gs)(ls:List Vn):Prop:=∀e∈ls,XU F e.1 e.2 (J1 e.2)
theorem PL.le(h:PL F ls)(k:Gs.le F F'):PL F' ls:=λe he=>(h e he).le k
def ME(ls:List Vn):List Tm:=ls.flatMap λe=>J1 e.2
structure QG9(ls:List Vn) where
 i:Nat
 ts:List ZR
 le:i<=ls.length
 hI:WM ts (ME (ls.take i))
structure NA(l0:List Tm)(te:List ZR) where
 j:Nat
 ts:List ZR
 le:j<=te.length
 hI:WM ts (l0++J1 (te.take j))
theorem KH{te:List ZR}(h:j<te.length):J1 (te.take (j+1))=J1 (te.take j)++[(el te j).t]:=by unfold J1;rw[XN h,aH];rfl
theorem xO(h:i<ls.length):ME (ls.take (i+1))=ME (ls.take i)++J1 (el ls i).2:=by unfold ME;rw[XN h,ba];simp
theorem cB(h:i<ls.length):KI (ME (ls.take i)++J1 ((el ls i).2.take j))<=KI (ME ls):=by
 have e1:ME ls=ME (ls.take i)++(J1 (el ls i).2++ME (ls.drop (i+1))):=by
  have:ls=ls.take i++el ls i::ls.drop (i+1):=by rw[<-DC h,aE]
  unfold ME
  conv=>lhs;rw[this]
  rw[ba,bt]
 have e2:J1 (el ls i).2=J1 ((el ls i).2.take j)++J1 ((el ls i).2.drop j):=by unfold J1;rw[<-aH,aE]
 have h1:=congrArg KI e1
 have h2:=congrArg KI e2
 rw[Zo,Zo]at h1
 rw[Zo]at h2
 rw[Zo];omega
theorem QBa{p q:Vn}(hF:Fits F w)(hGl:JC F)(hP:XU F p.1 p.2 (J1 p.2))(hQ:XU F q.1 q.2 (J1 q.2))(hp:(∀t∈p.2,PW t.t.2)/\∀t∈q.2,PW t.t.2)(hl:p.2.length<=400000000/\q.2.length<=400000000)(hz:KI (J1 p.2++J1 q.2)<=40000000):
  QS Tryz.prog 296 [p.1.v,q.1.v] w F (λ(c:Vn)=>c.1.v) (λc F=>XU F c.1 c.2 (J6 (J1 p.2++J1 q.2))):=by
 have hpw:∀e∈[p,q],(∀t∈e.2,PW t.t.2)/\e.2.length<=400000000/\e.2.length=e.1.n:=by
  intro e he
  simp only[aP,bc,or_false]at he
  rcases he with rfl | rfl
  ·exact⟨hp.1,hl.1,hP.2.2.2.2⟩
  ·exact⟨hp.2,hl.2,hQ.2.2.2.2⟩
 have hall:ME [p,q]=J1 p.2++J1 q.2:=by simp[ME]
 rw[<-hall]at hz ⊢
 dsimp only[Sr.v]
 refine QS.intro (G:=λF=>JC F/\PL F [p,q]) Tryz.func296 rfl wc rfl rfl hF (λF' hF'=>⟨hGl.le hF',PL.le (by intro e he;simp only[aP,bc,or_false]at he;rcases he with rfl | rfl;exact hP;exact hQ) hF'⟩)<|wI<|wH rfl<|wI<|Hn tx (λm=>wH rfl<|QG<|wJ rfl<|wE rfl<|Qa rfl (Qw Yk) Ya FM rfl rfl (λb13=>QA (Qh rfl Yk)<|wE rfl<|wG<|QU<|JU (ι:=QG9 [p,q]) [(5,_),(13,_),(14,_)] (λi=>[(15,.int .i64 ((i.i:Nat):Int))]) (λi=>[(m,Z9 tx (Hw i.ts))]) (λi F=>GU F i.ts) (λi=>2 - i.i) (⟨0,[],av _,WM.nil⟩) wQ wO wK (λ_ _ _ h=>by cases h) (λi=>?_)))
 simp only[ae,ag]
 have hi:=i.le
 simp only[af,bm]at hi
 refine wI<|QA (QZ I I I)<|wG<|QG ?_
 refine QR I (λhc=>?_) (λhc=>?_)
 ·
  have hlt:i.i<[p,q].length:=by have:=wM hc;simp only[af,bm];omega
  have hem:=Q4 hlt
  have hpe:=hpw _ hem
  have hln:=hpe.2.2
  have hln2:=hpe.2.1
  refine QQ<|QC<|QG<|QU<|wI<|QA (Q9 (n:=2) i.i (λF h9=>Qy.of (n:=2) (sz:=1) (cs:=[p,q].map λe=>e.1.v) h9.1.2 I) rfl rfl Yk Ya (by simpa using hlt))<|QA (Jd (n:=2) (i.i*1) (λF h9=>Qy.of (n:=2) (sz:=1) (cs:=[p,q].map λe=>e.1.v) h9.1.2 I) wa rfl Ya (X8 (f:=λe:Vn=>e.1.v) (l:=[p,q]) hlt))<|wH I<|wJ I<|QA (Qh I KB)<|wE I<|wG<|QU<|JU (ι:=NA (ME ([p,q].take i.i)) (el [p,q] i.i).2) [(5,_),(13,_),(14,_),(15,_),(19,_),(20,_)] (λi2=>[(21,.int .i64 ((i2.j:Nat):Int))]) (λi2=>[(m,Z9 tx (Hw i2.ts))]) (λi2 F=>GU F i2.ts) (λi2=>(el [p,q] i.i).2.length - i2.j) (⟨0,i.ts,av _,by simpa[J1]using i.hI⟩) wT wO wK wk (λi2=>?_)
  simp only[ae,ag]
  have hj:=i2.le
  refine wI<|QA (QZ I I I)<|wG<|QG ?_
  refine QR I (λhc=>?_) (λhc=>?_)
  ·
   have hlt2:i2.j<(el [p,q] i.i).2.length:=by have:=wM hc;omega
   have htm:=Q4 hlt2
   have hz1:=cB (j:=i2.j) hlt
   have hz2:JL (el (el [p,q] i.i).2 i2.j).t.1<=KI (ME [p,q]):=PO (List.mem_flatMap.2 ⟨_,hem,ab htm⟩)
   refine QQ<|QC<|QG<|QU<|wI<|QA (Q9 (n:=(el [p,q] i.i).1.n) (i2.j) (λF h9=>(h9.1.1.1.2 _ hem).1) rfl rfl KB Xy O)<|QA (Ja (n:=(el [p,q] i.i).1.n) (vs:=[.int .i64 (el (el [p,q] i.i).2 (i2.j)).x.n.s,.slice (el (el [p,q] i.i).2 (i2.j)).x.n.q (el (el [p,q] i.i).2 (i2.j)).x.n.n (el (el [p,q] i.i).2 (i2.j)).x.n.cap,.int .i64 (el (el [p,q] i.i).2 (i2.j)).x.d.s,.slice (el (el [p,q] i.i).2 (i2.j)).x.d.q (el (el [p,q] i.i).2 (i2.j)).x.d.n (el (el [p,q] i.i).2 (i2.j)).x.d.cap,.slice (el (el [p,q] i.i).2 (i2.j)).r.q (el (el [p,q] i.i).2 (i2.j)).r.n (el (el [p,q] i.i).2 (i2.j)).r.cap]) ((i2.j)*5) (λF h9=>(h9.1.1.1.2 _ hem).1) O rfl Xy I (λj v hv=>Jm (f:=V1) (l:=(el [p,q] i.i).2) B1 O hv))<|Qb GY (λb9=>QO (vs:=[_,_,_,_,_]) I I I Xy I .here .h5 wS<|wG<|QB<|wE I<|QA (QH I W9 QL)<|QA (QJ (vs:=[_,_,_,_]) I QL .here .h4 rfl)<|QA (QH I V8 Jf)<|QA (Qg I Jf .here (.skip (.skip (.skip (.skip .h1)))))<|XX I (ey _ _ _) (ES (r:=(el (el [p,q] i.i).2 i2.j).r) (x:=(el (el [p,q] i.i).2 i2.j).x) i2.hI (hpe.1 _ htm) O O (λF h9=>⟨h9.1.1.1.1,h9.2,((h9.1.1.1.2 _ hem).2.1 _ htm).1,((h9.1.1.1.2 _ hem).2.1 _ htm).2⟩)) (λn30=>JQ _ (λw F hF h=>h.2.2) (λh30=>QE<|Qk<|QC<|QB<|QA (Qu I I O) ?_)))
   refine wE I<|QE ?_
   exact Ql (⟨i2.j+1,addN i2.ts n30,hlt2,by rw[KH hlt2,<-aY];exact i2.hI.add (hpe.1 _ htm) h30⟩) (by show _ - (i2.j+1)<_ - i2.j;omega) wU (.cons_cons _ (.cons _ .slnil)) (λF h=>⟨h.1.1,h.2.1⟩)
  ·
   have hge2:i2.j=(el [p,q] i.i).2.length:=by have:=wN hc;omega
   refine Qz ?_
   repeat (first | refine QW ?_ | refine QP wc ?_)
   refine QX<|Qk<|QC<|QB<|QA (Qu I I O)<|wE I<|QE ?_
   exact Ql (⟨i.i+1,i2.ts,hlt,by rw[xO hlt];have:=i2.hI;rw[hge2,aw]at this;exact this⟩) (by show 2 - (i.i+1)<2 - i.i;simp only[af,bm]at hlt;omega) wR wK (λF h=>⟨h.1.1,h.2⟩)
 ·
  have hge:i.i=[p,q].length:=by have:=wN hc;simp only[af,bm];omega
  refine Qz ?_
  repeat (first | refine QW ?_ | refine QP wc ?_)
  refine QX<|QC<|wI<|wE I ?_
  have hI:=i.hI
  rw[hge,aw]at hI
  refine XX I (ar _) (Bt hI (by have:=hI.ln;rw[hall,aa]at this;simp only[J1,aW]at this;omega) wk) (λc34=>wH I<|QY ?_)
  exact QV (c34) rfl (wB I) (rfl) wk
section
variable{P:Program}{Q:Exit->Act->World->Prop}{N:Nat}{m:Sl}{E0:Env}{ops:Array Oper}{l:List Oper}{w0:World}{F0:Gs}{bs:List (Nat×Obj)}{G:Gs->Prop}
theorem Y6[Dr]{bs':List (Nat×Obj)}(hp:bs.Perm bs')(k:JD P ops Q E0 l N m ⟨w0,F0,bs',G⟩):JD P ops Q E0 l N m ⟨w0,F0,bs,G⟩:=λhE a w ha hw=>k (λw h=>hE w (h.perm hp.symm)) a w ha (hw.perm hp)
end
def OR(a:Rat)(l:List Tm):List Tm:=if a=0 then[]else l.map λt=>(t.1*a,t.2)
structure QIW(a:Rat)(ts:List ZR) where
 i:Nat
 v:Value
 ob:List (Nat×Obj)
 out:List ZR
 le:i<=ts.length
 hr:Qx 263 5 v i (out.flatMap V1) ob
 ho:J1 out=(J1 (ts.take i)).map λt=>(t.1*a,t.2)
abbrev Pt:=List (List UInt8×List Int)
def Y8(ts:List EE):Pt:=ts.map λt=>(t.f,t.k)
def cZ(l:List Tm):Pt:=l.map λt=>(Je t.1,t.2)
def gm(F:Gs)(s:Sr)(ts:List EE)(p:Pt):Prop:=Qy F s.q s.n 2 (ts.flatMap Nn)/\WQ F ts/\Y8 ts=p/\s.n<=s.cap/\ts.length=s.n
theorem gm.le{s:Sr}{ts:List EE}{p:Pt}(h:gm F s ts p)(k:Gs.le F F'):gm F' s ts p:=⟨h.1.le k,h.2.1.le k,h.2.2⟩
abbrev S1:=Sr×List EE
structure QIN(ts:List ZR) where
 i:Nat
 v:Value
 ob:List (Nat×Obj)
 out:List EE
 le:i<=ts.length
 hr:Qx 108 2 v i (out.flatMap Nn) ob
 ho:Y8 out=cZ (J1 (ts.take i))
theorem Qx.pos{sz:Nat}{v:Value}(h:Qx T sz v n cs ob)(hn:0<n):∃b cap rest,v = .slice (fV ⟨b,0,bX⟩) n cap/\ob=[(b,.cells (cs++rest).toArray T (0,0))]/\cs.length=n*sz/\cs.length+rest.length=cap*sz/\n<=cap/\cap<=maxLen:=by
 cases h with
 |nil=>omega
 |some h1 h2 h3 h4=>exact⟨_,_,_,rfl,rfl,h1,h2,h3,h4⟩
structure PmO(p q:List ZR) where
 i:Nat
 ts:List ZR
 le:i<=p.length
 hI:WM ts (Jb (J1 (p.take i)) (J1 q))
structure PmJ(l0:List Tm)(s:Tm)(q:List ZR) where
 j:Nat
 ts:List ZR
 le:j<=q.length
 hI:WM ts (l0++Jy s (J1 (q.take j)))
structure PmK(n:Nat)(a b:List Int) where
 k:Nat
 L:List Int
 v:Value
 ob:List (Nat×Obj)
 le:k<=b.length
 hr:Qx 3 1 v n (L.map JY) ob
 hL:L=XH (a.take k) (b.take k)++a.drop k
theorem xT(h1:k<a.length)(h2:k<b.length):(XH (a.take k) (b.take k)++a.drop k).set k (Qf a k+Qf b k)=XH (a.take (k+1)) (b.take (k+1))++a.drop (k+1):=by
 have hl:(XH (a.take k) (b.take k)).length=k:=by unfold XH;rw[fq,aA,aA];omega
 have hs:XH (a.take (k+1)) (b.take (k+1))=XH (a.take k) (b.take k)++[Qf a k+Qf b k]:=by
  rw[XN h1,XN h2,KD h1,KD h2]
  unfold XH
  rw[List.zipWith_append (by rw[aA,aA];omega)];rfl
 rw[hs,DC h1,List.set_append_right _ _ O,hl,ir]
 simp
theorem Lb(h1:k<a.length)(h2:k<b.length):Qf (XH (a.take k) (b.take k)++a.drop k) k=Qf a k:=by
 have hl:(XH (a.take k) (b.take k)).length=k:=by unfold XH;rw[fq,aA,aA];omega
 have h3:k<(XH (a.take k) (b.take k)++a.drop k).length:=by rw[aa,hl,bR];omega
 rw[KD h3,KD h1,JK h3,JK h1,List.getElem_append_right O]
 simp[hl]
theorem Rq{p q:List ZR}(h:i<p.length):Jb (J1 (p.take (i+1))) (J1 q)=Jb (J1 (p.take i)) (J1 q)++Jy (el p i).t (J1 q):=by
 rw[KH h,V5];congr 1;simp[Jb]
theorem yu{p q:List ZR}(h:i<p.length):KI (Jb (J1 (p.take i)) (J1 q)++Jy (el p i).t (J1 (q.take j)))<=KI (Jb (J1 p) (J1 q)):=by
 have e1:J1 p=J1 (p.take (i+1))++J1 (p.drop (i+1)):=by unfold J1;rw[<-aH,aE]
 have e2:J1 q=J1 (q.take j)++J1 (q.drop j):=by unfold J1;rw[<-aH,aE]
 have h1:KI (Jb (J1 p) (J1 q))=KI (Jb (J1 (p.take (i+1))++J1 (p.drop (i+1))) (J1 q)):=by rw[<-e1]
 rw[V5,Rq h,Zo,Zo]at h1
 have h2:KI (Jy (el p i).t (J1 q))=KI (Jy (el p i).t (J1 (q.take j)++J1 (q.drop j))):=by rw[<-e2]
 rw[GN,Zo]at h2
 rw[Zo];omega
theorem jW(p q:List Tm):(Jb p q).length=p.length*q.length:=by
 induction p with
 |nil=>simp[Jb]
 |cons s p ih=>rw[XO,aa,ih,af,fp];simp[Jy];omega
theorem QBk{a b:Nat}(h:a<=10000)(k:b<=10000):a*b<=100000000:=Nat.mul_le_mul h k
theorem QBS{p q:Vn}(hF:Fits F w)(hGl:JC F)(hP:XU F p.1 p.2 (J1 p.2))(hQ:XU F q.1 q.2 (J1 q.2))(hw:(∀t∈p.2,t.t.2.length=N)/\∀t∈q.2,t.t.2.length=N)(hN:N<=1000)(hl:p.2.length<=10000/\q.2.length<=10000)
  (hpw:(∀t∈p.2,PW t.t.2)/\(∀t∈q.2,PW t.t.2)/\∀s∈p.2,∀t∈q.2,PW (XH s.t.2 t.t.2)) (hz1:KI (J1 p.2)<=20000000/\KI (J1 q.2)<=20000000) (hz:KI (Jb (J1 p.2) (J1 q.2))<=40000000) :
  QS Tryz.prog 297 [p.1.v,q.1.v] w F (λ(c:Vn)=>c.1.v) (λc F=>XU F c.1 c.2 (J6 (Jb (J1 p.2) (J1 q.2)))):=by
 have hpn:=hP.2.2.2.2
 have hqn:=hQ.2.2.2.2
 dsimp only[Sr.v]
 refine QS.intro (G:=λF=>JC F/\XU F p.1 p.2 (J1 p.2)/\XU F q.1 q.2 (J1 q.2)) Tryz.func297 rfl wc rfl rfl hF (λF' hF'=>⟨hGl.le hF',hP.le hF',hQ.le hF'⟩)<|wI<|wH rfl<|wI<|Hn tx (λm=>wH rfl<|QG<|wJ rfl<|QA (Qh rfl KB)<|wE rfl<|wG<|QU<|JU (ι:=PmO p.2 q.2) [(1,_),(5,_),(14,_),(15,_)] (λi=>[(16,.int .i64 ((i.i:Nat):Int))]) (λi=>[(m,Z9 tx (Hw i.ts))]) (λi F=>GU F i.ts) (λi=>p.2.length - i.i) (⟨0,[],av _,WM.nil⟩) wR wO wK (λ_ _ _ h=>by cases h) (λi=>?_))
 simp only[ae,ag]
 have hi:=i.le
 refine wI<|QA (QZ I I I)<|wG<|QG ?_
 refine QR I (λhc=>?_) (λhc=>?_)
 ·
  have hlt:i.i<p.2.length:=by have:=wM hc;omega
  have hta:=Q4 hlt
  have hna:=hw.1 _ hta
  have hra:=(hP.2.1 _ hta).2.2.1
  refine QQ<|QC<|QG<|QU<|wI<|QA (Q9 (n:=p.1.n) i.i (λF h9=>(h9.1.2.1).1) rfl rfl KB Xy O)<|QA (Ja (n:=p.1.n) (vs:=[.int .i64 (el p.2 i.i).x.n.s,.slice (el p.2 i.i).x.n.q (el p.2 i.i).x.n.n (el p.2 i.i).x.n.cap,.int .i64 (el p.2 i.i).x.d.s,.slice (el p.2 i.i).x.d.q (el p.2 i.i).x.d.n (el p.2 i.i).x.d.cap,.slice (el p.2 i.i).r.q (el p.2 i.i).r.n (el p.2 i.i).r.cap]) ((i.i)*5) (λF h9=>(h9.1.2.1).1) O rfl Xy I (λj v hv=>Jm (f:=V1) (l:=p.2) B1 O hv))<|Qb GY (λb7=>QO (vs:=[_,_,_,_,_]) I I I Xy I .here .h5 wS<|wG<|wJ I<|QA (Qh I KB)<|wE I<|wG<|QU<|JU (ι:=PmJ (Jb (J1 (p.2.take i.i)) (J1 q.2)) (el p.2 i.i).t q.2) [(1,_),(5,_),(7,_),(14,_),(15,_),(16,_),(20,_),(21,_)] (λi2=>[(22,.int .i64 ((i2.j:Nat):Int))]) (λi2=>[(b7,.cells (V1 (el p.2 i.i)).toArray 263 (0,0)),(m,Z9 tx (Hw i2.ts))]) (λi2 F=>GU F i2.ts) (λi2=>q.2.length - i2.j) (⟨0,i.ts,av _,by simpa[J1,Jy]using i.hI⟩) wV wO wK wk (λi2=>?_))
  simp only[ae,ag]
  have hj:=i2.le
  refine wI<|QA (QZ I I I)<|wG<|QG ?_
  refine QR I (λhc=>?_) (λhc=>?_)
  ·
   have hlt2:i2.j<q.2.length:=by have:=wM hc;omega
   have htb:=Q4 hlt2
   have hnb:=hw.2 _ htb
   have hrb:=(hQ.2.1 _ htb).2.2.1
   have hzz:=yu (q:=q.2) (j:=i2.j) hlt
   have hza:JL (el p.2 i.i).t.1<=KI (J1 p.2):=PO (ab hta)
   have hzb:JL (el q.2 i2.j).t.1<=KI (J1 q.2):=PO (ab htb)
   refine QQ<|QC<|QG<|QU<|wI<|QA (Q9 (n:=q.1.n) (i2.j) (λF h9=>(h9.1.1.2.2).1) rfl rfl KB Xy O)<|QA (Ja (n:=q.1.n) (vs:=[.int .i64 (el q.2 (i2.j)).x.n.s,.slice (el q.2 (i2.j)).x.n.q (el q.2 (i2.j)).x.n.n (el q.2 (i2.j)).x.n.cap,.int .i64 (el q.2 (i2.j)).x.d.s,.slice (el q.2 (i2.j)).x.d.q (el q.2 (i2.j)).x.d.n (el q.2 (i2.j)).x.d.cap,.slice (el q.2 (i2.j)).r.q (el q.2 (i2.j)).r.n (el q.2 (i2.j)).r.cap]) ((i2.j)*5) (λF h9=>(h9.1.1.2.2).1) O rfl Xy I (λj v hv=>Jm (f:=V1) (l:=q.2) B1 O hv))<|Qb GY (λb9=>QO (vs:=[_,_,_,_,_]) I I I Xy I .here .h5 wS<|wG<|wI<|QA (QH I V8 Jf)<|QA (Qg I Jf .u1 (.skip (.skip (.skip (.skip .h1)))))<|XX I (ar _) (As (r:=(el p.2 i.i).r) (l:=(el p.2 i.i).t.2) (λF h9=>(h9.1.1.2.1.2.1 _ hta).2) hra O) (λc28=>JQ _ (λw F hF h=>h.2) (λh28=>wH I<|QG<|wI<|QA (QH I V8 Jf) ?_)))
   refine QA (Qg I Jf .here (.skip (.skip (.skip (.skip .h1)))))<|QA (Qh I Q2)<|wE I<|wG<|QU<|JU (ι:=PmK (el p.2 i.i).r.n (el p.2 i.i).t.2 (el q.2 i2.j).t.2) [(1,_),(5,_),(7,_),(9,_),(14,_),(15,_),(16,_),(20,_),(21,_),(22,_),(30,_),(31,_)] (λi3=>[(10,i3.v),(32,.int .i64 ((i3.k:Nat):Int))]) (λi3=>[(b9,.cells (V1 (el q.2 i2.j)).toArray 263 (0,0)),(b7,.cells (V1 (el p.2 i.i)).toArray 263 (0,0)),(m,Z9 tx (Hw i2.ts))]++i3.ob) (λi3 F=>True) (λi3=>(el q.2 i2.j).t.2.length - i3.k) (⟨0,(el p.2 i.i).t.2,c28.1,c28.2,av _,h28,by simp[XH]⟩) wZ wP wK wh (λi3=>?_)
   simp only[ae,ag]
   have hk:=i3.le
   refine wI<|QA (QZ I I I)<|wG<|QG ?_
   refine QR I (λhc=>?_) (λhc=>?_)
   ·
    obtain⟨k,L,v,ob,hk0,hr,hL⟩:=i3
    dsimp only at hk hc ⊢
    have hlt3:k<(el q.2 i2.j).t.2.length:=by have:=wM hc;omega
    have hka:k<(el p.2 i.i).t.2.length:=O
    have hLn:L.length=(el p.2 i.i).t.2.length:=by rw[hL];unfold XH;simp;omega
    have hb1:=(hpw.1 _ hta).el hka
    have hb2:=(hpw.2.1 _ htb).el hlt3
    obtain⟨b,cap,rest,rfl,rfl,e1,e2,e3,e4⟩:=Qx.pos hr O
    have hdL:Qf L k=Qf (el p.2 i.i).t.2 k:=by rw[hL];exact Lb hka hlt3
    refine QQ<|QC<|QG<|QU<|wJ I<|QA (Q9 (n:=(el q.2 i2.j).r.n) k (λF h9=>(h9.1.1.1.1.2.2.2.1 _ htb).2.1) rfl rfl Q2 JR O)<|QA (Jd (n:=(el q.2 i2.j).r.n) (k*1) (λF h9=>(h9.1.1.1.1.2.2.2.1 _ htb).2.1) O rfl JR (XR (o:=(el q.2 i2.j).t.2) O))<|wF I<|wH I<|QB<|wE I<|wE I<|QA (JG (i:=k) rfl rfl Q2 JR O)<|QA (V4 (c:=(L).map JY++rest) (T':=3) rfl JR .u3 (WY (by first | omega | (simp only[aI];omega))))<|wE I<|QA (Qu I I O)<|QA (JG (i:=k) rfl rfl Q2 JR O)<|QO (vs:=[_]) I I I JR I .u3 (DX (by first | omega | (simp only[aI];omega)) ((Qf (L) (k)+Qf (el q.2 i2.j).t.2 k))) wO<|QE<|Qk<|QC ?_
    refine QB<|QA (Qu I I O)<|wE I<|QE ?_
    exact Ql (⟨k+1,_,_,_,hlt3,Qx.some (by simpa using e1) (by simpa using e2) e3 e4,by rw[hL,Lb hka hlt3];exact xT hka hlt3⟩) (by show(el q.2 i2.j).t.2.length - (k+1)<(el q.2 i2.j).t.2.length - k;omega) ⟨rfl,rfl,rfl,rfl,rfl,rfl,rfl,rfl,rfl,rfl,rfl,rfl,rfl,rfl,trivial⟩ wK (λF h=>⟨h.1,trivial⟩)
   ·
    have hge3:i3.k=(el q.2 i2.j).t.2.length:=by have:=wN hc;omega
    have hLe:i3.L=XH (el p.2 i.i).t.2 (el q.2 i2.j).t.2:=by
     have h1:=i3.hL
     rw[hge3,aw]at h1
     rw[h1,aD O,ao O,bJ]
    have hLn:(XH (el p.2 i.i).t.2 (el q.2 i2.j).t.2).length=(el p.2 i.i).r.n:=by rw[Bm O];exact hra
    refine Qz ?_
    repeat (first | refine QW ?_ | refine QP wc ?_)
    refine QX<|QC<|QB<|wE I<|QA (QH I W9 QL)<|QA (QJ (vs:=[_,_,_,_]) I QL .u1 .h4 rfl)<|QA (QH I W9 QL)<|QA (QJ (vs:=[_,_,_,_]) I QL .here .h4 rfl)<|QI I (λw F hF h9=>Wx hF ((h9.1.1.1.1.2.1.2.1 _ hta).1) ((h9.1.1.1.1.2.2.2.1 _ htb).1) O O) (λx50=>wE I ?_)
    obtain⟨r,hv,hrn,hrc,hfix⟩:=Qx.fix (w0:=w) (F0:=F) (bs1:=[(b9,.cells (V1 (el q.2 i2.j)).toArray 263 (0,0)),(b7,.cells (V1 (el p.2 i.i)).toArray 263 (0,0)),(m,Z9 tx (Hw i2.ts))]) (G:=_) i3.hr
    refine YM hfix ?_
    rw[hv]
    refine ZP (eD (l₁:=[_,_]) (l₂:=[]))<|XX I (ar _) (ES (r:=r) (x:=x50) i2.hI (hpw.2.2 _ hta _ htb) (by have:=Z8 (el p.2 i.i).t.1 (el q.2 i2.j).t.1;omega) O (λF h9=>⟨h9.1.1.1.1.1.1.1,h9.1.1.1.1.2,⟨h9.1.2.1,h9.1.2.2⟩,by rw[hrn,<-hLe];exact h9.2,by rw[hrn];exact hLn,by rw[hrn];exact hrc⟩)) (λn52=>JQ _ (λw F hF h=>h.2.2) (λh52=>ZP (bs':=[_,_,_]) (eD (l₁:=[_,_]) (l₂:=[])).symm<|QE<|Qk<|QC<|QB<|QA (Qu I I O)<|wE I<|QE ?_))
    exact Ql (⟨i2.j+1,addN i2.ts n52,hlt2,by rw[KH hlt2,GN,<-aY];exact i2.hI.add (hpw.2.2 _ hta _ htb) h52⟩) (by show q.2.length - (i2.j+1)<q.2.length - i2.j;omega) wW (.cons _ wK) (λF h=>⟨h.1.1.1.1.1.1,h.2.1⟩)
  ·
   have hge2:i2.j=q.2.length:=by have:=wN hc;omega
   refine Qz ?_
   repeat (first | refine QW ?_ | refine QP wc ?_)
   refine QX<|Qk<|QC<|QB<|QA (Qu I I O)<|wE I<|QE ?_
   exact Ql (⟨i.i+1,i2.ts,hlt,by rw[Rq hlt];have:=i2.hI;rw[hge2,aw]at this;exact this⟩) (by show p.2.length - (i.i+1)<p.2.length - i.i;omega) wS (.cons _ wK) (λF h=>⟨h.1.1,h.2⟩)
 ·
  have hge:i.i=p.2.length:=by have:=wN hc;omega
  refine Qz ?_
  repeat (first | refine QW ?_ | refine QP wc ?_)
  refine QX<|QC<|wI<|wE I ?_
  have hI:=i.hI
  rw[hge,aw]at hI
  refine XX I (ar _) (Bt hI (by have h1:=hI.ln;rw[jW]at h1;simp only[J1,aW]at h1;have h2:=QBk hl.1 hl.2;omega) wk) (λc56=>wH I<|QY ?_)
  exact QV (c56) rfl (wB I) (rfl) wk
def QGc:List Tm->Int
 |[]=>0
 |t::_=>t.2.sum
def QBv(l:List Tm):Bool:=l.any λt=>Jj t.1
def QB4:List Bool->Int->Int
 |[],_=>-1
 |b::l,i=>if b then i else QB4 l (i+1)
structure QIh(bl:List Bool) where
 i:Nat
 le:i<=bl.length
 h:QB4 bl 0=QB4 (bl.drop i) i
theorem Yx(ts:List ZR):(J1 ts).length=ts.length:=by simp[J1]
def QD3(l:List Tm):Int:=Qn [if decide (QGc l>12)=true then 4 else 0,if decide ((l.length:Int)>64)=true then 5 else 0,if QBv l=true then 4 else 0]
def QH9(l:List Tm):Pt:=if QD3 l=0 then cZ l else[]
theorem gm.nil(F:Gs):gm F ⟨none,0,0⟩ [] []:=⟨Qy.nil F none 2,(λ_ h=>by cases h),rfl,ay _,rfl⟩
def GS(v:Int):Int:=if decide (v<0)=true\/decide (v>24)=true then 3 else 0
theorem Gq(v:Int):GS v=0↔0<=v/\v<=24:=by unfold GS;simp only[decide_eq_true_eq];split<;>omega
theorem xA{v:Int}(h:¬v<0):GS v=if decide (v>24)=true then 3 else 0:=by unfold GS;simp[h]
def Hi(l:List Int):Int:=(l.map λk=>if 13<k then 13 else k).sum
def W6(f:List UInt8)(l:List Int)(v:Int):Int :=
 if(l.length:Int)≠v+1 then 2 else if l.any (λk=>decide (k<0))=true then 3 else Qn [if decide (Hi l>12)=true then 4 else 0,Jw f]
theorem xF(h:i<l.length):Hi (l.take (i+1))=Hi (l.take i)+(if 13<Qf l i then 13 else Qf l i):=by
 unfold Hi;rw[XN h,aH,eJ,KD h];simp
theorem Si(l:List Int)(h:∀k∈l,0<=k):0<=Hi l/\Hi l<=13*l.length:=by
 induction l with
 |nil=>simp[Hi]
 |cons x l ih =>
  have h1:=ih λk hk=>h k (by simp[hk])
  have h2:=h x we
  have e:Hi (x::l)=(if 13<x then 13 else x)+Hi l:=by unfold Hi;rw[aj,bN]
  rw[e,af];split<;>omega
structure QGl(l:List Int) where
 i:Nat
 le:i<=l.length
 nn:∀k∈l.take i,0<=k
theorem u7(h:i<l.length)(hn:Qf l i<0):l.any (λk=>decide (k<0))=true:=by
 rw[eG];exact⟨el l i,Q4 h,by rw[<-KD h];exact decide_eq_true hn⟩
theorem QCK(h:∀k∈l,0<=k):¬l.any (λk=>decide (k<0))=true:=by
 rw[eG];rintro⟨k,hk,e⟩;have:=wM e;have:=h k hk;omega
theorem j9{v:Int}(hF:Fits F w):Qe Tryz.prog 231 [.int .i64 v] w F (.int .i64 (GS v)):=by
 refine QS.intro (G:=λF=>True) Tryz.func231 rfl wc rfl rfl hF wh<|wI<|wH rfl<|wJ rfl<|QA (QZ rfl rfl rfl)<|wE rfl ?_
 refine Q3 (t:=5) rfl (λhb5=>?_) (λhb5=>?_)
 ·
  refine Qc I I I<|Qc I I I<|QA (Qp I I I)<|QI I (λw F hF _=>RN hF ) (λ_=>wH I<|QY ?_)
  exact wL I I (congrArg (au .i64) (by unfold GS;simp_all)) wh
 ·
  refine QM I I<|wE I<|QM I I<|QA (QZ I I I)<|QA (Qj I I I)<|QI I (λw F hF _=>RN hF ) (λ_=>wH I<|QY ?_)
  exact wL I I (congrArg (au .i64) (xA (wN hb5))) wh
theorem ud{f:List UInt8}{q:Option Addr}{v:Int}(hF:Fits F w)(hGl:JC F)(hR:J7 F ⟨q,n,cap⟩ l)(hf:f.length<=1000000)(hl:l.length<=1000000)(hv : -1000000<=v/\v<=1000000):Qe Tryz.prog 294 [.agg #[tx f,.slice q n cap],.int .i64 v] w F (.int .i64 (W6 f l v)):=by
 have hln:l.length=n:=hR.2.1
 refine QS.intro (G:=λF=>JC F/\J7 F ⟨q,n,cap⟩ l) Tryz.func294 rfl wc rfl rfl hF (λF' hF'=>⟨hGl.le hF',hR.le hF'⟩)<|wI<|Qo rfl (vs:=[_,_]) rfl (λb2=>wH rfl<|QG<|wI<|QA (QH rfl E3 Jf)<|QA (Qg rfl Jf .here (.skip .h1))<|QA (Qh rfl Q2)<|wE rfl<|QA (Qu rfl rfl O)<|QA (QZ rfl rfl rfl)<|QE<|QC ?_)
 refine QR I (λhc=>?_) (λhc=>?_)
 ·
  have hne:=bne_iff_ne.1 hc
  refine wI<|wH I<|QY ?_
  exact wL I I (congrArg (au .i64) (by unfold W6;rw[if_pos (by rw[hln];exact hne)])) wh
 ·
  have heq:=bne_eq_false_iff_eq.1 hc
  refine QQ<|QC<|wI<|wH I<|QG<|wI<|QA (QH I E3 Jf)<|QA (Qg I Jf .here (.skip .h1))<|QA (Qh I Q2)<|wE I<|wG<|QU<|ZK (ι:=QGl l) [(2,_),(15,_),(16,_)] (λi=>[(5,.int .i64 (Hi (l.take i.i))),(17,.int .i64 ((i.i:Nat):Int))]) (λi=>l.length - i.i) (⟨0,av _,we⟩) wQ wP (λi=>?_)
  simp only[ae,ag]
  have hi:=i.le
  have hb:=Si _ i.nn
  rw[aA]at hb
  refine wI<|QA (QZ I I I)<|wG<|QG ?_
  refine QR I (λhc=>?_) (λhc=>?_)
  ·
   have hlt:i.i<l.length:=by have:=wM hc;omega
   refine QQ<|QC<|QG<|QU<|wI<|QA (Q9 (n:=n) i.i (λF h9=>(h9.2).1) rfl rfl Q2 JR O)<|QA (Jd (n:=n) ((i.i)*1) (λF h9=>(h9.2).1) O rfl JR (XR (o:=l) O))<|wH I<|QG<|wJ I<|QA (QZ I I I)<|QE<|QC ?_
   refine QR I (λhc=>?_) (λhc=>?_)
   ·
    have hng:=wM hc
    refine wI<|wH I<|QY ?_
    repeat (first | refine JA ?_ | refine Q5 ?_)
    exact wL I I (congrArg (au .i64) (by unfold W6;rw[if_neg (by rw[hln];exact λh=>h heq),if_pos (u7 hlt hng)])) wh
   ·
    have hng:=wN hc
    refine QQ<|QC<|QB<|wE I<|wE I<|QA (QAC I I)<|QA (Qu I I O)<|wF I<|QE<|Qk<|QC<|QB<|QA (Qu I I O)<|wE I<|QE ?_
    exact Ql (⟨i.i+1,hlt,by intro k hk;rw[XN hlt]at hk;rcases List.mem_append.1 hk with hk | hk;exact i.nn k hk;rw[List.mem_singleton.1 hk,<-KD hlt];omega⟩) (by show l.length - (i.i+1)<l.length - i.i;omega) ⟨rfl,rfl,rfl,(congrArg (λz:Int=>some (au .i64 z)) (xF hlt).symm),rfl,trivial⟩ wK wi
  ·
   have hge:i.i=l.length:=by have:=wN hc;omega
   refine Qz ?_
   repeat (first | refine QW ?_ | refine QP wc ?_)
   refine QX<|QC<|QG<|JO wK mixed y0 ?_
   rw[hge,aw]
   have hnn:=i.nn
   rw[hge,aw]at hnn
   refine QK (QD I)<|QK (QZ I I I)<|QN I (λw F hF h9=>RN hF ) (λ_=>QK (QH I Ai XA)<|QK (Qg I XA .here .h1)<|QN I (λw F hF h9=>Dg hF h9.1.1 (hf)) (λ_=>?_))
   refine Qm I (Qw ZG) Yf Hz I I (λb34=>?_) (λw h=>h.imp wm (λF h=>h.1.1))
   refine QN I (λw F hF h9=>qQ hF (Qy.of (cs:=fS JY [if decide (Hi l>12)=true then 4 else 0,Jw f]) h9.2 I) wa) (λ_=>QK (QF I)<|Q6<|QC<|QY ?_)
   exact wL I I (congrArg (au .i64) (by unfold W6;rw[if_neg (by rw[hln];exact λh=>h heq),if_neg (QCK hnn)])) wh
theorem SO{a b:Int}(h:Qn [a,b]=0):a=0/\b=0:=by
 unfold Qn at h
 by_cases g:a=0
 ·rw[if_pos g]at h
  unfold Qn at h
  by_cases k:b=0
  ·exact⟨g,k⟩
  ·rw[if_neg k]at h;exact⟨g,h⟩
 ·rw[if_neg g]at h;exact absurd h g
def Hq(p:Pt)(v:Int)(i:Nat):Int :=
 let e:=Qn [W6 (el p i).1 (el p i).2 v,if((el p i).1==[48])=true then 6 else 0]
 if e=0/\0<i/\0<=GC (el p (i - 1)).2 (el p i).2 then 11 else e
def Yi(p:Pt)(v:Int):Int:=if decide ((p.length:Int)>64)=true then 5 else Qn ((bh p.length).map (Hq p v))
theorem Z3(h:i<n):el (bh n) i=i:=by rw[JK (by simpa using h)];simp
theorem Aw{ts:List EE}(h:i<ts.length):el (Y8 ts) i=((el ts i).f,(el ts i).k):=by rw[JK (by simpa[Y8]using h),JK h];simp[Y8]
theorem CM(h:∀k∈l,0<=k)(hc:Hi l<=12):∀k∈l,k<=12:=by
 induction l with
 |nil=>intro k hk;cases hk
 |cons x l ih =>
  have hl:∀k∈l,0<=k:=λk hk=>h k (by simp[hk])
  have h1:=(Si l hl).1
  have h2:=h x we
  have e:Hi (x::l)=(if 13<x then 13 else x)+Hi l:=by unfold Hi;rw[aj,bN]
  rw[e]at hc
  intro k hk
  rcases List.mem_cons.1 hk with rfl | hk
  ·split at hc<;>omega
  ·refine ih hl ?_ k hk
   split at hc<;>omega
theorem BI{f:List UInt8}{v:Int}(h:W6 f l v=0):(l.length:Int)=v+1/\(∀k∈l,0<=k/\k<=12)/\Hi l<=12/\Jw f=0:=by
 unfold W6 at h
 split at h
 ·omega
 ·rename_i h1
  split at h
  ·omega
  ·rename_i h2
   have hn:∀k∈l,0<=k:=λk hk=>by
    rcases bG k 0 with g | g
    ·exact absurd (List.any_eq_true.2 ⟨k,hk,decide_eq_true g⟩) h2
    ·exact g
   obtain⟨g1,g2⟩:=SO h
   have hc:Hi l<=12:=by
    rcases bG 12 (Hi l)with g | g
    ·rw[if_pos (decide_eq_true g)]at g1;omega
    ·exact g
   exact⟨O,λk hk=>⟨hn k hk,CM hn hc k hk⟩,hc,g2⟩
theorem G8{f:List UInt8}{v:Int}(h:W6 f l v=0)(hv:v<=24):PW l:=by
 obtain⟨h1,h2,_⟩:=BI h
 exact⟨λk hk=>by have:=h2 k hk;omega,O⟩
theorem Th{p:Pt}{v:Int}(h:Hq p v i=0):W6 (el p i).1 (el p i).2 v=0/\(el p i).1≠[48]/\(0<i->GC (el p (i - 1)).2 (el p i).2<0):=by
 unfold Hq at h
 dsimp only at h
 by_cases g:Qn [W6 (el p i).1 (el p i).2 v,if((el p i).1==[48])=true then 6 else 0]=0/\0<i/\0<=GC (el p (i - 1)).2 (el p i).2
 ·rw[if_pos g]at h;omega
 ·rw[if_neg g]at h
  obtain⟨h1,h2'⟩:=SO h
  have h2:(el p i).1≠[48]:=by
   intro q
   rw[if_pos (by rw[q];rfl)]at h2'
   omega
  refine⟨h1,h2,λhi=>?_⟩
  rcases bG (GC (el p (i - 1)).2 (el p i).2) 0 with q | q
  ·exact q
  ·exact absurd ⟨h,hi,q⟩ g
structure gV(p:Pt)(v:Int)(n:Nat) where
 i:Nat
 le:i<=n
 z:∀j,j<i->Hq p v j=0
def gV.scan{p:Pt}{v:Int}{n:Nat}(s:gV p v n):Zv (bh n) (Hq p v):=⟨s.i,by rw[eu];exact s.le,by
 have key:∀i,i<=n->(∀j,j<i->Hq p v j=0)->Qn ((bh n).map (Hq p v))=Qn (((bh n).map (Hq p v)).drop i):=by
  intro i
  induction i with
  |zero=>intro _ _;rfl
  |succ i ih =>
   intro hi hz
   rw[ih O (λj hj=>hz j O),W8 wg (by simp;exact hz i O)]
 exact key s.i s.le s.z⟩
theorem PR{p:Pt}{v x:Int}{n:Nat}(hn:p.length=n)(hp:¬(n:Int)>64)(s:gV p v n)(h:s.i<n)(hs:Hq p v s.i=x)(hx:x≠0):Yi p v=x:=by
 unfold Yi
 rw[hn,if_neg (by rw[decide_eq_true_eq];exact hp),s.scan.hit (by rw[eu];exact h) (by rw[show s.scan.i=s.i from rfl,Z3 h,hs];exact hx),show s.scan.i=s.i from rfl,Z3 h,hs]
theorem yA{p:Pt}{v:Int}{n:Nat}(hn:p.length=n)(hp:¬(n:Int)>64)(s:gV p v n)(h:n<=s.i):Yi p v=0:=by
 unfold Yi
 rw[hn,if_neg (by rw[decide_eq_true_eq];exact hp),s.scan.stop (by rw[eu];exact h)]
theorem step_eq{v E:Int}(h:i<ps.length)(hE:Qn [W6 (el ps i).f (el ps i).k v,if((el ps i).f==[48])=true then 6 else 0]=E):Hq (Y8 ps) v i=if E=0/\0<i/\0<=GC (el ps (i - 1)).k (el ps i).k then 11 else E:=by
 unfold Hq
 rw[Aw h,Aw (show i - 1<ps.length by omega)]
 dsimp only
 rw[hE]
theorem vN{q:Option Addr}{v:Int}(hF:Fits F w)(hGl:JC F)(hR:Qy F q n 2 (ps.flatMap Nn))(hP:WQ F ps)(hln:ps.length=n)(hf:∀t∈ps,t.f.length<=1000000/\t.k.length<=1000000)(hl:ps.length<=1000000)(hv:0<=v/\v<=24):Qe Tryz.prog 232 [.slice q n cap,.int .i64 v] w F (.int .i64 (Yi (Y8 ps) v)):=by
 have hal:(Y8 ps).length=n:=by unfold Y8;rw[aW];exact hln
 refine QS.intro (G:=λF=>JC F/\Qy F q n 2 (ps.flatMap Nn)/\WQ F ps) Tryz.func232 rfl wc rfl rfl hF (λF' hF'=>⟨hGl.le hF',hR.le hF',hP.le hF'⟩)<|wI<|wH rfl<|QG<|wJ rfl<|QA (Qh rfl BK)<|QA (QZ rfl rfl rfl)<|QE<|QC ?_
 refine QR I (λhc=>?_) (λhc=>?_)
 ·
  have hbig:=hc
  refine wI<|wH I<|QY ?_
  exact wL I I (congrArg (au .i64) (by unfold Yi;rw[hal,if_pos hbig])) wh
 ·
  have hbig:=wN hc
  refine QQ<|QC<|QG<|wJ I<|QA (Qh I BK)<|wE I<|wG<|QU<|ZK (ι:=gV (Y8 ps) v n) [(0,_),(1,_),(11,_),(12,_)] (λi=>[(13,.int .i64 ((i.i:Nat):Int))]) (λi=>n - i.i) (⟨0,av _,λj hj=>absurd hj (fR _)⟩) wR wO (λi=>?_)
  simp only[ae,ag]
  have hi:=i.le
  refine wI<|QA (QZ I I I)<|wG<|QG ?_
  refine QR I (λhc=>?_) (λhc=>?_)
  ·
   have hlt:i.i<n:=by have:=wM hc;omega
   have htm:el ps i.i∈ps:=Q4 O
   refine QQ<|QC<|QG<|QU<|wJ I<|QA (Q9 (n:=n) i.i (λF h9=>h9.2.1) rfl rfl BK VH O)<|QA (Ja (n:=n) (vs:=[tx (el ps i.i).f,.slice (el ps i.i).r.q (el ps i.i).r.n (el ps i.i).r.cap]) ((i.i)*2) (λF h9=>h9.2.1) O rfl VH I (λj v hv=>Jm (f:=Nn) (l:=ps) Pm O hv))<|Qb W4 (λb6=>wF I<|QO (vs:=[_,_]) I I I VH I .here .h2 wP<|wG<|QG<|JO wK mixed y0<|QK (QJ (vs:=[_,_]) I VH .here .h2 rfl)<|QK (QD I)<|QN I (λw F hF h9=>ud hF (h9.1) (f:=(el ps i.i).f) (l:=(el ps i.i).k) (h9.2.2 _ htm) ((hf _ htm).1) ((hf _ htm).2) O) (λ_=>QK (QH I Ai XA)<|QK (Qg I XA .here .h1)<|QK (Vr I I)<|QN I (λw F hF h9=>RN hF ) (λ_=>?_)))
   refine Qm I (Qw ZG) Yf Hz I I (λb25=>?_) (λw h=>h.imp wm (λF h=>h.1.1))
   refine QN I (λw F hF h9=>qQ hF (Qy.of (cs:=fS JY [W6 (el ps i.i).f (el ps i.i).k v,if((el ps i.i).f==[48])=true then 6 else 0]) h9.2 I) wa) (λ_=>QK (QF I)<|Q6<|QC<|QG<|QG<|JO wK mixed y0 ?_)
   generalize hE:Qn [W6 (el ps i.i).f (el ps i.i).k v,if((el ps i.i).f==[48])=true then 6 else 0]=E
   have hst:=step_eq (v:=v) (show i.i<ps.length by omega) hE
   refine QK (QD I)<|QK (QZ I I I)<|QK (QD I) ?_
   refine N0 (t:=29) rfl (λhb29=>?_) (λhb29=>?_)
   ·
    refine YC I I<|QK (QD I)<|YC I I<|QK (QZ I I I)<|QK (Qp I I I)<|QK (QD I) ?_
    refine N0 (t:=33) rfl (λhb33=>?_) (λhb33=>?_)
    ·
     refine YC I I<|QK (QD I)<|YC I I<|QK (QD I)<|YC I I<|QK (Xw I I O)<|YC I I ?_
     have hi0:0<i.i:=by have:=wM hb33;omega
     refine QK (Q9 (n:=n) ((i.i - 1)) (λF h9=>h9.1.1.1.1.2.1) rfl wA BK VH O)<|YC I I<|QK (QH I E3 Jf)<|YC I I<|QK (Jd (n:=n) (((i.i - 1))*2+1) (λF h9=>h9.1.1.1.1.2.1) O rfl Jf (Jm (f:=Nn) (l:=ps) Pm O rfl))<|YC I I<|QK (QH I E3 Jf)<|YC I I<|QK (Qg I Jf .here (.skip .h1))<|YC I I ?_
     have hz0:=(Th (i.z (i.i - 1) O)).1
     rw[Aw (show i.i - 1<ps.length by omega)]at hz0
     have hE0:E=0:=eq_of_beq hb29
     obtain⟨hz1,_⟩:=SO (hE.trans hE0)
     have htm0:el ps (i.i - 1)∈ps:=Q4 O
     refine QN I (λw F hF h9=>Ru hF (ra:=(el ps (i.i - 1)).r) (rb:=(el ps i.i).r) (h9.1.1.1.1.2.2 _ htm0) (h9.1.1.1.1.2.2 _ htm) (G8 hz0 hv.2) (G8 hz1 hv.2)) (λ_=>YC I I<|QK (QZ I I I)<|QK (Qp I I I)<|Q6<|QC ?_)
     refine QR I (λhc=>?_) (λhc=>?_)
     ·
      have h44:=wM hc
      refine QB<|wH I<|wJ I<|QA (QZ I I I)<|QE<|QC ?_
      refine QR I (λhc=>?_) (λhc=>?_)
      ·
       refine wJ I<|wH I<|QY ?_
       repeat (first | refine JA ?_ | refine Q5 ?_)
       exact wL I I (congrArg (au .i64) (PR hal hbig i hlt (by first | (rw[hst];exact if_pos ⟨eq_of_beq hb29,by have:=wM hb33;omega,h44⟩) | (rw[hst];exact if_neg (λh=>h44 h.2.2)) | (rw[hst];exact if_neg (λh=>by have:=wN hb33;omega)) | (rw[hst];exact if_neg (λh=>by rw[h.1]at hb29;cases hb29))) (bne_iff_ne.1 hc))) wh
      ·
       refine QQ<|Qk<|QC<|QB<|QA (Qu I I O)<|wE I<|QE ?_
       exact Ql (⟨i.i+1,hlt,λj hj=>by
        rcases aN j i.i with g | g
        ·exact i.z j g
        ·rw[show j=i.i from by omega];first | exact absurd hc wa | (rw[hst,if_neg (λh=>h44 h.2.2)];exact bne_eq_false_iff_eq.1 hc) | (rw[hst,if_neg (λh=>by have:=wN hb33;omega)];exact bne_eq_false_iff_eq.1 hc) | (rw[hst,if_neg (λh=>by rw[h.1]at hb29;cases hb29)];exact bne_eq_false_iff_eq.1 hc)⟩) (by show n - (i.i+1)<n - i.i;omega) wS (.cons _ .slnil) (λF h=>h.1.1.1.1.1)
     ·
      have h44:=wN hc
      refine QQ<|QC<|wJ I<|QA (QZ I I I)<|QE<|QC ?_
      refine QR I (λhc=>?_) (λhc=>?_)
      ·
       refine wJ I<|wH I<|QY ?_
       repeat (first | refine JA ?_ | refine Q5 ?_)
       exact wL I I (congrArg (au .i64) (PR hal hbig i hlt (by first | (rw[hst];exact if_pos ⟨eq_of_beq hb29,by have:=wM hb33;omega,h44⟩) | (rw[hst];exact if_neg (λh=>h44 h.2.2)) | (rw[hst];exact if_neg (λh=>by have:=wN hb33;omega)) | (rw[hst];exact if_neg (λh=>by rw[h.1]at hb29;cases hb29))) (bne_iff_ne.1 hc))) wh
      ·
       refine QQ<|Qk<|QC<|QB<|QA (Qu I I O)<|wE I<|QE ?_
       exact Ql (⟨i.i+1,hlt,λj hj=>by
        rcases aN j i.i with g | g
        ·exact i.z j g
        ·rw[show j=i.i from by omega];first | exact absurd hc wa | (rw[hst,if_neg (λh=>h44 h.2.2)];exact bne_eq_false_iff_eq.1 hc) | (rw[hst,if_neg (λh=>by have:=wN hb33;omega)];exact bne_eq_false_iff_eq.1 hc) | (rw[hst,if_neg (λh=>by rw[h.1]at hb29;cases hb29)];exact bne_eq_false_iff_eq.1 hc)⟩) (by show n - (i.i+1)<n - i.i;omega) wS (.cons _ .slnil) (λF h=>h.1.1.1.1.1)
    ·
     refine Xr I I I<|Xr I I I<|Xr I I I<|Xr I I I<|Xr I I I<|Xr I I I<|Xr I I I<|Xr I I I<|Xr I I I<|Xr I I I<|QK (Qj I I I)<|Q6<|QC<|Ko I<|QQ<|QC<|wJ I<|QA (QZ I I I)<|QE<|QC ?_
     refine QR I (λhc=>?_) (λhc=>?_)
     ·
      refine wJ I<|wH I<|QY ?_
      repeat (first | refine JA ?_ | refine Q5 ?_)
      exact wL I I (congrArg (au .i64) (PR hal hbig i hlt (by first | (rw[hst];exact if_pos ⟨eq_of_beq hb29,by have:=wM hb33;omega,h44⟩) | (rw[hst];exact if_neg (λh=>h44 h.2.2)) | (rw[hst];exact if_neg (λh=>by have:=wN hb33;omega)) | (rw[hst];exact if_neg (λh=>by rw[h.1]at hb29;cases hb29))) (bne_iff_ne.1 hc))) wh
     ·
      refine QQ<|Qk<|QC<|QB<|QA (Qu I I O)<|wE I<|QE ?_
      exact Ql (⟨i.i+1,hlt,λj hj=>by
        rcases aN j i.i with g | g
        ·exact i.z j g
        ·rw[show j=i.i from by omega];first | exact absurd hc wa | (rw[hst,if_neg (λh=>h44 h.2.2)];exact bne_eq_false_iff_eq.1 hc) | (rw[hst,if_neg (λh=>by have:=wN hb33;omega)];exact bne_eq_false_iff_eq.1 hc) | (rw[hst,if_neg (λh=>by rw[h.1]at hb29;cases hb29)];exact bne_eq_false_iff_eq.1 hc)⟩) (by show n - (i.i+1)<n - i.i;omega) wS (.cons _ .slnil) (λF h=>h.1.1.1.1)
   ·
    refine Xr I I I<|Xr I I I<|QK (Qj I I I)<|QK (QD I)<|Xr I I I<|Xr I I I<|Xr I I I<|Xr I I I<|Xr I I I<|Xr I I I<|Xr I I I<|Xr I I I<|Xr I I I<|Xr I I I<|QK (Qj I I I)<|Q6<|QC<|Ko I<|QQ<|QC<|wJ I<|QA (QZ I I I)<|QE ?_
    refine QC ?_
    refine QR I (λhc=>?_) (λhc=>?_)
    ·
     refine wJ I<|wH I<|QY ?_
     repeat (first | refine JA ?_ | refine Q5 ?_)
     exact wL I I (congrArg (au .i64) (PR hal hbig i hlt (by first | (rw[hst];exact if_pos ⟨eq_of_beq hb29,by have:=wM hb33;omega,h44⟩) | (rw[hst];exact if_neg (λh=>h44 h.2.2)) | (rw[hst];exact if_neg (λh=>by have:=wN hb33;omega)) | (rw[hst];exact if_neg (λh=>by rw[h.1]at hb29;cases hb29))) (bne_iff_ne.1 hc))) wh
    ·
     refine QQ<|Qk<|QC<|QB<|QA (Qu I I O)<|wE I<|QE ?_
     exact Ql (⟨i.i+1,hlt,λj hj=>by
        rcases aN j i.i with g | g
        ·exact i.z j g
        ·rw[show j=i.i from by omega];first | exact absurd hc wa | (rw[hst,if_neg (λh=>h44 h.2.2)];exact bne_eq_false_iff_eq.1 hc) | (rw[hst,if_neg (λh=>by have:=wN hb33;omega)];exact bne_eq_false_iff_eq.1 hc) | (rw[hst,if_neg (λh=>by rw[h.1]at hb29;cases hb29)];exact bne_eq_false_iff_eq.1 hc)⟩) (by show n - (i.i+1)<n - i.i;omega) wS (.cons _ .slnil) (λF h=>h.1.1.1.1)
  ·
   have hge:n<=i.i:=by have:=wN hc;omega
   refine Qz ?_
   repeat (first | refine QW ?_ | refine QP wc ?_)
   refine QX<|QC<|wI<|wH I<|QY ?_
   exact wL I I (congrArg (au .i64) (yA hal hbig i hge)) wh
def Ht(p:Pt)(v:Int):Int:=if GS v=0 then Yi p v else GS v
theorem He{q:Option Addr}{v:Int}(hF:Fits F w)(hGl:JC F)(hR:Qy F q n 2 (ps.flatMap Nn))(hP:WQ F ps)(hln:ps.length=n)(hf:∀t∈ps,t.f.length<=1000000/\t.k.length<=1000000)(hl:ps.length<=1000000):Qe Tryz.prog 143 [.slice q n cap,.int .i64 v] w F (.int .i64 (Ht (Y8 ps) v)):=by
 refine QS.intro (G:=λF=>JC F/\Qy F q n 2 (ps.flatMap Nn)/\WQ F ps) Tryz.func143 rfl wc rfl rfl hF (λF' hF'=>⟨hGl.le hF',hR.le hF',hP.le hF'⟩)<|wI<|wH rfl<|QG<|wJ rfl<|QI rfl (λw F hF h9=>j9 hF ) (λ_=>wH rfl<|wJ rfl<|QA (QZ rfl rfl rfl)<|QE<|QC ?_)
 refine QR I (λhc=>?_) (λhc=>?_)
 ·
  have hc0:=bne_iff_ne.1 hc
  refine wJ I<|wH I<|QY ?_
  exact wL I I (congrArg (au .i64) (by unfold Ht;rw[if_neg hc0])) wh
 ·
  have hc0:=bne_eq_false_iff_eq.1 hc
  have hv:=(Gq v).1 hc0
  refine QQ<|QC<|wJ I<|wE I<|QI I (λw F hF h9=>vN hF (h9.1.1) (h9.1.2.1) (h9.1.2.2) (hln) (hf) (hl) (hv)) (λ_=>wH I<|QY ?_)
  exact wL I I (congrArg (au .i64) (by unfold Ht;rw[if_pos hc0])) wh
instance :Inhabited S1:=⟨(⟨none,0,0⟩,[])⟩
section
variable[Dr][df:Df]{P:Program}{N:Nat}{m:Sl}{S:World->Prop}{ty:TypeId}
theorem VM{cap:Array Operand}{vs:List Value}(hv:MP m cap.toList=some vs):Qt P N m S (.makeFunc (.func g) #[] cap) ty (.func (.func g) #[] vs.toArray):=λa w _ _ _ _ ha _=>by
 have:=ha.MP hv
 have e:cap.map a.eval=vs.toArray:=by rw[<-this];apply iB;simp
 simp[execOp,Instr.makeFunc,e]
end
def Lv(F:Gs)(ls:List S1):Prop:=∀e∈ls,Qy F e.1.q e.1.n 2 (e.2.flatMap Nn)/\WQ F e.2
theorem Lv.le{ls:List S1}(h:Lv F ls)(k:Gs.le F F'):Lv F' ls:=λe he=>⟨(h e he).1.le k,(h e he).2.le k⟩
def FC(e:S1):Prop:=e.2.length=e.1.n/\(∀t∈e.2,t.f.length<=1000000/\t.k.length<=1000000)/\e.2.length<=1000000
def cC(ls:List S1)(v:Int):Int:=if GS v=0 then Qn (ls.map λe=>Yi (Y8 e.2) v)else GS v
def Xz(p:Pt):List Tm:=p.map λx=>(Qs x.1,x.2)
theorem Fc(ts:List EE):ts.map dJ=Xz (Y8 ts):=by simp[Xz,Y8,dJ]
theorem UG:∀(p:List Tm) (t:Tm),(Zk p t).length<=p.length+1
 |[],t=>by
  unfold Zk;split<;>simp
 |x::p,t=>by
  have:=UG p t
  unfold Zk
  repeat' split
  all_goals simp only[af]
  all_goals omega
theorem Il:∀(l p:List Tm),(l.foldl Zk p).length<=p.length+l.length
 |[],p=>we
 |t::l,p=>by
  have h1:=Il l (Zk p t)
  have h2:=UG p t
  simp only[bp,af];omega
theorem UH(l:List Tm):(J6 l).length<=l.length:=by have:=Il l [];simpa[J6]using this
theorem Ia:∀(l p:List Tm) (x:Tm),x∈l.foldl Zk p->(∃y∈p,y.2=x.2)\/∃y∈l,y.2=x.2
 |[],p,x,h=>.inl ⟨x,h,rfl⟩
 |t::l,p,x,h=>by
  rw[bp]at h
  rcases Ia l _ x h with ⟨y,hy,e⟩ | ⟨y,hy,e⟩
  ·rcases Mk hy with h2 | h2
   ·exact .inl ⟨y,h2,e⟩
   ·exact .inr ⟨t,we,by rw[<-h2];exact e⟩
  ·exact .inr ⟨y,by simp[hy],e⟩
theorem Ml{l:List Tm}{x:Tm}(h:x∈J6 l):∃y∈l,y.2=x.2:=by
 rcases Ia l [] x h with ⟨y,hy,_⟩ | h
 ·cases hy
 ·exact h
theorem D6{p:List Tm}(h:Canon p){t:Tm}(ht:t∈p):Ig.Jn p t.2=t.1:=by
 induction p with
 |nil=>cases ht
 |cons x p ih =>
  rcases List.mem_cons.1 ht with rfl | ht
  ·exact h.head
  ·have hb:=(List.pairwise_cons.1 h.srt).1 t ht
   have hne:x.2≠t.2:=xJ hb
   simp only[Ig.Jn]
   rw[if_neg hne,aC];exact ih h.tail ht
theorem zr{l:List Tm}(h:∀t∈l,JL t.1<=k):KI l<=l.length*(k+1):=by
 induction l with
 |nil=>simp[KI]
 |cons x l ih =>
  have e:KI (x::l)=JL x.1+1+KI l:=by unfold KI;rw[aj,bN]
  have h1:=ih λt ht=>h t (by simp[ht])
  have h2:=h x we
  rw[e,af,fp];omega
theorem TQ(h:GC a b<0):before a b=true:=by rw[Hg];exact decide_eq_true h
theorem Gf[Inhabited α]{R:α->α->Prop}(ht:∀a b c,R a b->R b c->R a c):∀(l:List α),(∀i,0<i->i<l.length->R (el l (i - 1)) (el l i))->l.Pairwise R
 |[],_=>bU
 |x::l,h=>by
  have ih:=Gf ht l λi h0 hi=>by
   have:=h (i+1) O wg
   have e1:el (x::l) (i+1)=el l i:=rfl
   have e2:el (x::l) (i+1 - 1)=el l (i - 1):=by
    obtain⟨j,rfl⟩:∃j,i=j+1:=⟨i - 1,O⟩
    rfl
   rw[e1,e2]at this;exact this
  refine List.pairwise_cons.2 ⟨?_,ih⟩
  cases l with
  |nil=>intro y hy;cases hy
  |cons z l =>
   have hz:R x z:=h 1 O we
   intro y hy
   rcases List.mem_cons.1 hy with rfl | hy
   ·exact hz
   ·exact ht _ _ _ hz ((List.pairwise_cons.1 ih).1 y hy)
structure Vz(p:Pt)(v:Int):Prop where
 len:p.length<=64
 term:∀x∈p,W6 x.1 x.2 v=0
 can:Canon (Xz p)
theorem BH{p:Pt}{v:Int}(h:Yi p v=0):Vz p v:=by
 unfold Yi at h
 split at h
 ·omega
 ·rename_i hl
  have hl':p.length<=64:=by rw[decide_eq_true_eq]at hl;omega
  have hz:∀i,i<p.length->Hq p v i=0:=by
   have key:∀(l:List Int),Qn l=0->∀x∈l,x=0:=by
    intro l
    induction l with
    |nil=>intro _ x hx;cases hx
    |cons a l ih =>
     intro h x hx
     unfold Qn at h
     by_cases g:a=0
     ·rw[if_pos g]at h
      rcases List.mem_cons.1 hx with rfl | hx
      ·exact g
      ·exact ih h x hx
     ·rw[if_neg g]at h;exact absurd h g
   intro i hi
   exact key _ h _ (List.mem_map.2 ⟨i,by simpa using hi,rfl⟩)
  have hs:=λi hi=>Th (hz i hi)
  have hel:∀x∈p,∃i,i<p.length/\el p i=x:=λx hx=>by
   obtain⟨i,hi,e⟩:=fu hx
   exact⟨i,hi,by rw[JK hi];exact e⟩
  refine⟨hl',λx hx=>?_,⟨?_,λt ht=>?_⟩⟩
  ·obtain⟨i,hi,rfl⟩:=hel x hx;exact(hs i hi).1
  ·unfold Xz
   rw[er]
   refine Gf (R:=λa b:List UInt8×List Int=>before a.2 b.2=true) (λa b c h k=>before_trans h k) p λi h0 hi=>?_
   exact TQ ((hs i hi).2.2 h0)
  ·unfold Xz at ht
   obtain⟨x,hx,rfl⟩:=List.mem_map.1 ht
   obtain⟨i,hi,rfl⟩:=hel x hx
   have h1:=(BI (hs i hi).1).2.2.2
   have h2:=(hs i hi).2.1
   intro e
   have h3:=(XT h1).1
   have e':Qs (el p i).1=0:=e
   rw[e']at h3
   exact h2 (h3.trans F6)
theorem Vz.sz{p:Pt}{v:Int}(h:Vz p v):∀t∈Xz p,JL t.1<=2400:=λt ht=>by
 unfold Xz at ht
 obtain⟨x,hx,rfl⟩:=List.mem_map.1 ht
 exact Yy (BI (h.term x hx)).2.2.2
theorem Vz.KI{p:Pt}{v:Int}(h:Vz p v):YtjcphjpkimmmjaaGreatDoor.KI (Xz p)<=160000:=by
 have h1:=zr h.sz
 have h2:(Xz p).length<=64:=by unfold Xz;rw[aW];exact h.len
 have:=Nat.mul_le_mul_right 2401 h2
 omega
theorem Vz.pw{p:Pt}{v:Int}(h:Vz p v)(hv:v<=24):∀t∈Xz p,PW t.2:=λt ht=>by
 unfold Xz at ht
 obtain⟨x,hx,rfl⟩:=List.mem_map.1 ht
 exact G8 (h.term x hx) hv
def oPE(ls:List S1)(v:Int)(l:List Tm):Int:=if cC ls v=0 then QD3 l else cC ls v
theorem QFo{ls:List S1}{v:Int}(h:cC ls v=0):(0<=v/\v<=24)/\∀e∈ls,Vz (Y8 e.2) v:=by
 unfold cC at h
 split at h
 ·rename_i g
  refine⟨(Gq v).1 g,λe he=>BH ?_⟩
  have key:∀(l:List Int),Qn l=0->∀x∈l,x=0:=by
   intro l
   induction l with
   |nil=>intro _ x hx;cases hx
   |cons a l ih =>
    intro h x hx
    unfold Qn at h
    by_cases g:a=0
    ·rw[if_pos g]at h
     rcases List.mem_cons.1 hx with rfl | hx
     ·exact g
     ·exact ih h x hx
    ·rw[if_neg g]at h;exact absurd h g
  exact key _ h _ (List.mem_map.2 ⟨e,he,rfl⟩)
 ·rename_i g;exact absurd h g
theorem PU{a:S1}{v:Int}(hF:Fits F w)(hGl:JC F)(hR:Qy F a.1.q a.1.n 2 (a.2.flatMap Nn))(hP:WQ F a.2)(ht:FC a)(ho:Vz (Y8 a.2) v)(hv:0<=v/\v<=24):
  QS Tryz.prog 146 [a.1.v] w F (λ(c:Vn)=>c.1.v) (λc F=>XU F c.1 c.2 (Xz (Y8 a.2))):=by
 have hs:=ho.KI
 have h:=pJ hF hGl (r:=a.1) (ps:=a.2) hR hP ht.1 (by have:=ho.len;simp[Y8]at this;omega) (λt htm=>?_) (by rw[Fc];omega)
 ·rw[Fc,R4 ho.can]at h;exact h
 ·have h1:=ho.term (t.f,t.k) (List.mem_map.2 ⟨t,htm,rfl⟩)
  exact⟨(BI h1).2.2.2,(ht.2.1 t htm).1,G8 h1 hv.2⟩
theorem XU.len{s:Sr}{p:List Tm}(h:XU F s ts p):ts.length=p.length:=by rw[<-h.2.2.1];simp[J1]
theorem Ch{p:List Tm}{Q:Tm->Prop}(h:J1 ts=p)(hq:∀t∈p,Q t):∀t∈ts,Q t.t:=λt ht=>hq _ (h ▸ ab ht)
theorem QEM{l:List Tm}(hp:∀t∈l,PW t.2):∀t∈J6 l,PW t.2:=λt ht=>by
 obtain⟨y,hy,e⟩:=Ml ht
 rw[<-e];exact hp y hy
def Ao(v:Nat)(t:Tm):List Tm:=if 0<Qf t.2 v then[(t.1*((Qf t.2 v:Int):Rat),t.2.set v (Qf t.2 v - 1))]else[]
def Za(v:Nat)(l:List Tm):List Tm:=l.flatMap (Ao v)
structure QG5(v:Nat)(ps:List ZR) where
 i:Nat
 ts:List ZR
 le:i<=ps.length
 hI:WM ts (Za v (J1 (ps.take i)))
theorem UR{v:Nat}{ps:List ZR}(h:i<ps.length):Za v (J1 (ps.take (i+1)))=Za v (J1 (ps.take i))++Ao v (el ps i).t:=by
 rw[KH h];unfold Za;rw[ba];simp
theorem uj(v:Nat)(ps:List ZR)(i:Nat):KI (Za v (J1 (ps.take i)))<=KI (Za v (J1 ps)):=by
 have e:J1 ps=J1 (ps.take i)++J1 (ps.drop i):=by unfold J1;rw[<-aH,aE]
 have h:KI (Za v (J1 ps))=KI (Za v (J1 (ps.take i)++J1 (ps.drop i))):=by rw[<-e]
 unfold Za at h ⊢
 rw[ba,Zo]at h;omega
theorem PW.set(h:PW l){v:Nat}(hk:0<Qf l v):PW (l.set v (Qf l v - 1)):=by
 refine⟨λx hx=>?_,by rw[aI];exact h.2⟩
 rcases eR hx with hx | rfl
 ·exact h.1 x hx
 ·by_cases hv:v<l.length
  ·have:=h.el hv;omega
  ·have:Qf l v=0:=by simp[Qf,List.getD];intro h;exact absurd h hv
   omega
theorem Cj{x:Int}(h:0<=x/\x<=1000000):sz x<=64:=bL (Kw (b:=1000000) O) wa
theorem ve(v:Nat)(l:List Tm):(Za v l).length<=l.length:=by
 unfold Za
 induction l with
 |nil=>simp
 |cons t l ih =>
  rw[bt,aa,af]
  have:(Ao v t).length<=1:=by unfold Ao;split<;>simp
  omega
theorem Og{p:Vn}{v:Nat}(hF:Fits F w)(hGl:JC F)(hP:XU F p.1 p.2 (J1 p.2))(hp:∀t∈p.2,PW t.t.2/\v<t.t.2.length)(hl:p.2.length<=100000)(hzt:∀t∈p.2,JL t.t.1<=20000000)(hz:KI (Za v (J1 p.2))<=40000000):
  QS Tryz.prog 132 [p.1.v,.int .i64 (v:Nat)] w F (λ(c:Vn)=>c.1.v) (λc F=>XU F c.1 c.2 (J6 (Za v (J1 p.2)))):=by
 have hpn:=hP.2.2.2.2
 dsimp only[Sr.v]
 refine QS.intro (G:=λF=>JC F/\XU F p.1 p.2 (J1 p.2)) Tryz.func132 rfl wc rfl rfl hF (λF' hF'=>⟨hGl.le hF',hP.le hF'⟩)<|wI<|wH rfl<|QG<|QB ?_
 refine Hn tx (λm=>?_)
 refine wH I<|QG<|wJ I<|QA (Qh I KB)<|wE I<|wG<|QU ?_
 refine JU (ι:=QG5 v p.2) [(1,_),(5,_),(11,_),(12,_)] (λi=>[(13,.int .i64 ((i.i:Nat):Int))]) (λi=>[(m,Z9 tx (Hw i.ts))]) (λi F=>GU F i.ts) (λi=>p.2.length - i.i) (⟨0,[],av _,WM.nil⟩) wR wO wK (λ_ _ _ h=>by cases h) (λi=>?_)
 simp only[ae,ag]
 have hi:=i.le
 refine wI<|QA (QZ I I I)<|wG<|QG ?_
 refine QR I (λhc=>?_) (λhc=>?_)
 ·
  have hlt:i.i<p.2.length:=by have:=wM hc;omega
  have htm:=Q4 hlt
  have hp1:=hp _ htm
  have hra:=(hP.2.1 _ htm).2.2.1
  have hdl:=uj v p.2 i.i
  have hzz:=hzt _ htm
  have hb1:=hp1.1.el hp1.2
  have hl2:=hp1.1.2
  refine QQ<|QC<|QG<|QU<|wI<|QA (Q9 (n:=p.1.n) i.i (λF h9=>(h9.1.2).1) rfl rfl KB Xy O)<|QA (Ja (n:=p.1.n) (vs:=[.int .i64 (el p.2 i.i).x.n.s,.slice (el p.2 i.i).x.n.q (el p.2 i.i).x.n.n (el p.2 i.i).x.n.cap,.int .i64 (el p.2 i.i).x.d.s,.slice (el p.2 i.i).x.d.q (el p.2 i.i).x.d.n (el p.2 i.i).x.d.cap,.slice (el p.2 i.i).r.q (el p.2 i.i).r.n (el p.2 i.i).r.cap]) ((i.i)*5) (λF h9=>(h9.1.2).1) O rfl Xy I (λj v hv=>Jm (f:=V1) (l:=p.2) B1 O hv)) ?_
  refine Qb GY (λb7=>?_)
  refine QO (vs:=[_,_,_,_,_]) I I I Xy I .here .h5 wS<|wG<|wI<|QA (QH I V8 Jf)<|QA (Qg I Jf .here (.skip (.skip (.skip (.skip .h1)))))<|wE I<|QA (Q9 (n:=(el p.2 i.i).r.n) (v) (λF h9=>((h9.1.2.2.1 _ htm).2).1) rfl rfl Q2 JR O)<|QA (Jd (n:=(el p.2 i.i).r.n) ((v)*1) (λF h9=>((h9.1.2.2.1 _ htm).2).1) O rfl JR (XR (o:=(el p.2 i.i).t.2) O))<|wH I<|wJ I<|QA (QZ I I I)<|QE<|QC ?_
  refine QR I (λhc=>?_) (λhc=>?_)
  ·
   have hkp:=wM hc
   refine wI<|QA (QH I V8 Jf)<|QA (Qg I Jf .here (.skip (.skip (.skip (.skip .h1))))) ?_
   refine XX I (ar _) (As (r:=(el p.2 i.i).r) (l:=(el p.2 i.i).t.2) (λF h9=>(h9.1.2.2.1 _ htm).2) hra O) (λc26=>?_)
   refine JQ _ (λw F hF h=>h.2) (λh26=>?_)
   obtain⟨v26,ob26⟩:=c26
   dsimp only at h26 ⊢
   obtain⟨bb,cap,rest,rfl,rfl,e1,e2,e3,e4⟩:=Qx.pos h26 O
   refine wH I<|wJ I<|wE I<|QA (JG (i:=v) rfl rfl Q2 JR O)<|QA (V4 (c:=((el p.2 i.i).t.2).map JY++rest) (T':=3) rfl JR .u2 (WY (by first | omega | (simp only[aI];omega))))<|QA (Xw I I O)<|QA (JG (i:=v) rfl rfl Q2 JR O)<|QO (vs:=[_]) I I I JR I .u2 (DX (by first | omega | (simp only[aI];omega)) ((Qf ((el p.2 i.i).t.2) (v) - 1))) wO<|QE<|QC ?_
   obtain⟨r,hv,hrn,hrc,hfix⟩:=Qx.fix (w0:=w) (F0:=F) (bs1:=[(b7,.cells (V1 (el p.2 i.i)).toArray 263 (0,0)),(m,Z9 tx (Hw i.ts))]) (G:=_) (Qx.some (T:=3) (sz:=1) (b:=bb) (n:=(el p.2 i.i).r.n) (cap:=cap) (l:=((el p.2 i.i).t.2.set v (Qf (el p.2 i.i).t.2 v - 1)).map JY) (rest:=rest) (by simpa using e1) (by simpa using e2) e3 e4)
   refine xi hfix ?_
   rw[hv]
   refine JO (.cons_cons _ (.cons _ .slnil)) mixed y0<|QK (QD I)<|QK (QH I W9 QL)<|QK (QJ (vs:=[_,_,_,_]) I QL .here .h4 rfl)<|QK (QD I) ?_
   refine QN I (λw F hF h9=>TO hF O O) (λx37=>?_)
   refine QN I (λw F hF ⟨⟨⟨⟨⟨hGl,hP⟩,hT⟩,_⟩,hrow⟩,⟨h37,h37_⟩⟩=>Wx hF ((hP.2.1 _ htm).1) ⟨by assumption,by assumption⟩ O (by have h2:=GV (Qf (el p.2 i.i).t.2 v);have h3:sz (Qf (el p.2 i.i).t.2 v)<=64:=Cj hb1;omega)) (λx38=>?_)
   refine QK (QD I) ?_
   refine Ls I (ey _ _ _) (ES (r:=r) (x:=x38) i.hI (hp1.1.set hkp) (by have h1:=Z8 (el p.2 i.i).t.1 ((Qf (el p.2 i.i).t.2 v:Int):Rat);have h2:=GV (Qf (el p.2 i.i).t.2 v);have h3:sz (Qf (el p.2 i.i).t.2 v)<=64:=Cj hb1;omega) O (λF h9=>⟨h9.1.1.1.1.1.1,h9.1.1.1.1.2,⟨h9.2.1,h9.2.2⟩,by rw[hrn];exact h9.1.1.2,by rw[hrn,aI];exact hra,by rw[hrn];exact hrc⟩)) (λn w h=>St.imp h (.cons _ wK) (λF h=>h.1.1.1)) (λn40=>?_)
   refine Y5 _ (λw F hF h=>h.2.2) (λh40=>?_)
   have hI2:WM (addN i.ts n40) (Za v (J1 (p.2.take (i.i+1)))):=by
    rw[UR hlt,show Ao v (el p.2 i.i).t=[((el p.2 i.i).t.1*((Qf (el p.2 i.i).t.2 v:Int):Rat),(el p.2 i.i).t.2.set v (Qf (el p.2 i.i).t.2 v - 1))]from if_pos hkp]
    exact i.hI.add (hp1.1.set hkp) h40
   refine Q6<|Qk<|QC<|QB<|QA (Qu I I O)<|wE I<|QE ?_
   exact Ql (⟨i.i+1,addN i.ts n40,hlt,hI2⟩) (by show p.2.length - (i.i+1)<p.2.length - i.i;omega) wS (.cons_cons _ (.cons _ .slnil)) (λF h=>⟨h.1.1.1.1.1.1,h.2.1⟩)
  ·
   have hkp:=wN hc
   refine QQ<|Qk<|QC<|QB<|QA (Qu I I O)<|wE I<|QE ?_
   exact Ql (⟨i.i+1,i.ts,hlt,by rw[UR hlt,show Ao v (el p.2 i.i).t=[]from if_neg hkp,bJ];exact i.hI⟩) (by show p.2.length - (i.i+1)<p.2.length - i.i;omega) wS (.cons _ wK) (λF h=>⟨h.1,h.2⟩)
 ·
  have hge:i.i=p.2.length:=by have:=wN hc;omega
  refine Qz ?_
  repeat (first | refine QW ?_ | refine QP wc ?_)
  refine QX<|QC<|wI<|wE I ?_
  have hI:=i.hI
  rw[hge,aw]at hI
  refine XX I (ar _) (Bt hI (by have h1:=hI.ln;have h2:=ve v (J1 p.2);rw[Yx]at h2;omega) wk) (λc43=>?_)
  refine wH I<|QY ?_
  exact QV (c43) rfl (wB I) (rfl) wk
theorem Vz.wide{p:Pt}{v:Int}(h:Vz p v):∀t∈Xz p,(t.2.length:Int)=v+1:=λt ht=>by
 unfold Xz at ht
 obtain⟨x,hx,rfl⟩:=List.mem_map.1 ht
 exact(BI (h.term x hx)).1
theorem PV{a z v r:List Value}(h:z.length=v.length):Kb (a++(z++r)) a.length v (a++(v++r)):=by
 have:=Kb.mk' a.length (a++(z++r)) v (by simp only[aa];omega)
 rw[List.take_left,eF,ao O,ag,bf,eF,ao O,ag,<-h,ir,eO,aY]at this
 exact this
def PM(F:Gs)(xs:List (Fr×Rat)):Prop:=∀p∈xs,JM F p.1 p.2
theorem PM.le{xs:List (Fr×Rat)}(h:PM F xs)(k:Gs.le F F'):PM F' xs:=λp hp=>(h p hp).le k
def Ab(xs:List (Fr×Rat)):List Value:=xs.flatMap λp=>Ku p.1
structure QFG(ss:List (List UInt8)) where
 i:Nat
 xs:List (Fr×Rat)
 le:i<=ss.length
 hx:xs.map (·.2)=(ss.take i).map Qs
theorem QFG.len{ss:List (List UInt8)}(s:QFG ss):s.xs.length=s.i:=by
 have:=congrArg eI s.hx
 have h:=s.le
 simp only[aW,aA]at this;omega
def Ul(c:Rat)(xs:List Rat)(ks:List Int)(i:Nat):Rat:=(bh i).foldl (λa j=>a*(el xs j)^(Qf ks j).toNat) c
theorem TY(c:Rat)(xs:List Rat)(ks:List Int)(i:Nat):Ul c xs ks (i+1)=Ul c xs ks i*(el xs i)^(Qf ks i).toNat:=by
 unfold Ul;rw[fM,bM];rfl
def vL(xs:List Rat)(l:List Tm):Rat:=l.foldl (λa t=>a+Ul t.1 xs t.2 t.2.length) 0
structure EvO(n:Nat) where
 i:Nat
 x:Fr
 le:i<=n
structure EvI(n:Nat) where
 j:Nat
 y:Fr
 le:j<=n
instance :Inhabited Fr:=⟨⟨⟨0,none,0,0⟩,⟨1,none,0,0⟩⟩⟩
instance :Inhabited (Fr×Rat):=⟨(default,0)⟩
def vP(ss:List (List UInt8×List UInt8)):List Rat:=ss.flatMap λs=>[Qs s.1,Qs s.2]
theorem TW{B:Nat}:∀(l:List Rat) (s:Rat×Rat),JL s.1<=B->JL s.2<=B->(∀x∈l,JL x<=B)->JL (l.foldl Xc s).1<=B/\JL (l.foldl Xc s).2<=B
 |[],s,h1,h2,_=>⟨h1,h2⟩
 |x::l,s,h1,h2,h=>by
  have hx:=h x we
  exact TW l (Xc s x) (by unfold Xc;dsimp only;split<;>assumption) (by unfold Xc;dsimp only;split<;>assumption) λy hy=>h y (by simp[hy])
structure QFE(ss:List (List UInt8×List UInt8)) where
 i:Nat
 v:Value
 ob:List (Nat×Obj)
 xs:List (Fr×Rat)
 le:i<=ss.length
 hr:Qx 135 4 v (i*2) (Ab xs) ob
 hx:xs.map (·.2)=vP (ss.take i)
theorem jy(ss:List (List UInt8×List UInt8)):(vP ss).length=ss.length*2:=by
 unfold vP
 induction ss with
 |nil=>rfl
 |cons s l ih=>rw[bt,aa,ih];simp only[af,bm];omega
theorem QFE.len{ss:List (List UInt8×List UInt8)}(s:QFE ss):s.xs.length=s.i*2:=by
 have:=congrArg eI s.hx
 have h:=s.le
 rw[jy]at this
 simp only[aW,aA]at this;omega
theorem vI(x y:Fr):∀v∈Ku x++Ku y,v.oneCell'=true:=by
 intro v hv
 simp only[Ku,ae,ag,aP,bc,or_false]at hv
 rcases hv with rfl | rfl | rfl | rfl | rfl | rfl | rfl | rfl<;>rfl
def Vo(c:Rat×Rat)(bs:List (Rat×Rat))(ks:List Int)(i:Nat):Rat×Rat:=(bh i).foldl (λa j=>if Qf ks j>0 then Jc a (Kz (el bs j) (Qf ks j))else a) c
theorem WS(c:Rat×Rat)(bs:List (Rat×Rat))(ks:List Int)(i:Nat):Vo c bs ks (i+1)=if Qf ks i>0 then Jc (Vo c bs ks i) (Kz (el bs i) (Qf ks i))else Vo c bs ks i:=by
 unfold Vo;rw[fM,bM];rfl
def Y3(a b:Rat×Rat):Rat×Rat:=(a.1+b.1,a.2+b.2)
def J8(bs:List (Rat×Rat))(l:List Tm):Rat×Rat:=l.foldl (λa t=>Y3 a (Vo (t.1,t.1) bs t.2 t.2.length)) (0,0)
theorem QCA{bs:List (Rat×Rat)}(h:i<ts.length):J8 bs (J1 (ts.take (i+1)))=Y3 (J8 bs (J1 (ts.take i))) (Vo ((el ts i).t.1,(el ts i).t.1) bs (el ts i).t.2 (el ts i).t.2.length):=by
 rw[KH h];unfold J8;rw[bM];rfl
def Xj(a:Rat×Rat)(k:Nat):Prop:=JL a.1<=k/\JL a.2<=k
theorem Xj.mono{a:Rat×Rat}{l:Nat}(h:Xj a k)(g:k<=l):Xj a l:=⟨bL h.1 g,bL h.2 g⟩
theorem Bk{r:Rat}{l:List Rat}(h:JL r<=k)(hl:∀x∈l,JL x<=k):Xj (KW r l) k:=TW l (r,r) h h hl
theorem VI{a b:Rat×Rat}(ha:Xj a m)(hb:Xj b n):Xj (Jc a b) (m+n):=by
 have h:∀x y:Rat,JL x<=m->JL y<=n->JL (x*y)<=m+n:=λx y h1 h2=>by have:=Z8 x y;omega
 unfold Jc
 refine Bk (h _ _ ha.1 hb.1) λx hx=>?_
 simp only[aP,bc,or_false]at hx
 rcases hx with rfl | rfl | rfl
 ·exact h _ _ ha.1 hb.2
 ·exact h _ _ ha.2 hb.1
 ·exact h _ _ ha.2 hb.2
def JF(s:List UInt8×List UInt8):Rat×Rat:=(Qs s.1,Qs s.2)
structure EsO(n:Nat) where
 i:Nat
 x:Sp
 le:i<=n
structure EsI(n:Nat) where
 j:Nat
 y:Sp
 le:j<=n
def Xs(x:Sp):List Value:=Ku x.lo++Ku x.hi
def AR(m x:Rat):Rat:=if Ks x m<0 then x else m
def Pd(m x:Rat):Rat:=if Ks x m>0 then x else m
theorem ZV(r:Rat)(l:List Rat):KW r l=(l.foldl AR r,l.foldl Pd r):=by
 have:∀(l:List Rat) (a b:Rat),l.foldl Xc (a,b)=(l.foldl AR a,l.foldl Pd b):=by
  intro l
  induction l with
  |nil=>intro a b;rfl
  |cons x l ih=>intro a b;rw[bp,bp,bp];exact ih _ _
 exact this l r r
theorem Ms(hf:∀m x,f m x=m\/f m x=x){P:Rat->Prop}:∀(l:List Rat) (r:Rat),P r->(∀x∈l,P x)->P (l.foldl f r)
 |[],_,h,_=>h
 |x::l,r,h,hl=>Ms hf l (f r x) (by rcases hf r x with e | e<;>rw[e];exact h;exact hl x we) λy hy=>hl y (by simp[hy])
theorem QBp(m x:Rat):AR m x=m\/AR m x=x:=by unfold AR;split<;>simp
theorem QB7(m x:Rat):Pd m x=m\/Pd m x=x:=by unfold Pd;split<;>simp
structure LgI(f:Rat->Rat->Rat)(r:Rat)(l:List Rat) where
 i:Nat
 x:Fr
 s:Rat
 le:i<=l.length
 h:s=(l.take i).foldl f r
theorem LgI.step{r:Rat}{l:List Rat}(s:LgI f r l)(h:s.i<l.length):f s.s (el l s.i)=(l.take (s.i+1)).foldl f r:=by
 rw[XN h,bM,<-s.h];rfl
theorem LgI.end_{r:Rat}{l:List Rat}(s:LgI f r l)(h:s.i=l.length):s.s=l.foldl f r:=by
 rw[s.h,h,aw]
theorem V7{x:Fr}{r:Rat}{q:Option Addr}{ps:List (Fr×Rat)}(hF:Fits F w)(h:JM F x r)(hR:Qy F q n 4 (ps.flatMap λe=>Ku e.1))(hP:∀p∈ps,JM F p.1 p.2)(hn:ps.length=n)(hb:n<=1000000)(hz:JL r<=100000000/\∀p∈ps,JL p.2<=100000000):
  ZA Tryz.prog 245 [x.v,.slice q n c] w F ((ps.map (·.2)).foldl AR r):=by
 have hml:(ps.map (·.2)).length=n:=by simpa using hn
 dsimp only[Fr.v]
 refine QS.intro (G:=λF=>JM F x r/\Qy F q n 4 (ps.flatMap λe=>Ku e.1)/\(∀p∈ps,JM F p.1 p.2)) Tryz.func245 rfl wc rfl rfl hF (λF' hF'=>⟨h.le hF',hR.le hF',λp hp=>(hP p hp).le hF'⟩)<|wI<|Qo rfl (vs:=[_,_,_,_]) rfl (λb2=>Qb Ju (λb4=>wG<|QG<|wJ rfl<|QA (Qh rfl XY)<|wE rfl<|wG<|QU<|JU (ι:=LgI AR r (ps.map (·.2))) [(2,_),(4,_),(7,_),(8,_)] (λi=>[(9,.int .i64 ((i.i:Nat):Int))]) (λi=>[(b4,.cells [.int .i64 0,.slice none 0 0,.int .i64 0,.slice none 0 0].toArray 135 (0,0)),(b2,.cells [.int .i64 i.x.n.s,.slice i.x.n.q i.x.n.n i.x.n.cap,.int .i64 i.x.d.s,.slice i.x.d.q i.x.d.n i.x.d.cap].toArray 135 (0,0))]) (λi F=>JM F i.x i.s) (λi=>n - i.i) (⟨0,x,r,av _,rfl⟩) wR wO wK wj (λi=>?_)))
 simp only[ae,ag]
 have hi:=i.le
 have hsz:JL i.s<=100000000:=by rw[i.h];exact Ms (P:=λy=>JL y<=100000000) QBp _ _ hz.1 (λy hy=>by obtain⟨p,hp,rfl⟩:=List.mem_map.1 (bZ hy);exact hz.2 p hp)
 refine wI<|QA (QZ I I I)<|wG<|QG ?_
 refine QR I (λhc=>?_) (λhc=>?_)
 ·
  have hlt:i.i<ps.length:=by have:=wM hc;omega
  have hem:=Q4 hlt
  have hze:=hz.2 _ hem
  have hel:el (ps.map (·.2)) i.i=(el ps i.i).2:=by rw[JK (by simpa using hlt),JK hlt];simp
  refine QQ<|QC<|QG<|QU<|wI<|QA (Q9 (n:=n) i.i (λF h9=>h9.1.2.1) rfl rfl XY QL O)<|QA (Ja (n:=n) (vs:=[.int .i64 (el ps i.i).1.n.s,.slice (el ps i.i).1.n.q (el ps i.i).1.n.n (el ps i.i).1.n.cap,.int .i64 (el ps i.i).1.d.s,.slice (el ps i.i).1.d.q (el ps i.i).1.d.n (el ps i.i).1.d.cap]) ((i.i)*4) (λF h9=>h9.1.2.1) O rfl QL I (λj v hv=>Jm (f:=(λe=>Ku e.1)) (l:=ps) (λ_=>rfl) O hv))<|Qb Ju (λb6=>QO (vs:=[_,_,_,_]) I I I QL I .here .h4 wR<|wG<|wI<|QA (QJ (vs:=[_,_,_,_]) I QL .here .h4 rfl)<|QA (QJ (vs:=[_,_,_,_]) I QL .u2 .h4 rfl)<|QI I (λw F hF h9=>Hb (x:=(el ps i.i).1) (y:=i.x) (r:=(el ps i.i).2) (s:=i.s) hF (h9.1.2.2 _ hem) h9.2 hze hsz) (λ_=>QA (QZ I I I)<|QE<|QC ?_))
  refine QR I (λhc=>?_) (λhc=>?_)
  ·
   have hc16:=wM hc
   refine QB<|QA (QJ (vs:=[_,_,_,_]) I QL .here .h4 rfl)<|QO (vs:=[_,_,_,_]) I I I QL I .u2 .h4 wR<|QE<|Qk<|QC<|QB<|QA (Qu I I O)<|wE I<|QE ?_
   exact Ql (⟨i.i+1,(el ps i.i).1,(el ps i.i).2,O,by rw[<-i.step O,hel];unfold AR;rw[if_pos hc16]⟩) (by show n - (i.i+1)<n - i.i;omega) wS (.cons _ wK) (λF ⟨⟨⟨hX,hR,hP⟩,hS⟩,_⟩=>⟨⟨hX,hR,hP⟩,hP _ hem⟩)
  ·
   have hc16:=wN hc
   refine QQ<|Qk<|QC<|QB<|QA (Qu I I O)<|wE I<|QE ?_
   exact Ql (⟨i.i+1,i.x,i.s,O,by rw[<-i.step O,hel];unfold AR;rw[if_neg hc16]⟩) (by show n - (i.i+1)<n - i.i;omega) wS (.cons _ wK) (λF ⟨⟨⟨hX,hR,hP⟩,hS⟩,_⟩=>⟨⟨hX,hR,hP⟩,hS⟩)
 ·
  have hge:i.i=(ps.map (·.2)).length:=by have:=wN hc;omega
  refine Qz ?_
  repeat (first | refine QW ?_ | refine QP wc ?_)
  refine QX<|QC<|wI<|QA (QJ (vs:=[_,_,_,_]) I QL .u1 .h4 rfl)<|QO (vs:=[_,_,_,_]) I I I QL I .here .h4 wR<|wG<|QY ?_
  exact QV (i.x) rfl (.JW (c:=[_,_,_,_]) I QL .here .nil) (rfl) (λF h=>by rw[<-i.end_ hge];exact h.2)
theorem Xo{x:Fr}{r:Rat}{q:Option Addr}{ps:List (Fr×Rat)}(hF:Fits F w)(h:JM F x r)(hR:Qy F q n 4 (ps.flatMap λe=>Ku e.1))(hP:∀p∈ps,JM F p.1 p.2)(hn:ps.length=n)(hb:n<=1000000)(hz:JL r<=100000000/\∀p∈ps,JL p.2<=100000000):
  ZA Tryz.prog 133 [x.v,.slice q n c] w F ((ps.map (·.2)).foldl Pd r):=by
 have hml:(ps.map (·.2)).length=n:=by simpa using hn
 dsimp only[Fr.v]
 refine QS.intro (G:=λF=>JM F x r/\Qy F q n 4 (ps.flatMap λe=>Ku e.1)/\(∀p∈ps,JM F p.1 p.2)) Tryz.func133 rfl wc rfl rfl hF (λF' hF'=>⟨h.le hF',hR.le hF',λp hp=>(hP p hp).le hF'⟩)<|wI<|Qo rfl (vs:=[_,_,_,_]) rfl (λb2=>Qb Ju (λb4=>wG<|QG<|wJ rfl<|QA (Qh rfl XY)<|wE rfl<|wG<|QU<|JU (ι:=LgI Pd r (ps.map (·.2))) [(2,_),(4,_),(7,_),(8,_)] (λi=>[(9,.int .i64 ((i.i:Nat):Int))]) (λi=>[(b4,.cells [.int .i64 0,.slice none 0 0,.int .i64 0,.slice none 0 0].toArray 135 (0,0)),(b2,.cells [.int .i64 i.x.n.s,.slice i.x.n.q i.x.n.n i.x.n.cap,.int .i64 i.x.d.s,.slice i.x.d.q i.x.d.n i.x.d.cap].toArray 135 (0,0))]) (λi F=>JM F i.x i.s) (λi=>n - i.i) (⟨0,x,r,av _,rfl⟩) wR wO wK wj (λi=>?_)))
 simp only[ae,ag]
 have hi:=i.le
 have hsz:JL i.s<=100000000:=by rw[i.h];exact Ms (P:=λy=>JL y<=100000000) QB7 _ _ hz.1 (λy hy=>by obtain⟨p,hp,rfl⟩:=List.mem_map.1 (bZ hy);exact hz.2 p hp)
 refine wI<|QA (QZ I I I)<|wG<|QG ?_
 refine QR I (λhc=>?_) (λhc=>?_)
 ·
  have hlt:i.i<ps.length:=by have:=wM hc;omega
  have hem:=Q4 hlt
  have hze:=hz.2 _ hem
  have hel:el (ps.map (·.2)) i.i=(el ps i.i).2:=by rw[JK (by simpa using hlt),JK hlt];simp
  refine QQ<|QC<|QG<|QU<|wI<|QA (Q9 (n:=n) i.i (λF h9=>h9.1.2.1) rfl rfl XY QL O)<|QA (Ja (n:=n) (vs:=[.int .i64 (el ps i.i).1.n.s,.slice (el ps i.i).1.n.q (el ps i.i).1.n.n (el ps i.i).1.n.cap,.int .i64 (el ps i.i).1.d.s,.slice (el ps i.i).1.d.q (el ps i.i).1.d.n (el ps i.i).1.d.cap]) ((i.i)*4) (λF h9=>h9.1.2.1) O rfl QL I (λj v hv=>Jm (f:=(λe=>Ku e.1)) (l:=ps) (λ_=>rfl) O hv))<|Qb Ju (λb6=>QO (vs:=[_,_,_,_]) I I I QL I .here .h4 wR<|wG<|wI<|QA (QJ (vs:=[_,_,_,_]) I QL .here .h4 rfl)<|QA (QJ (vs:=[_,_,_,_]) I QL .u2 .h4 rfl)<|QI I (λw F hF h9=>Hb (x:=(el ps i.i).1) (y:=i.x) (r:=(el ps i.i).2) (s:=i.s) hF (h9.1.2.2 _ hem) h9.2 hze hsz) (λ_=>QA (QZ I I I)<|QE<|QC ?_))
  refine QR I (λhc=>?_) (λhc=>?_)
  ·
   have hc16:=wM hc
   refine QB<|QA (QJ (vs:=[_,_,_,_]) I QL .here .h4 rfl)<|QO (vs:=[_,_,_,_]) I I I QL I .u2 .h4 wR<|QE<|Qk<|QC<|QB<|QA (Qu I I O)<|wE I<|QE ?_
   exact Ql (⟨i.i+1,(el ps i.i).1,(el ps i.i).2,O,by rw[<-i.step O,hel];unfold Pd;rw[if_pos hc16]⟩) (by show n - (i.i+1)<n - i.i;omega) wS (.cons _ wK) (λF ⟨⟨⟨hX,hR,hP⟩,hS⟩,_⟩=>⟨⟨hX,hR,hP⟩,hP _ hem⟩)
  ·
   have hc16:=wN hc
   refine QQ<|Qk<|QC<|QB<|QA (Qu I I O)<|wE I<|QE ?_
   exact Ql (⟨i.i+1,i.x,i.s,O,by rw[<-i.step O,hel];unfold Pd;rw[if_neg hc16]⟩) (by show n - (i.i+1)<n - i.i;omega) wS (.cons _ wK) (λF ⟨⟨⟨hX,hR,hP⟩,hS⟩,_⟩=>⟨⟨hX,hR,hP⟩,hS⟩)
 ·
  have hge:i.i=(ps.map (·.2)).length:=by have:=wN hc;omega
  refine Qz ?_
  repeat (first | refine QW ?_ | refine QP wc ?_)
  refine QX<|QC<|wI<|QA (QJ (vs:=[_,_,_,_]) I QL .u1 .h4 rfl)<|QO (vs:=[_,_,_,_]) I I I QL I .here .h4 wR<|wG<|QY ?_
  exact QV (i.x) rfl (.JW (c:=[_,_,_,_]) I QL .here .nil) (rfl) (λF h=>by rw[<-i.end_ hge];exact h.2)
structure QGp(a b:List Int) where
 i:Nat
 le:i<=a.length
 h:a.take i=b.take i
structure QG7(a b:List Int) where
 i:Nat
 le:i<=a.length
 h:Yo a b=Yo (a.drop i) (b.drop i)
theorem QGp.next(s:QGp a b)(h1:s.i<a.length)(h2:s.i<b.length)(e:Qf a s.i=Qf b s.i):a.take (s.i+1)=b.take (s.i+1):=by
 rw[XN h1,XN h2,s.h,<-KD h1,<-KD h2,e]
theorem QG7.step(s:QG7 a b)(h1:s.i<a.length)(h2:s.i<b.length):Yo a b=(decide (Qf b s.i<Qf a s.i)||(decide (Qf a s.i=Qf b s.i)&&Yo (a.drop (s.i+1)) (b.drop (s.i+1)))):=by
 rw[s.h,XZ h1,XZ h2];rfl
structure QGn(a b:List EE) where
 i:Nat
 le:i<=a.length
 h:(Y8 a).take i=(Y8 b).take i
theorem QCp(a:List EE):(Y8 a).length=a.length:=by simp[Y8]
theorem QGn.next{a b:List EE}(s:QGn a b)(h1:s.i<a.length)(h2:s.i<b.length)(e1:(el a s.i).f=(el b s.i).f)(e2:(el a s.i).k=(el b s.i).k):(Y8 a).take (s.i+1)=(Y8 b).take (s.i+1):=by
 rw[XN (by rw[QCp];exact h1),XN (by rw[QCp];exact h2),s.h,Aw h1,Aw h2,e1,e2]
structure Sx{α:Type}(l:List α)(p:α->Bool) where
 i:Nat
 le:i<=l.length
 z:∀x∈l.take i,p x=false
section
variable{α:Type}[Inhabited α]{l:List α}{p:α->Bool}
def Sx.start(l:List α)(p:α->Bool):Sx l p:=⟨0,av _,we⟩
def Sx.next(s:Sx l p)(h:s.i<l.length)(e:p (el l s.i)=false):Sx l p:=⟨s.i+1,h,λx hx=>by
 rw[XN h]at hx
 rcases List.mem_append.1 hx with hx | hx
 ·exact s.z x hx
 ·rw[List.mem_singleton.1 hx];exact e⟩
theorem Sx.stop(s:Sx l p)(h:l.length<=s.i):¬l.any p=true:=by
 rw[eG]
 rintro⟨x,hx,e⟩
 have:=s.z x (by rw[aD h];exact hx)
 rw[this]at e;cases e
end
def D5(a:Rat)(k:Nat):List Tm:=if a=0 then[]else[(a,aS k 0)]
def AB(p:List Tm)(k:Nat):Nat->List Tm
 |0=>D5 1 k
 |i+1=>J6 (Jb (AB p k i) p)
structure QIX(n:Nat) where
 i:Nat
 c:Vn
 le:i<=n
structure Lj(p q:List Tm)(N:Nat):Prop where
 wp:∀t∈p,t.2.length=N
 wq:∀t∈q,t.2.length=N
 lp:p.length<=10000
 lq:q.length<=10000
 pp:∀t∈p,PW t.2
 pq:∀t∈q,PW t.2
 pm:∀s∈p,∀t∈q,PW (XH s.2 t.2)
 zp:KI p<=20000000
 zq:KI q<=20000000
 zm:KI (Jb p q)<=40000000
theorem y3{p q:Vn}(hF:Fits F w)(hGl:JC F)(hP:XU F p.1 p.2 (J1 p.2))(hQ:XU F q.1 q.2 (J1 q.2))(hN:N<=1000)(h:Lj (J1 p.2) (J1 q.2) N):
  QS Tryz.prog 297 [p.1.v,q.1.v] w F (λ(c:Vn)=>c.1.v) (λc F=>XU F c.1 c.2 (J6 (Jb (J1 p.2) (J1 q.2)))) :=
 QBS hF hGl hP hQ ⟨λt ht=>h.wp _ (ab ht),λt ht=>h.wq _ (ab ht)⟩ hN ⟨by have:=h.lp;rwa [Yx]at this,by have:=h.lq;rwa [Yx]at this⟩
  ⟨λt ht=>h.pp _ (ab ht),λt ht=>h.pq _ (ab ht),λs hs t ht=>h.pm _ (ab hs) _ (ab ht)⟩ ⟨h.zp,h.zq⟩ h.zm
def ur(c:Rat)(ws:List (List Tm))(ks:List Int)(k:Nat):Nat->List Tm
 |0=>D5 c k
 |i+1=>J6 (Jb (ur c ws ks k i) (AB (el ws i) k (Qf ks i).toNat))
def uq(ws:List (List Tm))(k:Nat)(l:List Tm):List Tm:=l.foldl (λa t=>J6 (a++ur t.1 ws t.2 k t.2.length)) []
structure qw(p q:List Tm):Prop where
 pp:∀t∈p,PW t.2
 pq:∀t∈q,PW t.2
 lp:p.length<=400000000
 lq:q.length<=400000000
 zs:KI (p++q)<=40000000
theorem kB{p q:Vn}(hF:Fits F w)(hGl:JC F)(hP:XU F p.1 p.2 (J1 p.2))(hQ:XU F q.1 q.2 (J1 q.2))(h:qw (J1 p.2) (J1 q.2)):
  QS Tryz.prog 296 [p.1.v,q.1.v] w F (λ(c:Vn)=>c.1.v) (λc F=>XU F c.1 c.2 (J6 (J1 p.2++J1 q.2))) :=
 QBa hF hGl hP hQ ⟨λt ht=>h.pp _ (ab ht),λt ht=>h.pq _ (ab ht)⟩ ⟨by have:=h.lp;rwa [Yx]at this,by have:=h.lq;rwa [Yx]at this⟩ h.zs
structure QIl(n:Nat) where
 i:Nat
 c:Vn
 le:i<=n
structure QIm(n:Nat) where
 j:Nat
 d:Vn
 le:j<=n
def Cb(ws:List Vn):List (List Tm):=ws.map λe=>J1 e.2
def Vd(g:List Int->Rat):List Tm->Rat
 |[]=>0
 |t::l=>t.1*g t.2+Vd g l
theorem jl(g:List Int->Rat)(p:List Tm)(t:Tm):Vd g (Zk p t)=Vd g p+t.1*g t.2:=by
 induction p with
 |nil =>
  unfold Zk
  split
  ·rename_i h;rw[h];simp[Vd,fc,az]
  ·simp[Vd,aC,az]
 |cons x p ih =>
  unfold Zk
  split
  ·simp only[Vd,ih,aQ]
  ·split
   ·rename_i h
    split
    ·rename_i h0
     simp only[Vd];rw[h]
     have:x.1*g t.2+t.1*g t.2=0:=by rw[<-iC,h0,fc]
     grind
    ·simp only[Vd];rw[h,iC];grind
   ·split
    ·rename_i h0;rw[h0,fc,az]
    ·simp only[Vd];grind
theorem UE(g:List Int->Rat):∀(l p:List Tm),Vd g (l.foldl Zk p)=Vd g p+Vd g l
 |[],p=>by simp[Vd,az]
 |t::l,p=>by rw[bp,UE g l,jl,Vd,aQ]
theorem UD(g:List Int->Rat)(l:List Tm):Vd g (J6 l)=Vd g l:=by
 rw[J6,UE,Vd,aC]
theorem ke(g:List Int->Rat){p q:List Tm}(h:Yh p q):Vd g p=Vd g q:=by
 rw[<-UD g p,NV h,UD]
theorem kc(g:List Int->Rat)(f:Tm->Tm)(h:List Int->Rat)(hf:∀t,(f t).1*g (f t).2=t.1*h t.2)(l:List Tm):Vd g (l.map f)=Vd h l:=by
 induction l with
 |nil=>rfl
 |cons t l ih=>rw[aj,Vd,Vd,ih,hf]
theorem vw(l:List Tm)(k:List Int):Jn l k=Vd (λj=>if j=k then 1 else 0) l:=by
 induction l with
 |nil=>rfl
 |cons t l ih=>rw[Jn,Vd,ih];split<;>simp
theorem T9{v:Nat}{l:List Tm}{x:Tm}(h:x∈Za v l):∃t∈l,0<Qf t.2 v/\x=(t.1*((Qf t.2 v:Int):Rat),t.2.set v (Qf t.2 v - 1)):=by
 unfold Za at h
 obtain⟨t,ht,h⟩:=List.mem_flatMap.1 h
 unfold Ao at h
 split at h
 ·rename_i g;exact⟨t,ht,g,List.mem_singleton.1 h⟩
 ·cases h
theorem qA:∀ {a b:List Int},a.length=b.length->(∀x∈a,0<=x)->(∀x∈b,0<=x)->∀x∈XH a b,0<=x
 |[],[],_,_,_=>λx hx=>by cases hx
 |[],_::_,h,_,_=>by simp at h
 |_::_,[],h,_,_=>by simp at h
 |x::a,y::b,h,ha,hb=>λz hz=>by
  rcases List.mem_cons.1 (show z∈(x+y)::XH a b from hz)with rfl | hz
  ·have:=ha x ax
   have:=hb y ax
   omega
  ·exact qA (by simpa using h) (λx hx=>ha x (aK _ hx)) (λx hx=>hb x (aK _ hx)) z hz
theorem Np:∀(a:List Int),XH a (aS a.length 0)=a
 |[]=>rfl
 |x::a=>by
  show(x+0)::XH a (aS a.length 0)=_
  rw[Np a,iv]
def Gp(v:Nat)(t:Tm):Tm:=(t.1*((Qf t.2 v:Int):Rat),t.2.set v (Qf t.2 v - 1))
def Wz(v:Nat)(l:List Tm):List Tm:=l.map (Gp v)
def NN(l:List Tm):Prop:=∀t∈l,∀x∈t.2,0<=x
theorem NN.tail{t:Tm}{p:List Tm}(h:NN (t::p)):NN p:=λx hx=>h x (aK _ hx)
theorem An(h:∀x∈l,0<=x)(v:Nat):0<=Qf l v:=by
 by_cases g:v<l.length
 ·rw[Zx g];exact h _ (eE g)
 ·rw[Bc O];exact bP _
theorem vZ(v:Nat){p q:List Tm}(h:Yh p q):Yh (Wz v p) (Wz v q):=λk=>by
 have e:∀l,Jn (Wz v l) k=Vd (λj=>((Qf j v:Int):Rat)*(if j.set v (Qf j v - 1)=k then 1 else 0)) l:=λl=>by
  rw[vw]
  exact kc _ (Gp v) _ (λt=>by unfold Gp;dsimp only;rw[ij]) l
 rw[e,e,ke _ h]
theorem Sb(v:Nat){l:List Tm}(h:NN l):Yh (Za v l) (Wz v l):=by
 induction l with
 |nil=>exact Yh.refl _
 |cons t l ih =>
  have ih:=ih h.tail
  have e:Za v (t::l)=Ao v t++Za v l:=rfl
  have e2:Wz v (t::l)=[Gp v t]++Wz v l:=rfl
  rw[e,e2]
  refine Yh.append ?_ ih
  have hd:=An (h t ax) v
  unfold Ao Gp
  split
  ·exact Yh.refl _
  ·rename_i g
   have h0:Qf t.2 v=0:=O
   rw[h0,show(((0:Int):Int):Rat)=0 from rfl,fe]
   exact(eqv_zero _ []).symm
theorem vf(v:Nat){p q:List Tm}(hp:NN p)(hq:NN q)(h:Yh p q):Yh (Za v p) (Za v q) :=
 (Sb v hp).trans ((vZ v h).trans (Sb v hq).symm)
theorem vc(v:Nat)(p q:List Tm):Wz v (p++q)=Wz v p++Wz v q:=by unfold Wz;rw[aH]
theorem La:∀ {a b:List Int} {v:Nat},v<a.length->a.length=b.length->Qf (XH a b) v=Qf a v+Qf b v/\∀z w,XH (a.set v z) b=(XH a b).set v (z+Qf b v)/\XH a (b.set v w)=(XH a b).set v (Qf a v+w)
 |[],_,_,h,_=>by simp at h
 |_::_,[],_,_,h=>by simp at h
 |x::a,y::b,0,_,_=>⟨rfl,λz w=>⟨rfl,rfl⟩⟩
 |x::a,y::b,v+1,h,e=>by
  obtain⟨h1,h2⟩:=La (a:=a) (b:=b) (v:=v) (by simpa using h) (by simpa using e)
  have d:∀(z:Int) (l:List Int),Qf (z::l) (v+1)=Qf l v:=λz l=>by simp[Qf]
  refine⟨by show Qf ((x+y)::XH a b) (v+1)=_;rw[d,d,d];exact h1,λz w=>?_⟩
  rw[d,d]
  exact⟨by show(x+y)::XH (a.set v z) b=((x+y)::XH a b).set (v+1) _;rw[(h2 z w).1];rfl,by show(x+y)::XH a (b.set v w)=((x+y)::XH a b).set (v+1) _;rw[(h2 z w).2];rfl⟩
theorem vd{v:Nat}{s t:Tm}(hv:v<n)(hs:s.2.length=n)(ht:t.2.length=n)(k:List Int):
  Jn [Gp v (s.1*t.1,XH s.2 t.2)] k=Jn [((Gp v s).1*t.1,XH (Gp v s).2 t.2)] k+Jn [(s.1*(Gp v t).1,XH s.2 (Gp v t).2)] k:=by
 obtain⟨h1,h2⟩:=La (a:=s.2) (b:=t.2) (v:=v) O O
 have h3:=h2 (Qf s.2 v - 1) (Qf t.2 v - 1)
 unfold Gp
 dsimp only
 rw[h1,h3.1,h3.2,show Qf s.2 v - 1+Qf t.2 v=Qf s.2 v+Qf t.2 v - 1 by omega,show Qf s.2 v+(Qf t.2 v - 1)=Qf s.2 v+Qf t.2 v - 1 by omega]
 simp only[Jn]
 rw[Rat.intCast_add]
 split<;>grind
theorem CG{v:Nat}{s:Tm}{q:List Tm}(hv:v<n)(hs:s.2.length=n)(hq:ZO n q):Yh (Wz v (Jy s q)) (Jy (Gp v s) q++Jy s (Wz v q)):=by
 induction q with
 |nil=>exact Yh.refl _
 |cons t q ih =>
  intro k
  have e1:=ih hq.tail k
  have e2:=vd hv hs (hq t ax) k
  have a1:Wz v (Jy s (t::q))=[Gp v (s.1*t.1,XH s.2 t.2)]++Wz v (Jy s q):=rfl
  have a2:Jy (Gp v s) (t::q)=[((Gp v s).1*t.1,XH (Gp v s).2 t.2)]++Jy (Gp v s) q:=rfl
  have a3:Jy s (Wz v (t::q))=[(s.1*(Gp v t).1,XH s.2 (Gp v t).2)]++Jy s (Wz v q):=rfl
  rw[a1,a2,a3]
  simp only[YB]at e1 ⊢
  rw[e1,e2]
  grind
theorem j4{v:Nat}{p q:List Tm}(hv:v<n)(hp:ZO n p)(hq:ZO n q):Yh (Wz v (Jb p q)) (Jb (Wz v p) q++Jb p (Wz v q)):=by
 induction p with
 |nil=>exact Yh.refl _
 |cons s p ih =>
  intro k
  have e1:=ih hp.tail k
  have e2:=CG hv (hp s ax) hq k
  have a1:Wz v (s::p)=Gp v s::Wz v p:=rfl
  rw[a1,XO,XO,XO,vc]
  simp only[YB]at e1 e2 ⊢
  rw[e1,e2]
  grind
theorem UQ{v:Nat}{p:List Tm}(h:ZO n p):ZO n (Wz v p):=λt ht=>by
 obtain⟨x,hx,rfl⟩:=List.mem_map.1 ht
 show(x.2.set v _).length=n
 rw[aI];exact h x hx
theorem Mx{v:Nat}{p:List Tm}(h:ZO n p):ZO n (Za v p):=λt ht=>by
 obtain⟨x,hx,_,rfl⟩:=T9 ht
 show(x.2.set v _).length=n
 rw[aI];exact h x hx
theorem ui{v:Nat}{p:List Tm}(h:NN p):NN (Za v p):=λt ht y hy=>by
 obtain⟨x,hx,h0,rfl⟩:=T9 ht
 rcases eR hy with hy | rfl
 ·exact h x hx y hy
 ·omega
theorem jC{s:Tm}{q:List Tm}(hs:s.2.length=n)(ns:∀x∈s.2,0<=x)(hq:ZO n q)(nq:NN q):NN (Jy s q):=λt ht=>by
 obtain⟨u,hu,rfl⟩:=List.mem_map.1 ht
 exact qA (by rw[hs,hq u hu]) ns (nq u hu)
theorem IA{p q:List Tm}(hp:ZO n p)(np:NN p)(hq:ZO n q)(nq:NN q):NN (Jb p q):=λt ht=>by
 obtain⟨s,hs,ht⟩:=List.mem_flatMap.1 ht
 exact jC (hp s hs) (np s hs) hq nq t ht
theorem QDO{v:Nat}{p q:List Tm}(hv:v<n)(hp:ZO n p)(hq:ZO n q)(np:NN p)(nq:NN q):Yh (Za v (Jb p q)) (Jb (Za v p) q++Jb p (Za v q)):=by
 refine(Sb v (IA hp np hq nq)).trans ((j4 hv hp hq).trans ?_)
 refine Yh.append ?_ ?_
 ·exact Yh.prod (UQ hp) (Mx hp) hq hq (Sb v np).symm (Yh.refl _)
 ·exact Yh.prod hp hp (UQ hq) (Mx hq) (Yh.refl _) (Sb v nq).symm
structure WN(n:Nat)(p:List Tm):Prop where
 w:ZO n p
 nn:NN p
def WP(n:Nat):={p:List Tm // WN n p}
section
variable{n:Nat}
theorem WN.prod{p q:List Tm}(h:WN n p)(k:WN n q):WN n (Jb p q):=⟨h.w.Jb k.w,IA h.w h.nn k.w k.nn⟩
theorem WN.der{p:List Tm}(h:WN n p)(v:Nat):WN n (Za v p):=⟨Mx h.w,ui h.nn⟩
theorem WN.nil:WN n []:=⟨λ_ h=>(by cases h),λ_ h=>(by cases h)⟩
theorem WN.cons{t:Tm}{p:List Tm}(h:WN n (t::p)):WN n [t]/\WN n p :=
 ⟨⟨λx hx=>by rw[List.mem_singleton.1 hx];exact h.w t ax,λx hx=>by rw[List.mem_singleton.1 hx];exact h.nn t ax⟩,⟨h.w.tail,h.nn.tail⟩⟩
theorem WN.con(c:Rat):WN n [(c,aS n 0)]:=⟨λx hx=>by rw[List.mem_singleton.1 hx];simp,λx hx y hy=>by
 rw[List.mem_singleton.1 hx]at hy;rw[List.eq_of_mem_replicate hy];exact bP _⟩
end
structure QHk(ws:List (List Tm))(k:Nat)(l:List Tm):Prop where
 mul:∀t∈l,∀j,j<t.2.length->Lj (ur t.1 ws t.2 k j) (AB (el ws j) k (Qf t.2 j).toNat) k/\∀i,i<(Qf t.2 j).toNat->Lj (AB (el ws j) k i) (el ws j) k
 add:∀i,i<l.length->qw (uq ws k (l.take i)) (ur (el l i).1 ws (el l i).2 k (el l i).2.length)
 pw:∀t∈uq ws k l,PW t.2
 sz:∀t∈uq ws k l,JL t.1<=100000000
 len:(uq ws k l).length<=1000000
def wsA(ls:List S1):List (List Tm):=ls.map λe=>Xz (Y8 e.2)
structure CxJ(ls:List S1) where
 i:Nat
 v:Value
 ob:List (Nat×Obj)
 ws:List Vn
 le:i<=ls.length
 hr:Qx 190 1 v i (ws.map λe=>e.1.v) ob
 hx:Cb ws=wsA (ls.take i)
theorem CxJ.len{ls:List S1}(s:CxJ ls):s.ws.length=s.i:=by
 have:=congrArg eI s.hx
 have h:=s.le
 simp only[Cb,wsA,aW,aA]at this;omega
theorem zZ(h:i<ts.length):(el ts i).t=el (J1 ts) i:=by rw[JK h,JK (by simpa[J1]using h)];simp[J1]
end Go.Proofs.YtjcphjpkimmmjaaGreatDoor
