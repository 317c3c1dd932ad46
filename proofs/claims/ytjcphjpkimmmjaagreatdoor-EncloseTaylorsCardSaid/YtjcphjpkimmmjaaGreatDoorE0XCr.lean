/- Steps of the proof of the theorem in the last file. -/
import Derived.Test.YtjcphjpkimmmjaaGreatDoorQ0
import Derived.IntWalk
import Derived.Test.YtjcphjpkimmmjaaGreatDoorProg
import Derived.KernelRfl
import Derived.Lib.ItoaNum
import Derived.Lib.Atoi
import Derived.Lib.Repeat
import Derived.Lib.IndexMore
import Derived.Laws.IdiomArrays
set_option linter.all false
set_option maxHeartbeats 4000000
open Go.Proofs.Tryz
open Go.Lib renaming trimPrefix → aa,hasPrefix → ao,decDigits → au,decDigits_length → aY
open Go.Value renaming int → ab,bool → ag,slice → fh
open List renaming cons_append → ae,nil_append → af,eq_nil_of_length_eq_zero → aj,take_of_length_le → ak,length_set → ar,length_take → av,length_append → ay,getElem?_toArray → aC,drop_drop → aF,take_length → aG,length_cons → aH,take_set_of_le → aI,length_singleton → aK,length_drop → aL,drop_eq_getElem_cons → aP,take_succ_eq_append_getElem → aQ,drop_set_of_lt → aU,replicate → aX,getElem?_eq_getElem → aZ,drop_zero → bm,drop_of_length_le → bp,drop_eq_nil_of_le → bw,length_nil → bP,take_append_drop → bQ,drop_set → bX,flatMap_cons → ee,length → er,isPrefixOf → ew,takeWhile_cons_of_pos → eE,getElem?_append_right → eF,getElem?_append_left → eI,length_eq_zero_iff → eM,getElem?_eq_none → eP,takeWhile_cons → eT,all_eq_true → eX,append_nil → eZ,set_set → fe
open Int renaming mul_le_mul_of_nonneg_left → ah,mul_le_mul_of_nonneg_right → ax,mul_comm → aJ,pow_succ → aO,one_mul → aT,gcd → aV,natAbs_mul → aW,mul_ne_zero → bc,ediv_nonneg → bh,emod_add_mul_ediv → bz,ediv_le_self → bA,mul_sub → bC,mul_add → bD,lt_or_le → bF,sub_add_cancel → bG,mul_nonneg → bH,mul_le_mul → bI,emod_lt_of_pos → bJ,le_refl → bK,mul_assoc → bM,emod_nonneg → bR,ediv_lt_of_lt_mul → bT,sub_mul → bU,add_mul → bV,toNat_of_nonneg → bY,toNat_natCast → ei,mul_zero → ep,pow_add → ey,mul_one → eB,natAbs_tdiv → eD,mul_lt_mul_of_pos_right → eG,lt_of_mul_lt_mul_left → eK,eq_of_mul_eq_mul_left → eL,mul_ediv_cancel_left → eN,gcd_dvd_left → fa,ofNat_tmod → fb,ofNat_tdiv → fc,add_assoc → ff,zero_mul → fk,zero_add → fl,lt_trans → fm,emod_def → fp,mul_neg → fB
open Rat renaming divInt → ai,neg_num → eR,neg_divInt_neg → eW,neg_den → fy
open Nat renaming le_refl → aq,eq_zero_or_pos → aA,mul_lt_mul_of_lt_of_lt → aB,zero_le → aE,lt_or_ge → aN,zero_add → aR,pow_le_pow_right → aS,gcd → ba,add_sub_cancel_left → bj,add_assoc → bL,le_trans → bO,pow_le_pow_left → bW,add_sub_cancel → bZ,div_le_self → eC,mod_lt → eH,add_zero → eO,zero_mul → fi,gcd_comm → fj,add_mul → fz
open Bool renaming eq_iff_iff → aD,or_eq_false_iff → eQ,not_eq_false' → eV,and_eq_true → eY
open And renaming intro → aM
open List.Perm renaming refl → bB
open Go.DataW renaming trod → bN
open UInt8 renaming ofNat → bS
open Go.IntWalk renaming i64_in → eu
open Go.Result renaming andThen_ok → eU
open Go.World renaming cell? → fg
open Go.Sem renaming run_pure → fq,run_bind → fu
open Go.Lib.decDigits renaming eq_1 → fw
open List.Sublist renaming refl → fA
namespace Go.Proofs.YtjcphjpkimmmjaaGreatDoor
variable{c f z zx:Int}{x:Rat}{y:Operand}{T yT:TypeId}{a b l o out u:List Int}{cap i k n:Nat}{cs:List Value}{s:List UInt8}{w:World}{F:Gs}{ra rb:Sr}
open Go.RowKit
section
variable[Dr][df:Df]
section
variable{P:Program}{Q:Exit->Act->World->Prop}{N:Nat}{m:Sl}{E:Env}
theorem SG{c:Operand}{x y:Code}(hc:ev m c=some (.bool true))(h:J P x Q N m E):J P (.cond c x y) Q N m E:=QQ hc (λ_=>h) λh=>by cases h
variable{ops:Array Oper}{l:List Oper}{E0:Env}
variable{d:Nat}{o:Op}{ty:TypeId}{pos:String}{aft:Array Edge}{v:Value}
end
end
section
variable[Dr][df:Df]
section
variable{P:Program}{N:Nat}{m:Sl}{S:World->Prop}{ty:TypeId}{v:Value}
theorem SO{x:Operand}{a b:Int}(hx:ev m x=some (.int .i64 a))(hy:ev m y=some (.int .i64 b))(ha:0<=a)(ha':a<=9223372036854775807)(hb:0<b):Qt P N m S (.binOp .quo T x y yT) ty (.int .i64 (a/b)):=by
 have:=vQ (P:=P) (N:=N) (m:=m) (S:=S) (ty:=ty) (T:=T) (yT:=yT) hx hy O;have e:a.tdiv b=a/b:=Int.tdiv_eq_ediv_of_nonneg ha;have h0:0<=a/b:=bh ha O;have h1:a/b<=a:=bA b ha;rw[e,eu _ ⟨O,O⟩]at this;exact this
theorem QDV{src dst:TypeId}{x:Operand}{k':IntKind}{n:Int}(hx:ev m x=some (.int k' n))(hs:(P.underlying src).isSome=true)(hk:Nl P dst=some .i64)(h : -9223372036854775808<=n/\n<=9223372036854775807):Qt P N m S (.convert src dst x) ty (.int .i64 n):=by
 have:=Ib (P:=P) (N:=N) (m:=m) (S:=S) (ty:=ty) hx hs hk;rw[CH h]at this;exact this
theorem QG3{T':TypeId}{x:Operand}{a b:Int}(hx:ev m x=some (.int .i64 a))(hy:ev m y=some (.int .i64 b)):Qt P N m S (.call ⟨.builtin .max,#[x,y],#[T,T']⟩) ty (.int .i64 (if b>a then b else a)):=λs w _ _ _ _ ha _=>by
 rw[YH];simp[builtin,ha.ev hx,ha.ev hy,Builtin.max_,Builtin.max2]
end
end
section
variable[Dr][df:Df]
section
variable{P:Program}{Q:Exit->Act->World->Prop}{N:Nat}{m:Sl}{E E0:Env}{ops:Array Oper}{l:List Oper}{w0:World}{F0:Gs}{bs:List (Nat×Obj)}{G:Gs->Prop}{ty:TypeId}{v:Value}{S:World->Prop}
theorem Ti(v:Value):∀n,Xg [v] n=aX n v
 |0=>rfl
 |n+1=>by rw[Xg,Ti v n];rfl
end
end
theorem R5:Z5 prog 4=some (false,1):=tE
theorem QIs:(prog.underlying 5).isSome=true:=tE
theorem Bw:BZ prog 22=true:=tE
theorem XB:Z5 prog 147=some (true,2):=tE
theorem Wk:XI prog 147=some [.bool false,.slice none 0 0]:=tE
theorem QEw:Zx prog 147=some [(0,1),(1,1)]:=tE
theorem Ea:Yv prog 147 0=some (0,4):=tE
theorem K2:Yv prog 147 1=some (1,106):=tE
end Go.Proofs.YtjcphjpkimmmjaaGreatDoor
namespace Ig
def Vk(l:List Int):(Jf l).length<=l.length:=by
 obtain⟨n,hn⟩:=Sc l;have:=congrArg er hn;simp at this;omega
end Ig
namespace Go.Proofs.YtjcphjpkimmmjaaGreatDoor
variable{c f z zx:Int}{x:Rat}{y:Operand}{T yT:TypeId}{a b l o out u:List Int}{cap i k n:Nat}{cs:List Value}{s:List UInt8}{w:World}{F:Gs}{ra rb:Sr}
open Go
def cI{l:List UInt8}(h:l.length<=k):(Hq k l).length=k:=by
 unfold Hq;rw[Gh];simp;omega
section
open Go.RowKit Go.ChangeShapes Go.WideShapes Ig
theorem yV{α:Type}{f:α->List Value}{off:Nat}{c:Array Value}(hf:∀x,(f x).length=k):∀(l:List α) (i0:Nat),(∀i x,l[i]?=some x->∀j,j<k->c[off+(i0+i)*k+j]?=(f x)[j]?)->∀p u,(l.flatMap f)[p]?=some u->c[off+i0*k+p]?=some u
 |[],_,_,p,u,e=>by simp at e
 |x::l,i0,h,p,u,e=>by
  rw[ee]at e;rcases aN p k with g | g
  ·rw[eI (by rw[hf];exact g)]at e;have:=h 0 x rfl p g;rw[eO]at this;rw[this,e]
  rw[eF (by rw[hf];exact g),hf]at e;have:=yV hf l (i0+1) (λi y hy j hj=>by
   have:=h (i+1) y (by simpa using hy) j hj
   rwa [show i0+(i+1)=i0+1+i by omega]at this) (p-k) u e
  rwa [show off+(i0+1)*k+(p-k)=off+i0*k+p by rw[fz,Nat.one_mul];omega]at this
def QAL{b off:Nat}:(⟨b,off,none⟩:Addr).add n=⟨b,off+n,none⟩:=by
 unfold Addr.add;split
 ·rename_i h;rw[h,eO]
 rfl
section
variable{H:Type}{enc:TypeId×Value->H}{w:World}
def vf{a:Addr}(h:w.cells? 0 a n=some cs):cs.length=n/\∀i,i<n->w.cell? (a.add i)=cs[i]?:=by
 unfold World.cells? at h;rw[if_pos (aE _)]at h;exact⟨by simpa using mapM_some_length h,λi hi=>by simpa using mapM_some_get h i i (by simp[hi])⟩
theorem Pe{fuel:Nat}{cs:List Value}{x:DataW H×List MemPlace}{t e:TypeId}{sz:Nat}{α:Type}{f:α->List Value}{Q:α->Prop}(ht:prog.underlying t=some (.slice e))(hc:prog.cellsOf e=sz)(h0:0<sz)(hf:∀x,(f x).length=sz)
  (hel:∀(n:Nat) (cs:List Value) (x:DataW H×List MemPlace),bN enc prog w 0 (λ_=>true) true n e cs=some x->∃y,cs=f y/\Q y)
  (hh:bN enc prog w 0 (λ_=>true) true fuel t cs=some x) :
  ∃(q:Option Addr) (n cap:Nat) (l:List α),cs=[.slice q n cap]/\Qy (Vx w) q n sz (l.flatMap f)/\l.length=n/\n<=9223372036854775807/\(∀y∈l,Q y)/\n<=cap:=by
 rcases DataW.trod_slice ht hh with ⟨e0,_⟩ | ⟨a',len,cap,elems,rest,n,_,e0,_,_,h1,h2,hlen,hg,_,_⟩
 ·exact⟨none,0,0,[],e0,Qy.nil _ _ _,rfl,aE _,λy hy=>(by cases hy),aq _⟩
 subst e0;rw[hc]at hg;have key:∀i,i<len->∃y:α,w.cells? 0 (a'.add (i*sz)) sz=some (f y)/\Q y:=λi hi=>by
  have e:=hg i hi;rw[aZ O,Option.bind_eq_some_iff]at e;obtain⟨cs,hcs,htr⟩:=e;obtain⟨y,rfl,hq⟩:=hel _ _ _ htr;exact⟨y,hcs,hq⟩
 have hm:len<=9223372036854775807:=by have:=h2;unfold maxLen at this;omega
 have build:∀m,m<=len->∃l:List α,l.length=m/\(∀i x,l[i]?=some x->w.cells? 0 (a'.add (i*sz)) sz=some (f x))/\∀y∈l,Q y:=by
  intro m
  induction m with
  |zero=>exact λ_=>⟨[],rfl,λi x e=>by simp at e,λy hy=>by cases hy⟩
  |succ m ih =>
   intro hm';obtain⟨l,hl,hx,hQ⟩:=ih O;obtain⟨y,hy,hq⟩:=key m O;refine⟨l++[y],by simp[hl],λi x e=>?_,λz hz=>by rcases List.mem_append.1 hz with hz | hz;exact hQ z hz;rw[List.mem_singleton.1 hz];exact hq⟩;rcases aN i m with g | g
   ·rw[eI O]at e;exact hx i x e
   have:i=m:=by
    have:=(List.getElem?_eq_some_iff.1 e).1;simp at this;omega
   subst this;rw[eF O,hl,Nat.sub_self]at e;simp only[List.getElem?_cons_zero,Option.some.injEq]at e;rw[<-e];exact hy
 obtain⟨l,hl,hx,hQ⟩:=build len (aq _);refine⟨some a',len,cap,l,rfl,⟨?_,λhn=>?_⟩,hl,hm,hQ,h1⟩
 ·rw[List.length_flatMap];have:∀l:List α,(l.map λx=>(f x).length).sum=l.length*sz:=λl=>by
   induction l with
   |nil=>simp
   |cons x l ih=>rw[List.map_cons,List.sum_cons,ih,hf,aH,fz];omega
  rw[this,hl]
 have c0:=hx 0 (l[0]' O) (aZ _);have g0:=(vf c0).2 0 h0;have hs:(f (l[0]' O))[0]?=some ((f (l[0]' O))[0]'(by rw[hf];exact h0)):=aZ _;rw[hs,fi]at g0;have ea:(a'.add 0).add 0=a':=rfl;rw[ea]at g0;obtain⟨b',off,spot⟩:=a';unfold fg at g0;split at g0
 ·rename_i c T fr hheap;split at g0
  ·cases g0
  rename_i hsp;have:spot=none:=by cases spot with
   |none=>rfl
   |some s=>simp at hsp
  subst this;refine⟨b',off,c,T,rfl,by unfold Vx;rw[hheap],λj u hu=>?_⟩;have:=yV (off:=off) (c:=c) hf l 0 (λi x e j hj=>?_) j u hu
  ·rwa [fi,eO]at this
  have:=(vf (hx i x e)).2 j hj;rw[QAL,QAL]at this;unfold fg at this;rw[hheap]at this;simpa using this
 cases g0
end
end
open Go.RowKit Ig
def ahead(p:UInt8->Bool)(s:List UInt8):Nat:=(s.takeWhile λc=>!p c).length
def vj{p:UInt8->Bool}(hi:i<s.length)(h:(s.take i).all (λc=>!p c)=true)(hp:p s[i]=true):ahead p s=i:=by
 unfold ahead;have e:s=s.take i++s[i]::s.drop (i+1):=by rw[<-aP hi,bQ]
 have hl:(s.take i).length=i:=tK;rw[e,List.takeWhile_append_of_pos (by simpa using h),eT];simp[hp];omega
def vm{p:UInt8->Bool}(h:s.all (λc=>!p c)=true):ahead p s=s.length:=by
 unfold ahead
 induction s with
 |nil=>rfl
 |cons c s ih =>
  simp only[List.all_cons,eY]at h;rw[eT,if_pos h.1,aH,ih h.2,aH]
def I0{p:UInt8->Bool}(hi:i<s.length)(h:(s.take i).all p=true)(hp:p s[i]=true):(s.take (i+1)).all p=true:=by
 rw[aQ hi,List.all_append,h];simp[hp]
def Zw(c:UInt8):Bool:=c==47
def AF{c d:UInt8}(hz:z=(d.toNat:Int)):((c.toNat:Int)==z)=(c==d):=by
 rw[aD];simp only[beq_iff_eq];constructor
 ·intro h;apply UInt8.toNat.inj;omega
 rintro rfl;exact hz.symm
theorem Sn(hF:Fits F w)(hl:s.length<=9223372036854775807):Qf prog 95 [tx s] w F (.int .i64 (ahead Zw s)):=by
 refine QU.intro (G:=λ_=>True) func95 rfl tH rfl rfl hF tL<|wa<|wZ rfl<|QG<|wa<|wZ rfl<|QV<|YB (ι:=Uv s.length λi=>(s.take i).all (λc=>!Zw c)=true) (λi=>[(0,tx s),(3,.int .i64 i.i)]) (λ_=>[]) (λ_ _=>True) (λi=>s.length-i.i) ⟨0,aE _,rfl⟩ wm we tL λi=>?_
 have hle:=i.le;refine wA 5 I<|QA (Xc I Zm)<|wD 3 I ?_
 refine QQ I (λhc=>?_) λhc=>?_
 ·have hi:i.i<s.length:=by simp at hc;omega
  clear hc;refine wC 8 I<|QA (Hh I I Zm (hi))<|wD 3 I ?_
  refine QQ I (λhc=>?_) λhc=>?_
  ·refine wA 7 I ?_
   repeat first|refine Q6 ?_|refine Qv ?_
   exact QP () I (wT I) (congrArg (λn:Nat=>ab .i64 (n:Int)) (vj hi i.h (by unfold Zw;have:=hc;rw[AF (d:=47) (z:=47) rfl]at this;simpa using this))) tL
  refine QN<|Qj<|wE 3 I<|QA (Qu I I O)<|wB 2 I ?_
  exact Ql (⟨i.i+1,O,I0 hi i.h (by unfold Zw;have:=hc;rw[AF (d:=47) (z:=47) rfl]at this;simpa using this)⟩:Uv s.length λi=>(s.take i).all (λc=>!Zw c)=true) (by show s.length-(i.i+1)<s.length-i.i;omega) wm we tL
 refine Qx ?_
 repeat first|refine QY ?_|refine QO tH ?_
 refine QZ<|wE 4 I<|QA (Xc I Zm)<|wD 4 I ?_
 exact QP () I (wT I) (congrArg (λn:Nat=>ab .i64 (n:Int)) (vm (by have e:=i.h;rw[ak (by simp at hc;omega)]at e;exact e))) tL
theorem vL(hF:Fits F w)(hl:s.length<=9223372036854775807):Qf prog 188 [tx s] w F (.bool (ZJ s)):=by
 refine QU.intro (G:=λ_=>True) func188 rfl tH rfl rfl hF tL<|wa<|wZ rfl<|QG<|wa<|wZ rfl<|QV<|YB (ι:=Uv s.length λi=>(s.take i).all Iq=true) (λi=>[(0,tx s),(3,.int .i64 i.i)]) (λ_=>[]) (λ_ _=>True) (λi=>s.length-i.i) ⟨0,aE _,rfl⟩ wm we tL λi=>?_
 have hle:=i.le;refine wA 5 I<|QA (Xc I Zm)<|wD 3 I ?_
 refine QQ I (λhc=>?_) λhc=>?_
 ·have hi:i.i<s.length:=by simp at hc;omega
  clear hc;refine wC 8 I<|QA (Hh I I Zm (hi))<|wB 2 I ?_
  refine Qn (t:=14) rfl (λhb14=>?_) λhb14=>?_
  ·refine wD 7 I<|SG I<|wA 6 I ?_
   repeat first|refine Q6 ?_|refine Qv ?_
   exact QP () I (wT I) (congrArg ag (by rw[UA hi (by have h1:=wi hb14;cases hd:Iq s[i.i]with | false=>rfl | true=>(have:=Kh.1 hd;omega))])) tL
  refine wB 5 I<|QA (Hh I I Zm (hi))<|wD 5 I ?_
  refine QQ I (λhc=>?_) λhc=>?_
  ·refine wA 6 I ?_
   repeat first|refine Q6 ?_|refine Qv ?_
   exact QP () I (wT I) (congrArg ag (by rw[UA hi (by have h1:=wi hc;cases hd:Iq s[i.i]with | false=>rfl | true=>(have:=Kh.1 hd;omega))])) tL
  refine QN<|Qj<|wE 3 I<|QA (Qu I I O)<|wB 2 I ?_
  exact Ql (⟨i.i+1,O,I0 hi i.h (Kh.2 (by have h1:=wj hb14;have h2:=wj hc;constructor<;>omega))⟩:Uv s.length λi=>(s.take i).all Iq=true) (by show s.length-(i.i+1)<s.length-i.i;omega) wm we tL
 refine Qx ?_
 repeat first|refine QY ?_|refine QO tH ?_
 refine QZ<|wE 7 I ?_
 exact QP () I (wT I) (congrArg ag (by have e:=i.h;rw[ak (by simp at hc;omega)]at e;exact e)) tL
theorem QFN(h1:(1:Int)<(s.length:Int))(h:s[0]' O=48):Xv s=false:=by
 cases s with
 |nil=>simp at h1
 |cons c r =>
  have hc:c=48:=h;subst hc;have hr:r≠[]:=by intro e;subst e;simp at h1
  simp[Xv,hr]
theorem QDx(h1:(1:Int)<(s.length:Int))(h:¬s[0]' O=48):Xv s=ZJ s:=by
 cases s with
 |nil=>simp at h1
 |cons c r =>
  have hc:¬c=48:=h;simp[Xv,hc]
theorem QFM(h0:0<s.length)(h1:s.length<=1):Xv s=ZJ s:=by
 match s,h0,h1 with
 |[c],_,_ =>
  by_cases hc:c=48
  ·subst hc;rfl
  simp[Xv,hc]
theorem QCq(hF:Fits F w)(hl:s.length<=9223372036854775807):Qf prog 96 [tx s] w F (.bool (Xv s)):=by
 refine QU.intro (G:=λ_=>True) func96 rfl tH rfl rfl hF tL<|wa<|wZ rfl<|QG<|wb rfl<|QA (Xc rfl Zm)<|QA (QT rfl rfl rfl)<|wW rfl ?_
 refine Qn (t:=6) rfl (λhb6=>?_) λhb6=>?_
 ·refine wB 4 I<|Jn I I<|Jn I I<|Jn I I<|wD 4 I<|SG I<|wA 6 I ?_
  exact QP () I (wT I) (congrArg ag (by have h0:s=[]:=(by simpa using hb6);subst h0;rfl)) tL
 refine wB 3 I<|QA (Xc I Zm)<|wB 4 I ?_
 refine Qn (t:=10) rfl (λhb10=>?_) λhb10=>?_
 ·refine wB 3 I<|QA (Hh (i:=0) rfl rfl Zm (tD<|wi hb10))<|wD 7 I ?_
  refine QQ I (λhc=>?_) λhc=>?_
  ·refine wA 6 I ?_;exact QP () I (wT I) (congrArg ag (QFN (wi hb10) (by have h:=hc;rw[AF (d:=48) (z:=48) rfl]at h;simpa using h))) tL
  refine wC 5 I<|QI I (λ_ _ f _=>vL f hl) λ_=>wD 4 I ?_
  exact QP () I (wT I) (congrArg ag (QDx (wi hb10) (by have h:=hc;rw[AF (d:=48) (z:=48) rfl]at h;simpa using h))) tL
 refine wD 8 I<|Yj I<|wC 5 I<|QI I (λ_ _ f _=>vL f hl) λ_=>wD 4 I ?_
 exact QP () I (wT I) (congrArg ag (QFM (List.length_pos_iff.2 (by simpa using hb6)) (by have h:=wj hb10;omega))) tL
def R8(s:List UInt8):Int:=if s=[48]then 0 else if ao s [45]=true then -1 else 1
def cP(s:List UInt8):List UInt8:=if R8 s<0 then s.drop 1 else if R8 s=0 then s else 45::s
def vB(s:List UInt8):List UInt8:=if R8 s<0 then s.drop 1 else s
def numOf(s:List UInt8):List UInt8:=s.take (ahead Zw s)
def CS(s:List UInt8):List UInt8:=if ahead Zw s=s.length then[49]else s.drop (ahead Zw s+1)
def MN(s:List UInt8):Int:=if(decide (600<(vB (numOf s)).length)||decide (600<(CS s).length))=true then 4 else 0
def Et(p:UInt8->Bool)(s:List UInt8):ahead p s<=s.length:=(List.takeWhile_sublist _).length_le
theorem EG(h:0<s.length):ao s [45]=(s[0]==45):=by
 cases s with
 |nil=>simp at h
 |cons c r =>
  have e:ao (c::r) [45]=(45==c):=by simp[ao,ew]
  rw[e,aD];simp only[List.getElem_cons_zero,beq_iff_eq];exact⟨λh=>h.symm,λh=>h.symm⟩
def Od(h:R8 s<0):0<s.length:=by
 cases s with
 |nil=>exact absurd h tF
 |cons=>simp
theorem Oo(hF:Fits F w):Qf prog 19 [tx s] w F (.int .i64 (R8 s)):=by
 refine QU.intro (G:=λ_=>True) func19 rfl tH rfl rfl hF tL<|wa<|wZ rfl<|QG<|wb rfl<|QA (VE rfl rfl)<|QE<|QC ?_
 refine QQ I (λhc4=>?_) λhc4=>?_
 ·refine wA 6 I ?_;exact QP () I (wT I) (congrArg (ab .i64) (by unfold R8;rw[if_pos (by simpa using hc4)])) tL
 refine wC 6 I<|QA (Xc I Bw)<|wB 2 I ?_
 refine Qn (t:=8) rfl (λhb8=>?_) λhb8=>?_
 ·refine wB 3 I<|QA (Hh (i:=0) rfl rfl Bw (tD<|wi hb8))<|wD 5 I ?_
  refine QQ I (λhc=>?_) λhc=>?_
  ·refine wA 6 I ?_;exact QP () I (wT I) (congrArg (ab .i64) (by unfold R8;rw[if_neg (by simpa using hc4),if_pos];rw[EG (tD<|wi hb8),<-AF (z:=45) rfl];exact hc)) tL
  refine wC 8 I ?_;exact QP () I (wT I) (congrArg (ab .i64) (by unfold R8;rw[if_neg (by simpa using hc4),if_neg];rw[EG (tD<|wi hb8),<-AF (z:=45) rfl,hc];decide)) tL
 refine wD 6 I<|Yj I<|wC 8 I ?_
 exact QP () I (wT I) (congrArg (ab .i64) (by have h0:s=[]:=(by have:=hb8;simp at this;exact this);subst h0;rfl)) tL
theorem QHO(hF:Fits F w)(hl:s.length<=1000000000):Qf prog 153 [tx s] w F (tx (cP s)):=by
 refine QU.intro (G:=λ_=>True) func153 rfl tH rfl rfl hF tL<|wa<|wZ rfl<|QG<|wb rfl<|QI rfl (λ_ _ f _=>Oo f ) λ_=>QA (QT rfl rfl rfl)<|QE<|QC ?_
 refine QQ I (λhc5=>?_) λhc5=>?_
 ·refine wb I<|QA (GL 1 rfl rfl Bw I (Od (wi hc5)))<|wD 4 I ?_
  exact QP () I (wT I) (congrArg tx (by unfold cP;rw[if_pos (wi hc5)])) tL
 refine wC 6 I<|QI I (λ_ _ f k=>Oo f ) λ_=>wD 3 I ?_
 refine QQ I (λhc10=>?_) λhc10=>?_
 ·refine wA 7 I ?_;exact QP () I (wT I) (congrArg tx (by unfold cP;rw[if_neg (wj hc5),if_pos (by simpa using hc10)])) tL
 refine wC 5 I<|QA (Yf I I tK)<|wD 4 I ?_
 exact QP () I (wT I) (congrArg tx (by unfold cP;rw[if_neg (wj hc5),if_neg (by simpa using hc10)];rfl)) tL
theorem gi(hF:Fits F w):Qf prog 150 [tx s] w F (tx (vB s)):=by
 refine QU.intro (G:=λ_=>True) func150 rfl tH rfl rfl hF tL<|wa<|wZ rfl<|QG<|wb rfl<|QI rfl (λ_ _ f _=>Oo f ) λ_=>QA (QT rfl rfl rfl)<|QE<|QC ?_
 refine QQ I (λhc=>?_) λhc=>?_
 ·refine wb I<|QA (GL 1 rfl rfl Bw I (Od (wi hc)))<|wD 4 I ?_
  exact QP () I (wT I) (congrArg tx (by unfold vB;rw[if_pos (wi hc)])) tL
 refine wC 9 I ?_;exact QP () I (wT I) (congrArg tx (by unfold vB;rw[if_neg (wj hc)])) tL
theorem QCm(hF:Fits F w):Qf prog 75 [tx s] w F (.bool (s==[48])):=by
 refine QU.intro (G:=λ_=>True) func75 rfl tH rfl rfl hF tL<|wa<|wZ rfl<|wb rfl<|QA (VE rfl rfl)<|wZ rfl<|QX ?_
 exact QP () I (wT I) (rfl) tL
theorem QA6(hF:Fits F w)(hl:s.length<=1000000000):Qf prog 151 [tx s] w F (tx (numOf s)):=by
 refine QU.intro (G:=λ_=>True) func151 rfl tH rfl rfl hF tL<|wa<|wZ rfl<|wb rfl<|wW rfl<|QI rfl (λ_ _ f _=>Sn f (bO hl tF)) λ_=>QA (Mj (ahead Zw s) rfl rfl Bw rfl (Et _ _))<|wZ rfl<|QX ?_
 exact QP () I (wT I) (rfl) tL
theorem QA9(hF:Fits F w)(hl:s.length<=1000000000):Qf prog 152 [tx s] w F (tx (CS s)):=by
 refine QU.intro (G:=λ_=>True) func152 rfl tH rfl rfl hF tL<|wa<|wZ rfl<|wb rfl<|QI rfl (λ_ _ f _=>Sn f (bO hl tF)) λ_=>wZ rfl<|QG<|wb rfl<|wW rfl<|QA (Xc rfl Bw)<|QA (QT rfl rfl rfl)<|QE<|QC ?_
 refine QQ I (λhc=>?_) λhc=>?_
 ·refine wA 6 I ?_;exact QP () I (wT I) (congrArg tx (by unfold CS;rw[if_pos (by simp at hc;omega)])) tL
 refine wC 6 I<|QA (Qu I I (tD<|Et Zw s))<|QA (GL (ahead Zw s+1) rfl rfl Bw I (by have:=Et Zw s;simp at hc;omega))<|wD 4 I ?_
 exact QP () I (wT I) (congrArg tx (by unfold CS;rw[if_neg (by simp at hc;omega)])) tL
theorem QEm(hF:Fits F w)(hl:s.length<=1000000000):Qf prog 137 [tx s] w F (.int .i64 (MN s)):=by
 refine QU.intro (G:=λ_=>True) func137 rfl tH rfl rfl hF tL<|wa<|wZ rfl<|QG<|wb rfl<|QI rfl (λ_ _ f _=>QA6 f hl) λ_=>QI rfl (λ_ _ f k=>gi f ) λ_=>QA (Xc rfl Bw)<|QA (QT rfl rfl rfl)<|wW rfl ?_
 refine Qn (t:=8) rfl (λhb8=>?_) λhb8=>?_
 ·refine wD 7 I<|SG I<|wA 6 I ?_
  exact QP () I (wT I) (congrArg (ab .i64) (by have h:=wi hb8;unfold MN;rw[if_pos (by rw[decide_eq_true O];rfl)])) tL
 refine wB 3 I<|QI I (λ_ _ f k=>QA9 f hl) λ_=>QL I I<|QA (Xc I Bw)<|wD 5 I ?_
 refine QQ I (λhc=>?_) λhc=>?_
 ·refine wA 6 I ?_;exact QP () I (wT I) (congrArg (ab .i64) (by have h:=wi hc;unfold MN;rw[if_pos (by rw[decide_eq_true (show 600<(CS s).length by omega),Bool.or_true])])) tL
 refine wC 8 I ?_;exact QP () I (wT I) (congrArg (ab .i64) (by have h:=wj hc;have h8:=wj hb8;unfold MN;rw[if_neg (by rw[decide_eq_false O,decide_eq_false O];decide)])) tL
def jJ(hi:i<s.length):Jc (s.take (i+1))=Jc (s.take i)*10+(s[i].toNat-48):=by
 rw[aQ hi,Kb,Wq];simp
def QHu(hi:i<s.length)(h:ZJ s=true):48<=s[i].toNat/\s[i].toNat<=57:=by
 rw[ZJ,eX]at h;exact Kh.1 (h _ (List.getElem_mem hi))
theorem Ol(hF:Fits F w)(hs:ZJ s=true)(hl:s.length<=18):Qf prog 191 [tx s] w F (.int .i64 (Jc s)):=by
 refine QU.intro (G:=λ_=>True) func191 rfl tH rfl rfl hF tL<|wa<|wZ rfl<|wa<|wZ rfl<|QG<|wa<|wZ rfl<|QV<|YB (ι:=Uv s.length λ_=>True) (λi=>[(0,tx s),(3,.int .i64 (Jc (s.take i.i))),(4,.int .i64 i.i)]) (λ_=>[]) (λ_ _=>True) (λi=>s.length-i.i) ⟨0,aE _,trivial⟩ wu we tL λi=>?_
 have hle:=i.le;have hlt:=Hb (MZ hs i.i);have hp18:(10:Nat)^(s.take i.i).length<=10^18:=aS tF tK;refine wA 5 I<|QA (Xc I Zm)<|wD 3 I ?_
 refine QQ I (λhc=>?_) λhc=>?_
 ·have hi:i.i<s.length:=by simp at hc;omega
  have hd:=QHu hi hs;have hp17:(10:Nat)^(s.take i.i).length<=10^17:=aS tF tK;refine wC 6 I<|QA (Mx I I O)<|wB 2 I<|QA (Hh I I Zm (hi))<|QA (QDV I QIs k_3 O)<|QA (Qu I I O)<|QA (X3 I I O)<|wB 2 I<|Qj<|wE 3 I<|QA (Qu I I O)<|wB 2 I ?_
  exact Ql (⟨i.i+1,O,trivial⟩:Uv s.length λ_=>True) (by show s.length-(i.i+1)<s.length-i.i;omega) ⟨rfl,(by show some (ab .i64 _)=some (ab .i64 _);rw[jJ hi];congr 2;omega),rfl,trivial⟩ we tL
 refine Qx ?_
 repeat first|refine QY ?_|refine QO tH ?_
 refine QZ<|wE 8 I ?_
 exact QP () I (wT I) (congrArg (ab .i64) (by rw[ak (by simp at hc;omega)])) tL
structure QIZ(a b:Nat) where
 x:Nat
 y:Nat
 h:ba x y=ba a b
 hx:x<=9223372036854775807
 hy:y<=9223372036854775807
theorem QHQ{a b:Nat}(hF:Fits F w)(ha:a<=9223372036854775807)(hb:b<=9223372036854775807):Qf prog 103 [.int .i64 (a:Int),.int .i64 (b:Int)] w F (.int .i64 (ba a b:Nat)):=by
 refine QU.intro (G:=λ_=>True) func103 rfl tH rfl rfl hF tL<|wa<|wZ rfl<|QG<|QV<|YB (ι:=QIZ a b) (λi=>[(0,.int .i64 (i.x:Int)),(1,.int .i64 (i.y:Int))]) (λ_=>[]) (λ_ _=>True) (λi=>i.y) ⟨a,b,rfl,ha,hb⟩ wm we tL λi=>?_
 have hx:=i.hx;have hy:=i.hy;refine wA 7 I ?_;refine QQ I (λhc=>?_) λhc=>?_
 ·have hpos:0<i.y:=by simp at hc;omega
  refine wC 3 I<|JG we mixed tE<|QK (QD I)<|QK (QD I)<|QK (QD I)<|QK (H9 I I O O)<|QK (QF I)<|QK (QF I)<|Q7<|Qj ?_
  exact Ql (⟨i.y,i.x%i.y,by rw[<-i.h,fj i.x,Nat.gcd_rec i.y i.x,fj],hy,tD<|eH i.x hpos⟩:QIZ a b) (eH i.x hpos) wm we tL
 refine Qx ?_
 repeat first|refine QY ?_|refine QO tH ?_
 refine QZ<|wE 8 I ?_
 exact QP () I (wT I) (congrArg (λn:Nat=>ab .i64 (n:Int)) (by have h0:i.y=0:=(by simp at hc;omega);rw[<-i.h,h0,Nat.gcd_zero_right])) tL
def qW(n least:Nat):List UInt8:=Hq least (hd n)
def QDA(h:0<n):hd n=hd (n/10)++[bS (48+n%10)]:=by
 unfold hd;rw[if_neg O];by_cases h0:n/10=0
 ·rw[if_pos h0,au,dif_pos O,Nat.mod_eq_of_lt O];rfl
 rw[if_neg h0,fw n,dif_neg O]
def QB8(h:n<=9223372036854775807):(hd n).length<=20:=by
 unfold hd;split
 ·simp
 rw[aY];exact Ke O tF
structure QEC(n least:Nat) where
 m:Nat
 t:List UInt8
 le:m<=n
 h:Hq (least-t.length) (hd m)++t=qW n least
 tl:t.length+(hd m).length<=least+20
def QEV{d:Nat}(h:d<10):(([48,49,50,51,52,53,54,55,56,57]:List UInt8).take (d+1)).drop d=[bS (48+d)]:=by
 match d,h with
 |0,_=>rfl
 |1,_=>rfl
 |2,_=>rfl
 |3,_=>rfl
 |4,_=>rfl
 |5,_=>rfl
 |6,_=>rfl
 |7,_=>rfl
 |8,_=>rfl
 |9,_=>rfl
def QFU{least:Nat}{t:List UInt8}(h:0<n\/t.length<least):Hq (least-(bS (48+n%10)::t).length) (hd (n/10))++(bS (48+n%10)::t)=Hq (least-t.length) (hd n)++t:=by
 rcases aA n with h0 | h0
 ·subst h0;have hlt:t.length<least:=O;have e:least-t.length=(least-(t.length+1))+1:=O;simp only[hd,Hq,aH,if_true,bP,Nat.sub_zero,eZ,Nat.zero_div,Nat.zero_mod];rw[e,Gh,Gh,List.replicate_succ',List.append_assoc];rfl
 rw[QDA h0];unfold Hq;simp only[ay,aH,bP];rw[show least-(t.length+1)-(hd (n/10)).length=least-t.length-((hd (n/10)).length+(0+1)) by omega];simp
def QEC.next{n least:Nat}(i:QEC n least)(h:0<i.m\/i.t.length<least):QEC n least :=
 ⟨i.m/10,bS (48+i.m%10)::i.t,tD i.le,by rw[QFU h];exact i.h,by
  have:=i.tl;rcases aA i.m with h0 | h0
  ·have e:hd (i.m/10)=[]:=by rw[h0];rfl
   rw[e];have e2:hd i.m=[]:=by rw[h0];rfl
   rw[e2]at this;simp at this ⊢;omega
  have e:=congrArg er (QDA h0);simp at e ⊢;omega⟩
theorem QBA{n least:Nat}(hF:Fits F w)(hn:n<=9223372036854775807)(hl:least<=1000):Qf prog 104 [.int .i64 (n:Int),.int .i64 (least:Int)] w F (tx (qW n least)):=by
 refine QU.intro (G:=λ_=>True) func104 rfl tH rfl rfl hF tL<|wa<|wZ rfl<|wa<|wZ rfl<|QG<|QV<|YB (ι:=QEC n least) (λi=>[(0,.int .i64 (i.m:Int)),(1,.int .i64 (least:Int)),(5,tx i.t)]) (λ_=>[]) (λ_ _=>True) (λi=>i.m+(least-i.t.length)) ⟨n,[],aq _,by unfold qW;simp,by have:=QB8 hn;simp;omega⟩ wu we tL λi=>?_
 have hle:=i.le;have htl:=i.tl;refine wA 6 I ?_;refine Qn (t:=8) rfl (λhb8=>?_) λhb8=>?_
 ·refine wD 7 I<|SG I<|wC 6 I<|QA (H9 I I O O)<|wW I<|QA (H9 I I O O)<|QA (Qu I I O)<|QA (RA (i.m%10) (i.m%10+1) rfl rfl rfl Zm (.inr rfl) (.inr rfl) O (by show i.m%10+1<=10;omega)) ?_
  rw[QEV (eH _ tF)];refine wW I<|QA (Yf I I tK)<|wD 5 I<|QA (SO I I O O O)<|wB 2 I<|Qj ?_
  exact Ql (QEC.next i (Or.inl (tD<|wi hb8):0<i.m\/i.t.length<least)) (by show i.m/10+(least-(i.t.length+1))<i.m+(least-i.t.length);rcases(Or.inl (tD<|wi hb8):0<i.m\/i.t.length<least)with g | g<;>omega) wu we tL
 refine wB 3 I<|QA (Xc I Zm)<|wD 7 I ?_
 refine QQ I (λhc=>?_) λhc=>?_
 ·refine wC 6 I<|QA (H9 I I O O)<|wW I<|QA (H9 I I O O)<|QA (Qu I I O)<|QA (RA (i.m%10) (i.m%10+1) rfl rfl rfl Zm (.inr rfl) (.inr rfl) O (by show i.m%10+1<=10;omega)) ?_
  rw[QEV (eH _ tF)];refine wW I<|QA (Yf I I tK)<|wD 5 I<|QA (SO I I O O O)<|wB 2 I<|Qj ?_
  exact Ql (QEC.next i (Or.inr (tD<|wi hc):0<i.m\/i.t.length<least)) (by show i.m/10+(least-(i.t.length+1))<i.m+(least-i.t.length);rcases(Or.inr (tD<|wi hc):0<i.m\/i.t.length<least)with g | g<;>omega) wu we tL
 refine Qx ?_
 repeat first|refine QY ?_|refine QO tH ?_
 refine QZ<|wE 8 I ?_
 exact QP () I (wT I) (congrArg tx (by have h1:=wj hb8;have h2:=wj hc;have h0:i.m=0:=O;rw[<-i.h,h0];simp[hd,Hq,show least-i.t.length=0 by omega,Lib.repeatL])) tL
theorem Qy.take{q:Option Addr}(h:Qy F q n 1 (l.map Jo))(hl:l.length=n)(hk:k<=n):Qy F q k 1 ((l.take k).map Jo):=by
 refine⟨tK,λh0=>?_⟩;obtain⟨b,off,arr,T,e1,e2,e3⟩:=h.2 O;refine⟨b,off,arr,T,e1,e2,λj u hu=>e3 j u ?_⟩;rw[List.map_take]at hu;have hj:j<k:=by
  rcases aN j k with g | g
  ·exact g
  rw[eP tK]at hu;cases hu
 rw[List.getElem?_take_of_lt hj]at hu;exact hu
def QAk(hk:k<l.length)(h:Jf l=Jf (l.take (k+1)))(h0:l[k]=0):Jf l=Jf (l.take k):=by
 rw[h,aQ hk,h0,Kv]
def QAj(hk:k<l.length)(h:Jf l=Jf (l.take (k+1)))(h0:l[k]≠0):Jf l=l.take (k+1):=by
 rw[h,aQ hk,Hx _ h0]
structure QG5(l:List Int) where
 k:Nat
 le:k<=l.length
 h:Jf l=Jf (l.take k)
theorem Tx{r:Sr}(hF:Fits F w)(hR:J8 F r l)(hl:l.length<=1000000000):QU prog 271 [r.v] w F (λ(_:Unit)=>.slice r.q (Jf l).length r.cap) (λ_ F=>J8 F ⟨r.q,(Jf l).length,r.cap⟩ (Jf l)):=by
 obtain⟨q,n,c⟩:=r;have hn:=hR.2.1;have hcap:=hR.2.2;dsimp only at hn hcap;refine QU.intro (G:=λF=>J8 F ⟨q,n,c⟩ l) func271 rfl tH rfl rfl hF (λF' hF'=>hR.le hF')<|wa<|wZ rfl<|QG<|QV<|YB (ι:=QG5 l) (λi=>[(0,.slice q i.k c)]) (λ_=>[]) (λ_ F=>J8 F ⟨q,n,c⟩ l) (λi=>i.k) ⟨n,O,by rw[<-hn,aG]⟩ wk we tM λi=>?_
 have hle:=i.le;refine wA 4 I<|QA (Qg I Q2)<|wB 2 I ?_
 refine Qn (t:=6) rfl (λhb6=>?_) λhb6=>?_
 ·have hk0:0<i.k:=tD<|wi hb6
  have hk1:i.k-1<l.length:=O;refine JQ _ (λ_ _ f h=>h.1.ptr (by dsimp only;omega)) (λhq=>?_);obtain⟨qb,qo,hq⟩:=hq;dsimp only at hq;subst hq;refine wB 5 I<|QA (Qg I Q2)<|QL I I<|QA (X3 I I O)<|QL I I<|QA (JL (i:=i.k-1) rfl wS Q2 JK O)<|QL I I<|QA (Yn (n:=n) (sz:=1) (cs:=l.map Jo) (u:=.int .i64 l[i.k-1]) I JK tN O (by simp[hk1,Jo]))<|wD 5 I ?_
  refine QQ I (λhc=>?_) λhc=>?_
  ·refine wC 6 I<|QA (Qg I Q2)<|QA (X3 I I O)<|QA (NV (i.k-1) rfl rfl wS Q2 JK O)<|wB 2 I<|Qj ?_
   exact Ql (⟨i.k-1,O,QAk hk1 (by rw[show i.k-1+1=i.k by omega];exact i.h) (by simpa using hc)⟩:QG5 l) (by show i.k-1<i.k;omega) wk we tM
  refine Qx ?_
  repeat first|refine QY ?_|refine QO tH ?_
  refine QZ<|wE 8 I ?_
  exact QP () I (wT I) (congrArg (λk:Nat=>fh _ k c) (by have e:=QAj hk1 (by rw[show i.k-1+1=i.k by omega];exact i.h) (by simpa using hc);rw[show i.k-1+1=i.k by omega]at e;rw[e];simp;omega)) λF h=>by have hz:(Jf l).length<=l.length:=Vk l;exact⟨(by have:=h.1.take hn (show(Jf l).length<=n by omega);rw[<-Pp]at this;exact this),rfl,(by show(Jf l).length<=c;omega)⟩
 refine wD 10 I<|Yj I<|Qx ?_
 repeat first|refine QY ?_|refine QO tH ?_
 refine QZ<|wE 8 I ?_
 exact QP () I (wT I) (congrArg (λk:Nat=>fh _ k c) (by have h0:i.k=0:=(tD<|wj hb6);have e:=i.h;rw[h0]at e;simp[IV]at e;rw[e,h0];rfl)) λF h=>by have hz:(Jf l).length<=l.length:=Vk l;exact⟨(by have:=h.1.take hn (show(Jf l).length<=n by omega);rw[<-Pp]at this;exact this),rfl,(by show(Jf l).length<=c;omega)⟩
theorem xV{r:Sr}{i:Nat}(hF:Fits F w)(hR:J8 F r l)(hi:i<=1000000000):Qf prog 299 [r.v,.int .i64 (i:Int)] w F (.int .i64 (l.getD i 0)):=by
 obtain⟨q,n,c⟩:=r;have hn:=hR.2.1;dsimp only at hn;refine QU.intro (G:=λF=>J8 F ⟨q,n,c⟩ l) func299 rfl tH rfl rfl hF (λF' hF'=>hR.le hF') ?_;dsimp only[Sr.v];refine wA 10 I<|QA (Qg I Q2)<|wD 3 I ?_
 refine QQ I (λhc=>?_) λhc=>?_
 ·have hk1:i<l.length:=tD<|wi hc
  refine XV _ (λ_ _ f h=>h.1.ptr (by dsimp only;omega)) (λhq=>?_);obtain⟨qb,qo,hq⟩:=hq;dsimp only at hq;subst hq;refine wA 4 I<|QA (JL (i:=i) rfl rfl Q2 JK O)<|QA (Yn (n:=n) (sz:=1) (cs:=l.map Jo) (u:=.int .i64 l[i]) I JK tN O (by simp[hk1,Jo]))<|wD 4 I ?_
  exact QP () I (wT I) (congrArg (ab .i64) (by simp[hk1])) tL
 refine wC 8 I ?_;exact QP () I (wT I) (congrArg (ab .i64) (by have:=wj hc;simp[show l.length<=i by omega])) tL
structure QIc(a b:List Int) where
 i:Nat
 out:List Int
 carry:Int
 v:Value
 ob:List (Nat×Obj)
 le:i<=max a.length b.length+1
 len:out.length=i
 dg:DG B9 out
 c0:0<=carry
 c1:carry<=1
 cz:max a.length b.length<i->carry=0
 h:dv B9 out+B9^i*carry=dv B9 (a.take i)+dv B9 (b.take i)
 hr:Q8 3 1 v out.length (out.map Jo) ob
def N7(B:Int)(l:List Int)(n:Nat):dv B (l.take (n+1))=dv B (l.take n)+B^n*l.getD n 0:=by
 rcases aN n l.length with h | h
 ·rw[Bo B l n h];simp[h]
 rw[ak O,ak h];simp[h]
def jZ(h:DG B9 l)(i:Nat):0<=l.getD i 0/\l.getD i 0<1000000000:=h.getD tF i
def vY(h:l.length<=i):l.getD i 0=0:=by simp[h]
def QIT{s:Int}(hl:out.length=i)(h:dv B9 out+B9^i*c=dv B9 (a.take i)+dv B9 (b.take i))(hs:s=a.getD i 0+b.getD i 0+c):
  dv B9 (out++[s%B9])+B9^(i+1)*(s/B9)=dv B9 (a.take (i+1))+dv B9 (b.take (i+1)):=by
 rw[X9,hl,N7,N7,aO,bM];have e:s%B9+B9*(s/B9)=s:=bz s B9;have e2:B9^i*(s%B9)+B9^i*(B9*(s/B9))=B9^i*s:=by rw[<-bD,e]
 rw[ff,e2,hs,bD,bD];omega
abbrev jB(P:Program)(f:FuncId)(args:List Value)(w:World)(F:Gs)(p:List Int->Prop):Prop:=QU P f args w F (λ(c:Sr×List Int)=>.slice c.1.q c.1.n c.1.cap) λc F=>J8 F c.1 c.2/\DG B9 c.2/\p c.2
theorem gh(hF:Fits F w)(hA:J8 F ra a)(hB:J8 F rb b)(da:DG B9 a)(db:DG B9 b)(la:a.length<=100000000)(lb:b.length<=100000000):
  jB prog 239 [ra.v,rb.v] w F (λl=>dv B9 l=dv B9 a+dv B9 b/\l.length<=max a.length b.length+1):=by
 have na:=hA.2.1;have nb:=hB.2.1;have h9:B9=1000000000:=rfl;refine QU.intro (G:=λF=>J8 F ra a/\J8 F rb b) func239 rfl tH rfl rfl hF (λF' hF'=>⟨hA.le hF',hB.le hF'⟩)<|wa<|wZ rfl<|wa<|wZ rfl<|wa<|wZ rfl<|QG<|wa<|wZ rfl<|QV ?_
 refine YB (ι:=QIc a b) (λi=>[(0,ra.v),(1,rb.v),(5,i.v),(6,.int .i64 i.carry),(7,.int .i64 (i.i:Int))]) (λi=>i.ob) (λ_ F=>J8 F ra a/\J8 F rb b) (λi=>max a.length b.length+1-i.i)
  ⟨0,[],0,.slice none 0 0,[],aE _,rfl,DG.nil _,tF,tF,λ_=>rfl,tJ,.nil⟩ wy tQ tM λi=>?_
 have hle:=i.le;have hlen:=i.len;have hc0:=i.c0;have hc1:=i.c1;refine QG ?_;refine Ew 22 (.bool (decide ((i.i:Int)<ra.n)||decide ((i.i:Int)<rb.n)||decide (i.carry>0))) ?_ ?_
 ·refine wA 3 I<|QA (Qg I Q2)<|wB 2 I ?_
  refine Qn (t:=13) rfl (λhb13=>?_) λhb13=>?_
  ·refine wB 10 I ?_;exact ZU (exd 15 rfl rfl) (congrArg (λb=>some (ag b)) (by rw[aD];simp_all;try omega)) we tM
  refine wB 5 I<|QA (Qg I Q2)<|wB 4 I ?_
  refine Qn (t:=19) rfl (λhb19=>?_) λhb19=>?_
  ·refine wB 4 I ?_;exact ZU (exd 16 rfl rfl) (congrArg (λb=>some (ag b)) (by rw[aD];simp_all;try omega)) we tM
  refine wB 6 I ?_;exact ZU (exd 16 rfl rfl) (congrArg (λb=>some (ag b)) (by rw[aD];simp_all;try omega)) we tM
 refine QQ I (λhc=>?_) λhc=>?_
 ·have hi:i.i<=max a.length b.length:=by
   rcases aN (max a.length b.length) i.i with g | g
   ·have:=i.cz g;simp at hc;omega
   exact g
  have b1:=jZ da i.i;have b2:=jZ db i.i;refine wC 8 I<|QI I (λ_ _ f k=>xV (r:=ra) (l:=a) f k.1 O) λ_=>wB 2 I<|QI I (λ_ _ f k=>xV (r:=rb) (l:=b) f k.1.2 O) λ_=>QA (Qu I I O)<|wW I<|QA (Qu I I O)<|wD 7 I<|QA (H9 I I O O)<|Qb I (Q5 Q2) JK R4 I I λb37=>?_
  refine Z4 (bs1:=[]) (ob:=i.ob) (k:=1) (sz:=1) (news:=[.int .i64 ((a.getD i.i 0+b.getD i.i 0+i.carry)%1000000000)]) I I Q2 JK R4 I F6 i.hr (Src.row (off:=0) tO (λj v hv=>by rw[aR];show([ab .i64 ((a.getD i.i 0+b.getD i.i 0+i.carry)%1000000000)].toArray)[j]?=some v;rw[aC];exact hv) rfl) O O (λu hu=>by rw[List.mem_singleton.1 hu];rfl) (λv' ob' hr'=>?_);refine wD 5 I<|QA (SO I I O O O)<|wB 2 I<|Qj<|wE 3 I<|QA (Qu I I O)<|wB 2 I ?_
  exact Ql (⟨i.i+1,i.out++[(a.getD i.i 0+b.getD i.i 0+i.carry)%B9],(a.getD i.i 0+b.getD i.i 0+i.carry)/B9,v',ob',O,by simp[hlen],i.dg.append (DG.cons (by rw[h9];omega) (by rw[h9];omega) (DG.nil _)),by rw[h9];omega,by rw[h9];omega,λg=>by rw[vY (l:=a) O,vY (l:=b) O,h9];omega,QIT hlen i.h I,by simpa[Jo,h9]using hr'⟩:QIc a b) (by show max a.length b.length+1-(i.i+1)<max a.length b.length+1-i.i;omega) wy we λF h=>h.1.1.1
 refine Qx ?_
 repeat first|refine QY ?_|refine QO tH ?_
 refine QZ<|wE 8 I ?_
 obtain⟨r,hv,hrn,hrc,hfix⟩:=Q8.fix (w0:=w) (F0:=F) (bs1:=[]) (G:=λF=>J8 F ra a/\J8 F rb b) i.hr;refine QDI hfix ?_;have hex:max a.length b.length<=i.i/\i.carry=0:=by simp at hc;omega
 exact QP ((r,i.out):Sr×List Int) rfl (wT I) hv.symm λF h=>⟨⟨by rw[hrn];exact h.2,hrn.symm,by show r.n<=r.cap;omega⟩,i.dg,by have e:=i.h;rw[hex.2,ak O,ak O]at e;simpa using e,by show i.out.length<=_;omega⟩
structure QIb(a b:List Int) where
 k:Nat
 le:k<=a.length
 h:a.drop k=b.drop k
def QD0(ha:k<a.length)(hb:k<b.length)(h:a.drop (k+1)=b.drop (k+1))(e:a[k]=b[k]):a.drop k=b.drop k:=by
 rw[aP ha,aP hb,h,e]
theorem Su(hF:Fits F w)(hA:J8 F ra a)(hB:J8 F rb b)(da:DG B9 a)(db:DG B9 b)(za:NZ a)(zb:NZ b)(la:a.length<=100000000)(lb:b.length<=100000000):
  Qf prog 240 [ra.v,rb.v] w F (.int .i64 (YF (dv B9 a) (dv B9 b))):=by
 have h91:(1:Int)<B9:=tF;have h90:(0:Int)<B9:=tF;obtain⟨q,n,c⟩:=ra;obtain⟨q',n',c'⟩:=rb;have na:=hA.2.1;have nb:=hB.2.1;dsimp only at na nb;refine QU.intro (G:=λF=>J8 F ⟨q,n,c⟩ a/\J8 F ⟨q',n',c'⟩ b) func240 rfl tH rfl rfl hF (λF' hF'=>⟨hA.le hF',hB.le hF'⟩) ?_;dsimp only[Sr.v];refine wA 9 I<|QA (Qg I Q2)<|wW I<|QA (Qg I Q2)<|wD 3 I ?_
 refine QQ I (λhc=>?_) λhc=>?_
 ·refine wA 4 I<|QA (Qg I Q2)<|wW I<|QA (Qg I Q2)<|wD 3 I ?_
  refine QQ I (λhc=>?_) λhc2=>?_
  ·refine wA 6 I ?_;exact QP () I (wT I) (congrArg (ab .i64) (G7 (ZQ h91 da db zb (by simp at hc;omega)))) tL
  refine wC 8 I ?_;exact QP () I (wT I) (congrArg (ab .i64) (Em (ZQ h91 db da za (by simp at hc hc2;omega)))) tL
 refine wC 6 I<|QA (Qg I Q2)<|QA (X3 I I O)<|wD 3 I ?_
 have hab:n=n':=by simp at hc;omega
 refine QV<|YB (ι:=QIb a b) (λi=>[(0,.slice q n c),(1,.slice q' n' c'),(5,.int .i64 ((i.k:Int)-1))]) (λ_=>[]) (λ_ F=>J8 F ⟨q,n,c⟩ a/\J8 F ⟨q',n',c'⟩ b) (λi=>i.k) ⟨n,O,by rw[bw O,bw O]⟩ wu we tM λi=>?_
 have hle:=i.le;refine wA 7 I ?_;refine QQ I (λhc=>?_) λhc=>?_
 ·refine wC 6 I ?_;have hk0:0<i.k:=tD<|wi hc
  have hka:i.k-1<a.length:=O;have hkb:i.k-1<b.length:=O;refine XV _ (λ_ _ f h=>h.1.1.ptr (by dsimp only;omega)) (λhq=>?_);obtain⟨qb,qo,hq⟩:=hq;dsimp only at hq;subst hq;refine XV _ (λ_ _ f h=>h.2.1.ptr (by dsimp only;omega)) (λhq=>?_);obtain⟨qb',qo',hq⟩:=hq;dsimp only at hq;subst hq;refine JG we mixed tE<|QK (QD I)<|QK (QD I)<|QK (JL (i:=i.k-1) rfl wS Q2 JK O)<|QK (Yn (n:=n) (sz:=1) (cs:=a.map Jo) (u:=.int .i64 a[i.k-1]) I JK (λF h=>h.1.1) O (by simp[hka,Jo]))<|QK (QD I)<|QK (QD I)<|QK (JL (i:=i.k-1) rfl wS Q2 JK O)<|QK (Yn (n:=n') (sz:=1) (cs:=b.map Jo) (u:=.int .i64 b[i.k-1]) I JK (λF h=>h.2.1) O (by simp[hkb,Jo]))<|QK (QT I I I)<|Q7<|QC ?_
  refine QQ I (λhc=>?_) λhca=>?_
  ·refine wA 6 I ?_
   repeat first|refine Q6 ?_|refine Qv ?_
   exact QP () I (wT I) (congrArg (ab .i64) (G7 (L8 h90 da db O (i.k-1) hka (by rw[show i.k-1+1=i.k by omega];exact i.h) (wi hc)))) tL
  refine wC 3 I<|JG we mixed tE<|QK (QD I)<|QK (QD I)<|QK (JL (i:=i.k-1) rfl wS Q2 JK O)<|QK (Yn (n:=n) (sz:=1) (cs:=a.map Jo) (u:=.int .i64 a[i.k-1]) I JK (λF h=>h.1.1) O (by simp[hka,Jo]))<|QK (QD I)<|QK (QD I)<|QK (JL (i:=i.k-1) rfl wS Q2 JK O)<|QK (Yn (n:=n') (sz:=1) (cs:=b.map Jo) (u:=.int .i64 b[i.k-1]) I JK (λF h=>h.2.1) O (by simp[hkb,Jo]))<|QK (QT I I I)<|Q7<|QC ?_
  refine QQ I (λhc=>?_) λhcb=>?_
  ·refine wA 6 I ?_
   repeat first|refine Q6 ?_|refine Qv ?_
   exact QP () I (wT I) (congrArg (ab .i64) (Em (L8 h90 db da O (i.k-1) hkb (by rw[show i.k-1+1=i.k by omega];exact i.h.symm) (wi hc)))) tL
  refine QN<|Qj<|wE 3 I<|QA (X3 I I O)<|wB 2 I ?_
  exact Ql (⟨i.k-1,O,QD0 hka hkb (by rw[show i.k-1+1=i.k by omega];exact i.h) (by simp at hca hcb;omega)⟩:QIb a b) (by show i.k-1<i.k;omega) ⟨rfl,rfl,congrArg (λz:Int=>some (ab .i64 z)) (by dsimp only;omega),trivial⟩ we tM
 refine Qx ?_
 repeat first|refine QY ?_|refine QO tH ?_
 refine QZ<|wE 7 I ?_
 exact QP () I (wT I) (congrArg (ab .i64) (by have h0:i.k=0:=(tD<|wj hc);have e:=i.h;rw[h0]at e;simp at e;rw[e];exact SE _)) tL
def QGz{c' d:Int}(hl:out.length=i)(h:dv B9 out+dv B9 (b.take i)=dv B9 (a.take i)+B9^i*c)(hd:d=a.getD i 0-b.getD i 0-c+B9*c'):
  dv B9 (out++[d])+dv B9 (b.take (i+1))=dv B9 (a.take (i+1))+B9^(i+1)*c':=by
 rw[X9,hl,N7,N7,aO,bM,hd,bD,bC,bC];omega
structure QHy(a b:List Int) where
 i:Nat
 out:List Int
 borrow:Int
 v:Value
 ob:List (Nat×Obj)
 le:i<=a.length
 len:out.length=i
 dg:DG B9 out
 c0:0<=borrow
 c1:borrow<=1
 h:dv B9 out+dv B9 (b.take i)=dv B9 (a.take i)+B9^i*borrow
 hr:Q8 3 1 v out.length (out.map Jo) ob
def QGB(da:DG B9 out)(hl:out.length=a.length)(hb:b.length<=a.length)(h:dv B9 out+dv B9 (b.take a.length)=dv B9 (a.take a.length)+B9^a.length*c)(h0:0<=c)(h1:c<=1)(hle:dv B9 b<=dv B9 a):dv B9 out=dv B9 a-dv B9 b:=by
 rw[aG,ak hb]at h;have hlt:=Kl (b:=B9) tF da;rw[hl]at hlt;have hc:c=0\/c=1:=O;rcases hc with rfl | rfl
 ·rw[ep]at h;omega
 rw[eB]at h;omega
theorem Om(hF:Fits F w)(hA:J8 F ra a)(hB:J8 F rb b)(da:DG B9 a)(db:DG B9 b)(la:a.length<=100000000)(lb:b.length<=a.length)(hle:dv B9 b<=dv B9 a):
  jB prog 241 [ra.v,rb.v] w F (λl=>dv B9 l=dv B9 a-dv B9 b/\NZ l/\l.length<=a.length):=by
 obtain⟨q,n,c⟩:=ra;have na:=hA.2.1;have nb:=hB.2.1;dsimp only at na;have h9:B9=1000000000:=rfl;refine QU.intro (G:=λF=>J8 F ⟨q,n,c⟩ a/\J8 F rb b) func241 rfl tH rfl rfl hF (λF' hF'=>⟨hA.le hF',hB.le hF'⟩) ?_;dsimp only[Sr.v];refine wA 22 I ?_;refine YB (ι:=QHy a b) (λi=>[(0,.slice q n c),(1,.slice rb.q rb.n rb.cap),(5,i.v),(6,.int .i64 i.borrow),(7,.int .i64 (i.i:Int))]) (λi=>i.ob) (λ_ F=>J8 F ⟨q,n,c⟩ a/\J8 F rb b) (λi=>a.length-i.i)
  ⟨0,[],0,.slice none 0 0,[],aE _,rfl,DG.nil _,tF,tF,tJ,.nil⟩ wy tQ tM λi=>?_
 have hile:=i.le;have hlen:=i.len;have hc0:=i.c0;have hc1:=i.c1;refine wA 5 I<|QA (Qg I Q2)<|wD 3 I ?_
 refine QQ I (λhc=>?_) λhc=>?_
 ·have hi:i.i<n:=tD<|wi hc
  have hia:i.i<a.length:=O;have b1:=jZ da i.i;have b2:=jZ db i.i;have e1:a[i.i]=a.getD i.i 0:=by simp[hia]
  refine XV _ (λ_ _ f h=>h.1.1.ptr (by dsimp only;omega)) (λhq=>?_);obtain⟨qb,qo,hq⟩:=hq;dsimp only at hq;subst hq;refine wC 5 I<|JG we mixed tE<|QK (QD I)<|QK (QD I)<|QK (JL (i:=i.i) rfl rfl Q2 JK O)<|QK (Yn (n:=n) (sz:=1) (cs:=a.map Jo) (u:=.int .i64 (a.getD i.i 0)) I JK (λF h=>h.1.1) O (by simp[hia,Jo]))<|QK (QD I)<|QK (QD I)<|QR I (λ_ _ f k=>xV (r:=rb) (l:=b) f k.2 O) λ_=>QK (X3 I I O)<|QK (QD I)<|QK (X3 I I O)<|QK (QF I)<|Q7<|wE 7 I ?_
  refine wA 6 I ?_;refine QQ I (λhs=>?_) λhs=>?_
  ·refine wb I<|QA (Qu I I O)<|wD 4 I<|wD 6 I<|Qb I (Q5 Q2) JK R4 I I λb31=>?_
   refine Z4 (bs1:=[]) (ob:=i.ob) (k:=1) (sz:=1) (news:=[.int .i64 ((a.getD i.i 0-b.getD i.i 0-i.borrow)+1000000000)]) I I Q2 JK R4 I F6 i.hr (Src.row (off:=0) tO (λj v hv=>by rw[aR];show([ab .i64 ((a.getD i.i 0-b.getD i.i 0-i.borrow)+1000000000)].toArray)[j]?=some v;rw[aC];exact hv) rfl) O O (λu hu=>by rw[List.mem_singleton.1 hu];rfl) (λv' ob' hr'=>?_);refine wB 2 I<|Qj<|wE 3 I<|QA (Qu I I O)<|wB 2 I ?_
   exact Ql (⟨i.i+1,i.out++[((a.getD i.i 0-b.getD i.i 0-i.borrow)+1000000000)],1,v',ob',O,by simp[hlen],i.dg.append (DG.cons (tD<|wi hs) (by have:=wi hs;rw[h9];omega) (DG.nil _)),tF,tF,QGz hlen i.h (by rw[h9];omega),by simpa[Jo]using hr'⟩:QHy a b) (by show a.length-(i.i+1)<a.length-i.i;omega) wy we λF h=>h.1.1
  refine wC 5 I<|Qb I (Q5 Q2) JK R4 I I λb31=>?_
  refine Z4 (bs1:=[]) (ob:=i.ob) (k:=1) (sz:=1) (news:=[.int .i64 (a.getD i.i 0-b.getD i.i 0-i.borrow)]) I I Q2 JK R4 I F6 i.hr (Src.row (off:=0) tO (λj v hv=>by rw[aR];show([ab .i64 (a.getD i.i 0-b.getD i.i 0-i.borrow)].toArray)[j]?=some v;rw[aC];exact hv) rfl) O O (λu hu=>by rw[List.mem_singleton.1 hu];rfl) (λv' ob' hr'=>?_);refine wB 2 I<|Qj<|wE 3 I<|QA (Qu I I O)<|wB 2 I ?_
  exact Ql (⟨i.i+1,i.out++[(a.getD i.i 0-b.getD i.i 0-i.borrow)],0,v',ob',O,by simp[hlen],i.dg.append (DG.cons (tD<|wj hs) (by have:=wj hs;rw[h9];omega) (DG.nil _)),tF,tF,QGz hlen i.h (by rw[h9];omega),by simpa[Jo]using hr'⟩:QHy a b) (by show a.length-(i.i+1)<a.length-i.i;omega) wy we λF h=>h.1.1
 refine Qx ?_
 repeat first|refine QY ?_|refine QO tH ?_
 refine QZ<|QC<|QG ?_
 obtain⟨r,hv,hrn,hrc,hfix⟩:=Q8.fix (w0:=w) (F0:=F) (bs1:=[]) (G:=λF=>J8 F ⟨q,n,c⟩ a/\J8 F rb b) i.hr;have hex:i.i=a.length:=tD<|wj hc
 have hlz:=Vk i.out;refine jH hfix ?_;rw[hv];refine wA 2 I<|QI I (λ_ _ f k=>Tx (r:=r) (l:=i.out) f ⟨by rw[hrn];exact k.2,hrn.symm,O⟩ O) λc34=>wD 4 I ?_
 exact QP ((⟨r.q,(Jf i.out).length,r.cap⟩,Jf i.out):Sr×List Int) rfl (wT I) rfl λF h=>⟨h.2,i.dg.Jf,by show dv B9 (Jf i.out)=_;rw[ZH];exact QGB i.dg O lb (by have e:=i.h;rw[hex]at e;exact e) hc0 hc1 hle,Zu _,by show(Jf i.out).length<=_;omega⟩
def IH(la lb:List Int)(i j:Nat)(x:Int)(o:List Int)(c:Int):Prop :=
 o.length=la.length+lb.length/\DG B9 o/\(∀p,i+lb.length<=p->Qm o p=0)/\(0<=c/\c<B9) /\
  dv B9 o+B9^(i+j)*c=dv B9 (la.take i)*dv B9 lb+B9^i*(x*dv B9 (lb.take j))
def XY:(0:Int)<B9:=tF
def QC5{x y o:Int}(hx:0<=x/\x<B9)(hy:0<=y/\y<B9)(ho:0<=o/\o<B9)(hc:0<=c/\c<B9):0<=x*y/\x*y<=999999998000000001/\0<=o+x*y+c/\(o+x*y+c)/B9<B9:=by
 have h9:B9=1000000000:=rfl;have h0:=bH hx.1 hy.1;have h1:x*y<=(B9-1)*(B9-1):=bI O O hy.1 O;generalize x*y=m at *
 have q:=h9 ▸ hx.2;generalize hB:B9=B at *
 subst h9;omega
theorem IH.step{la lb:List Int}{j:Nat}{x s:Int}(h:IH la lb i j x o c)(hx:0<=x/\x<B9)(hb:DG B9 lb)(hj:j<lb.length)(hi:i<la.length)(hs:s=Qm o (i+j)+x*Qm lb j+c):
  IH la lb i (j+1) x (o.set (i+j) (s%B9)) (s/B9):=by
 obtain⟨h1,h2,h3,h4,h5⟩:=h;obtain⟨m0,m1,m2,m3⟩:=QC5 hx (hb.Qm XY j) (h2.Qm XY (i+j)) h4;rw[<-hs]at m2 m3;refine⟨by simpa using h1,h2.set _ (bR _ tF) (bJ _ XY),?_,⟨bh m2 tF,m3⟩,?_⟩
 ·intro p hp;rw[Br O,if_neg O];exact h3 p hp
 rw[Rk B9 O,Hk,<-bL,aO];have e0:s%B9+B9*(s/B9)=s:=bz s B9;generalize s%B9=lo at *
 generalize s/B9=hi at *
 have e:B9^(i+j)*(lo+B9*hi)=B9^(i+j)*(Qm o (i+j)+x*Qm lb j+c):=by rw[e0,hs]
 rw[ey]at *
 generalize B9^i=u at *
 generalize B9^j=v at *
 generalize B9=B at *
 grind
theorem IH.row{la lb:List Int}{x:Int}(h:IH la lb i lb.length x o c)(hi:i<la.length)(hx:x=Qm la i):
  IH la lb (i+1) 0 0 (o.set (i+lb.length) c) 0:=by
 obtain⟨h1,h2,h3,h4,h5⟩:=h;refine⟨by simpa using h1,h2.set _ h4.1 h4.2,?_,⟨bK _,XY⟩,?_⟩
 ·intro p hp;rw[Br O,if_neg O];exact h3 p O
 rw[Rk B9 O,h3 _ (aq _),Hk,<-hx];rw[aG]at h5;simp only[ep,Int.add_zero,fk,Int.sub_zero];rw[h5];generalize B9^i=u at *
 generalize B9=B at *
 grind
def IH.start(la lb:List Int):IH la lb 0 0 0 (aX (la.length+lb.length) 0) 0:=by
 refine⟨tJ,DG.replicate XY _,?_,⟨bK _,XY⟩,by rw[TS];simp⟩;intro p _;unfold Qm;split<;>simp
def IH.next{la lb:List Int}(h:IH la lb i 0 0 o 0)(x:Int):IH la lb i 0 x o 0:=by
 obtain⟨h1,h2,h3,h4,h5⟩:=h;exact⟨h1,h2,h3,h4,by simpa using h5⟩
def IH.stop{la lb:List Int}(h:IH la lb i 0 0 o 0)(hi:la.length<=i):dv B9 o=dv B9 la*dv B9 lb:=by
 have e:=h.2.2.2.2;rw[ak hi]at e;simpa using e
structure QIX(a b:List Int) where
 i:Nat
 o:List Int
 le:i<=a.length
 h:IH a b i 0 0 o 0
structure QIW(a b:List Int)(i:Nat) where
 j:Nat
 o:List Int
 c:Int
 le:j<=b.length
 h:IH a b i j (Qm a i) o c
theorem Tz(hF:Fits F w)(hA:J8 F ra a)(hB:J8 F rb b)(da:DG B9 a)(db:DG B9 b)(la:a.length<=100000000)(lb:b.length<=100000000):
  jB prog 195 [ra.v,rb.v] w F (λl=>dv B9 l=dv B9 a*dv B9 b/\NZ l/\l.length<=a.length+b.length):=by
 obtain⟨q,n,c⟩:=ra;obtain⟨q',n',c'⟩:=rb;have na:=hA.2.1;have nb:=hB.2.1;dsimp only at na nb;have h9:B9=1000000000:=rfl;refine QU.intro (G:=λF=>J8 F ⟨q,n,c⟩ a/\J8 F ⟨q',n',c'⟩ b) func195 rfl tH rfl rfl hF (λF' hF'=>⟨hA.le hF',hB.le hF'⟩) ?_;dsimp only[Sr.v];refine wA 8 I<|QA (Qg I Q2)<|wW I<|QA (Qg I Q2)<|QA (Qu I I O)<|Mm (n:=n+n') (bytes:=8) rfl rfl Q2 JK R4 I F6 O O λbk=>?_
 rw[show Xg [ab .i64 0] (n+n')=(aX (a.length+b.length) (0:Int)).map Jo by rw[Ti,na,nb];simp[Jo]];refine wD 10 I ?_;refine YB (ι:=QIX a b) (λi=>[(0,.slice q n c),(1,.slice q' n' c'),(5,.slice (some ⟨bk,0,none⟩) (n+n') (n+n')),(6,.int .i64 (i.i:Int))]) (λi=>[(bk,.cells (i.o.map Jo).toArray 3 (0,0))]) (λ_ F=>J8 F ⟨q,n,c⟩ a/\J8 F ⟨q',n',c'⟩ b) (λi=>a.length-i.i)
  ⟨0,_,aE _,IH.start a b⟩ wv we tM λi=>?_
 have hile:=i.le;refine wA 5 I<|QA (Qg I Q2)<|wD 3 I ?_
 refine QQ I (λhc=>?_) λhc=>?_
 ·have hi:i.i<n:=tD<|wi hc
  have hia:i.i<a.length:=O;refine XV _ (λ_ _ f h=>h.1.1.ptr (by dsimp only;omega)) (λhq=>?_);obtain⟨qb,qo,hq⟩:=hq;dsimp only at hq;subst hq;refine wC 16 I ?_;refine YB (ι:=QIW a b i.i) (λi2=>[(0,.slice (some ⟨qb,qo,none⟩) n c),(1,.slice q' n' c'),(5,.slice (some ⟨bk,0,none⟩) (n+n') (n+n')),(6,.int .i64 (i.i:Int)),(7,.int .i64 i2.c),(8,.int .i64 (i2.j:Int))]) (λi2=>[(bk,.cells (i2.o.map Jo).toArray 3 (0,0))]) (λ_ F=>J8 F ⟨some ⟨qb,qo,none⟩,n,c⟩ a/\J8 F ⟨q',n',c'⟩ b) (λi2=>b.length-i2.j)
   ⟨0,i.o,0,aE _,i.h.next _⟩ wz we tM λi2=>?_
  have hjle:=i2.le;have hol:i2.o.length=a.length+b.length:=i2.h.1;have hcc:=i2.h.2.2.2.1;refine wA 5 I<|QA (Qg I Q2)<|wD 3 I ?_
  refine QQ I (λhc=>?_) λhc=>?_
  ·have hj:i2.j<n':=tD<|wi hc
   have hjb:i2.j<b.length:=O;have hko:i.i+i2.j<i2.o.length:=O;have bx:=da.Qm XY i.i;have by':=db.Qm XY i2.j;have bo:=i2.h.2.1.Qm XY (i.i+i2.j);have bd:=QC5 bx by' bo hcc;have hst:=i2.h.step bx db hjb hia rfl;refine XV _ (λ_ _ f h=>h.2.1.ptr (by dsimp only;omega)) (λhq=>?_);obtain⟨qb',qo',hq⟩:=hq;dsimp only at hq;subst hq;refine wC 5 I<|JG we mixed tE<|QK (QD I)<|QK (QD I)<|QK (QD I)<|QK (Qu I I O)<|QK (JL (i:=i.i+i2.j) rfl rfl Q2 JK O)<|QK (V1 (c:=i2.o.map Jo) (T':=3) rfl JK .here (TY hko))<|QK (QD I)<|QK (QD I)<|QK (JL (i:=i.i) rfl rfl Q2 JK O)<|QK (Yn (n:=n) (sz:=1) (cs:=a.map Jo) rfl JK (λF h=>h.1.1) O (Jz hia))<|QK (QD I)<|QK (QD I)<|QK (JL (i:=i2.j) rfl rfl Q2 JK O)<|QK (Yn (n:=n') (sz:=1) (cs:=b.map Jo) rfl JK (λF h=>h.2.1) O (Jz hjb))<|QK (Mx I I O)<|QK (Qu I I O)<|QK (QD I)<|QK (Qu I I O)<|QK (QF I) ?_
   refine Q7<|wE 6 I<|QA (Qu I I O)<|wW I<|QA (H9 I I O O)<|QA (JL (i:=i.i+i2.j) rfl rfl Q2 JK O)<|QW (vs:=[_]) I I I JK I .here (SC hko _) wk<|wD 4 I<|QA (SO I I O O O)<|wB 2 I<|Qj<|wE 3 I<|QA (Qu I I O)<|wX I ?_
   refine QE ?_;exact Ql (⟨i2.j+1,i2.o.set (i.i+i2.j) _,_,O,hst⟩:QIW a b i.i) (by show b.length-(i2.j+1)<b.length-i2.j;omega) wz we tM
  have hjn:i2.j=b.length:=tD<|wj hc
  have hko2:i.i+n'<i2.o.length:=O;have hrow:IH a b (i.i+1) 0 0 (i2.o.set (i.i+n') i2.c) 0:=by
   have e:=i2.h;rw[hjn]at e;have:=e.row hia rfl
   rwa [nb]at this
  have hz:Qm i2.o (i.i+n')=0:=i2.h.2.2.1 _ O;refine Qx ?_
  repeat first|refine QY ?_|refine QO tH ?_
  refine QZ<|wE 5 I<|QA (Qg I Q2)<|QA (Qu I I O)<|wB 3 I<|QA (Qg I Q2)<|QA (Qu I I O)<|QA (JL (i:=i.i+n') rfl rfl Q2 JK O)<|QA (V1 (c:=i2.o.map Jo) (T':=3) rfl JK .here (TY hko2))<|wW I<|QA (Qu I I O)<|QA (JL (i:=i.i+n') rfl rfl Q2 JK O)<|QW (vs:=[_]) I I I JK I .here (SC hko2 _) wk<|QE<|Qj<|wE 3 I<|QA (Qu I I O) ?_
  refine wB 2 I ?_;exact Ql (⟨i.i+1,i2.o.set (i.i+n') i2.c,O,hrow⟩:QIX a b) (by show a.length-(i.i+1)<a.length-i.i;omega) wv (by rw[hz,fl];exact fA _) tM
 refine Qx ?_
 repeat first|refine QY ?_|refine QO tH ?_
 refine QZ<|QC<|QG ?_
 have hex:a.length<=i.i:=tD<|wj hc
 have hol:i.o.length=a.length+b.length:=i.h.1;have hr:Q8 3 1 (.slice (some ⟨bk,0,none⟩) (n+n') (n+n')) (n+n') (i.o.map Jo) [(bk,.cells (i.o.map Jo).toArray 3 (0,0))]:=by
  have:=Q8.some (T:=3) (sz:=1) (b:=bk) (n:=n+n') (cap:=n+n') (l:=i.o.map Jo) (rest:=[]) tK tK (aq _) (bO (show n+n'<=200000000 by omega) tF);simpa using this
 obtain⟨r,hv,hrn,hrc,hfix⟩:=Q8.fix (w0:=w) (F0:=F) (bs1:=[]) (G:=λF=>J8 F ⟨q,n,c⟩ a/\J8 F ⟨q',n',c'⟩ b) hr;have hlz:=Vk i.o;refine jH hfix ?_;rw[hv];refine wA 2 I<|QI I (λ_ _ f k=>Tx (r:=r) (l:=i.o) f ⟨by rw[hrn];exact k.2,by rw[hrn];omega,O⟩ O) λc71=>wD 4 I ?_
 exact QP ((⟨r.q,(Jf i.o).length,r.cap⟩,Jf i.o):Sr×List Int) rfl (wT I) rfl λF h=>⟨h.2,i.h.2.1.Jf,by show dv B9 (Jf i.o)=_;rw[ZH];exact i.h.stop hex,Zu _,by show(Jf i.o).length<=_;omega⟩
structure QIa(a:List Int)(d:Int) where
 k:Nat
 o:List Int
 r:Int
 le:k<=a.length
 len:o.length=a.length
 dg:DG B9 o
 r0:0<=r
 r1:r<d
 h:dv B9 (a.drop k)=d*dv B9 (o.drop k)+r
def set_drop{p:Nat}(h:p<o.length)(v:Int):(o.set p v).drop p=v::o.drop (p+1):=by
 rw[aP (by simpa using h)];congr 1
 ·simp
 rw[aU O]
def QGj{r d x:Int}(r0:0<=r)(r1:r<d)(hd:d<B9)(hx:0<=x/\x<B9):0<=r*B9+x/\0<=(r*B9+x)/d/\(r*B9+x)/d<B9/\0<=(r*B9+x)%d/\(r*B9+x)%d<d:=by
 have h0:0<=r*B9:=bH r0 tF;refine⟨O,bh O O,bT O ?_,bR _ O,bJ _ O⟩;have h1:(r+1)*B9<=d*B9:=ax O tF;rw[bV,aT]at h1;rw[aJ B9 d];omega
theorem QHo{d r s:Int}{p:Nat}(hp:p<a.length)(ho:p<o.length)(h:dv B9 (a.drop (p+1))=d*dv B9 (o.drop (p+1))+r)(hs:s=r*B9+Qm a p):
  dv B9 (a.drop p)=d*dv B9 ((o.set p (s/d)).drop p)+s%d:=by
 rw[set_drop ho,aP hp,<-Z9 hp];simp only[dv];rw[h];have e:s%d+d*(s/d)=s:=bz s d;generalize s/d=u at *
 generalize s%d=v at *
 generalize B9=B at *
 grind
theorem jF{d:Int}(hF:Fits F w)(hA:J8 F ra a)(da:DG B9 a)(la:a.length<=100000000)(d0:0<d)(d1:d<B9):
  QU prog 270 [ra.v,.int .i64 d] w F (λ(c:(Sr×List Int)×Int)=>.tuple [.slice c.1.1.q c.1.1.n c.1.1.cap,.int .i64 c.2].toArray) (λc F=>J8 F c.1.1 c.1.2/\DG B9 c.1.2/\NZ c.1.2/\0<=c.2/\c.2<d/\dv B9 a=d*dv B9 c.1.2+c.2/\c.1.2.length<=a.length):=by
 obtain⟨q,n,c⟩:=ra;have na:=hA.2.1;dsimp only at na;have h9:B9=1000000000:=rfl;refine QU.intro (G:=λF=>J8 F ⟨q,n,c⟩ a) func270 rfl tH rfl rfl hF (λF' hF'=>hA.le hF') ?_;dsimp only[Sr.v];refine wA 9 I<|QA (Qg I Q2)<|Mm (n:=n) (bytes:=8) rfl rfl Q2 JK R4 I F6 O O λbk=>?_
 rw[show Xg [ab .i64 0] n=(aX a.length (0:Int)).map Jo by rw[Ti,na];simp[Jo]];refine wD 12 I<|QA (Qg I Q2)<|QA (X3 I I O)<|wD 4 I ?_
 refine YB (ι:=QIa a d) (λi=>[(0,.slice q n c),(1,.int .i64 d),(6,.slice (some ⟨bk,0,none⟩) n n),(7,.int .i64 i.r),(8,.int .i64 ((i.k:Int)-1))]) (λi=>[(bk,.cells (i.o.map Jo).toArray 3 (0,0))]) (λ_ F=>J8 F ⟨q,n,c⟩ a) (λi=>i.k)
  ⟨n,aX a.length 0,0,O,tJ,DG.replicate XY _,bK _,d0,by rw[bw O,bw tK];simp[dv]⟩ wy we tM λi=>?_
 have hile:=i.le;have hol:=i.len;have hr0:=i.r0;have hr1:=i.r1;refine wA 7 I ?_;refine QQ I (λhc=>?_) λhc=>?_
 ·have hk0:0<i.k:=tD<|wi hc
  have hka:i.k-1<a.length:=O;have hko:i.k-1<i.o.length:=O;have bx:=da.Qm XY (i.k-1);have bd:=QGj hr0 hr1 d1 bx;rw[h9]at bd;have hst:=QHo (d:=d) (r:=i.r) (s:=i.r*1000000000+Qm a (i.k-1)) hka hko (by rw[show i.k-1+1=i.k by omega];exact i.h) rfl;refine XV _ (λ_ _ f h=>h.1.ptr (by dsimp only;omega)) (λhq=>?_);obtain⟨qb,qo,hq⟩:=hq;dsimp only at hq;subst hq;refine wC 7 I<|QA (Mx I I O)<|wB 2 I<|QA (JL (i:=i.k-1) rfl wS Q2 JK O)<|QA (Yn (n:=n) (sz:=1) (cs:=a.map Jo) rfl JK tN O (Jz hka))<|QA (Qu I I O)<|wD 9 I<|QA (SO I I O O O)<|QA (JL (i:=i.k-1) rfl wS Q2 JK O)<|QW (vs:=[_]) I I I JK I .here (SC hko _) wk ?_
  refine wD 5 I<|QA (H9 I I O O)<|wB 2 I<|Qj<|wE 3 I<|QA (X3 I I O)<|wB 2 I ?_
  exact Ql (⟨i.k-1,i.o.set (i.k-1) ((i.r*1000000000+Qm a (i.k-1))/d),(i.r*1000000000+Qm a (i.k-1))%d,O,by simpa using hol,i.dg.set _ bd.2.1 bd.2.2.1,bd.2.2.2.1,bd.2.2.2.2,hst⟩:QIa a d) (by show i.k-1<i.k;omega) ⟨rfl,rfl,rfl,rfl,congrArg (λz:Int=>some (ab .i64 z)) (by dsimp only;omega),trivial⟩ we tM
 refine Qx ?_
 repeat first|refine QY ?_|refine QO tH ?_
 refine QZ<|QC<|QG ?_
 have hex:i.k=0:=tD<|wj hc
 have hr:Q8 3 1 (.slice (some ⟨bk,0,none⟩) n n) n (i.o.map Jo) [(bk,.cells (i.o.map Jo).toArray 3 (0,0))]:=by
  have:=Q8.some (T:=3) (sz:=1) (b:=bk) (n:=n) (cap:=n) (l:=i.o.map Jo) (rest:=[]) tK tK (aq _) (bO (show n<=200000000 by omega) tF);simpa using this
 obtain⟨r,hv,hrn,hrc,hfix⟩:=Q8.fix (w0:=w) (F0:=F) (bs1:=[]) (G:=λF=>J8 F ⟨q,n,c⟩ a) hr;have hlz:=Vk i.o;have hfin:=i.h;rw[hex,bm,bm]at hfin;refine jH hfix ?_;rw[hv];refine wA 2 I<|QI I (λ_ _ f k=>Tx (r:=r) (l:=i.o) f ⟨by rw[hrn];exact k.2,by rw[hrn];omega,O⟩ O) λc37=>wD 6 I ?_
 exact Je (((⟨r.q,(Jf i.o).length,r.cap⟩,Jf i.o),i.r):(Sr×List Int)×Int) rfl (wU I I) rfl λF h=>⟨h.2,i.dg.Jf,Zu _,hr0,hr1,by show _=d*dv B9 (Jf i.o)+i.r;rw[ZH];exact hfin,by show(Jf i.o).length<=_;omega⟩
theorem QHm{v:List Int}{t r:Int}(h:Hp B9 u v n)(t0:0<=t)(e:t*Qm v (n+1)+r=Qm u (n+2)*B9+Qm u (n+1))(hc:r*B9+Qm u n<t*Qm v n):dv B9 u<t*dv B9 v:=by
 obtain⟨a1,a2,a3⟩:=Kx (b:=B9) tF h.hu h.lu;obtain⟨b1,b2,b3⟩:=Wr (b:=B9) tF h.hv h.lv;rw[a1,b1];refine FR b2 a3 (pow_pos XY n) t0 ?_;rw[<-e];generalize B9=B at *
 grind
theorem QIQ{v:List Int}{t:Int}(h:Hp B9 u v n)(ht:B9<=t):dv B9 u<t*dv B9 v:=by
 have h0:=JJ (b:=B9) tF h.hv;have h1:B9*dv B9 v<=t*dv B9 v:=ax ht h0;have:=h.lt;omega
theorem QGc{v:List Int}{t:Int}(h:Hp B9 u v n)(t0:0<=t)(ht:Qm u (n+2)*B9+Qm u (n+1)<(t+1)*Qm v (n+1)):dv B9 u<(t+1)*dv B9 v:=by
 obtain⟨a1,a2,a3⟩:=Kx (b:=B9) tF h.hu h.lu;obtain⟨b1,b2,b3⟩:=Wr (b:=B9) tF h.hv h.lv;rw[a1,b1];refine FR b2 a3 (pow_pos XY n) O ?_;have d1:=h.hu.Qm XY n;have d2:=h.hv.Qm XY n;have e1:0<=(t+1)*Qm v n:=bH O d2.1;have e2:(Qm u (n+2)*B9+Qm u (n+1)+1)*B9<=(t+1)*Qm v (n+1)*B9:=ax O tF;generalize B9=B at *
 generalize Qm u (n+2)=u0 at *
 generalize Qm u (n+1)=u1 at *
 generalize Qm u n=u2 at *
 generalize Qm v (n+1)=v1 at *
 generalize Qm v n=v2 at *
 grind
theorem QG4{v:List Int}{t r:Int}(h:Hp B9 u v n)(t0:0<=t)(t1:t<B9)(e:t*Qm v (n+1)+r=Qm u (n+2)*B9+Qm u (n+1))(hc:t*Qm v n<=r*B9+Qm u n):(t-1)*dv B9 v<=dv B9 u:=by
 obtain⟨a1,a2,a3⟩:=Kx (b:=B9) tF h.hu h.lu;obtain⟨b1,b2,b3⟩:=Wr (b:=B9) tF h.hv h.lv;rw[a1,b1];have d2:=h.hv.Qm XY n;have d3:1*B9<=Qm v (n+1)*B9:=ax (tD h.nz) tF;refine CF (pow_pos XY n) b3 a2 t0 ?_ O b2;rw[<-e];generalize B9=B at *
 grind
def QDH(u v:List Int)(t:Int):Prop:=0<=t/\t<B9/\(t-1)*dv B9 v<=dv B9 u/\dv B9 u<(t+1)*dv B9 v
structure GuI(u v:List Int)(m:Nat) where
 t:Int
 r:Int
 t0:0<=t
 r0:0<=r
 r1:r<B9
 t2:t<=1000000000000000000
 e:t*Qm v (m+1)+r=Qm u (m+2)*B9+Qm u (m+1)
 h:dv B9 u<(t+1)*dv B9 v
def yo{U:List Int}{j m:Nat}(h:k<m):Qm ((U.drop j).take m) k=Qm U (j+k):=by
 by_cases g:j+k<U.length
 ·rw[Z9 tK,Z9 g];simp
 rw[MX tK,MX O]
def QDB{v:List Int}{t r:Int}(h:Hp B9 u v n)(t0:0<=t)(e:t*Qm v (n+1)+r=Qm u (n+2)*B9+Qm u (n+1))(hr:B9<=r)(hu:dv B9 u<(t+1)*dv B9 v):QDH u v t:=by
 have ht:=h.top tF;have d0:=h.hu.Qm XY n;have d1:=h.hu.Qm XY (n+1);have d2:=h.hv.Qm XY n;have hn:=h.nz;have e1:Qm u (n+2)*B9<=Qm v (n+1)*B9:=ax ht tF;have t1:t<B9:=by
  refine Int.not_le.1 λhc=>?_;have e2:B9*Qm v (n+1)<=t*Qm v (n+1):=ax hc O;rw[aJ]at e2;omega
 refine⟨t0,t1,QG4 h t0 t1 e ?_,hu⟩;have e3:t*Qm v n<=B9*B9:=bI O O d2.1 tF;have e4:B9*B9<=r*B9:=ax hr tF;omega
theorem vZ{v:List Int}{t:Int}(hu:DG B9 u)(t0:0<=t)(h:dv B9 u<t*dv B9 v):0<=t-1:=by
 have:=JJ (b:=B9) tF hu;rcases bF 0 t with g | g
 ·omega
 have e:t=0:=O;subst e;rw[fk]at h;omega
theorem QEn{rest:List Value}{w0:World}{F0:Gs}{G:Gs->Prop}{bs:List (Nat×Obj)}{bu nu cu j m:Nat}{rv:Sr}{U v:List Int}(hU:U.length=nu)(hj:j+m+3<=nu)(hn:nu<=1000000000)(hG:∀F,G F->J8 F rv v)(hS:Hp B9 ((U.drop j).take (m+3)) v m):
  XN prog 272 [.slice (some ⟨bu,0,none⟩) nu cu,rv.v,.int .i64 (j:Int)] ⟨w0,F0,(bu,.cells (U.map Jo++rest).toArray 3 (0,0))::bs,G⟩ (λt:Int=>.int .i64 t) (λt=>⟨w0,F0,(bu,.cells (U.map Jo++rest).toArray 3 (0,0))::bs,λF=>G F/\QDH ((U.drop j).take (m+3)) v t⟩):=by
 obtain⟨q,n,c⟩:=rv;have hlv:=hS.lv;have h9:B9=1000000000:=rfl;have u2:Qm ((U.drop j).take (m+3)) (m+2)=Qm U (j+(m+2)):=yo O;have u1:Qm ((U.drop j).take (m+3)) (m+1)=Qm U (j+(m+1)):=yo O;have u0:Qm ((U.drop j).take (m+3)) m=Qm U (j+m):=yo O;have b2:=hS.hu.Qm XY (m+2);have b1:=hS.hu.Qm XY (m+1);have b0:=hS.hu.Qm XY m;have c1:=hS.hv.Qm XY (m+1);have c0:=hS.hv.Qm XY m;have nz:=hS.nz;refine XN.intro func272 rfl rfl rfl rfl ?_;dsimp only[Sr.v];refine XV _ (λ_ F f h=>(hG F h).2.1) (λhnv=>?_);dsimp only at hnv;obtain rfl:n=m+2:=O;refine XV _ (λ_ F f h=>(hG F h).1.ptr (by dsimp only;omega)) (λhq=>?_);obtain⟨qb,qo,hq⟩:=hq;dsimp only at hq;subst hq;refine wA 8 I<|QA (Qg I Q2)<|wD 4 I<|JG we mixed tE<|QK (QD I)<|QK (QD I)<|QK (QD I)<|QK (Qu I I O)<|QK (JL (i:=j+(m+2)) I wS Q2 JK O)<|QK (V1 (v:=.int .i64 (Qm ((U.drop j).take (m+3)) (m+2))) (c:=U.map Jo++rest) (T':=3) rfl JK .here (by rw[u2];exact WR O))<|QK (Mx I I O)<|QK (QD I)<|QK (QD I)<|QK (QD I)<|QK (Qu I I O) ?_
 refine QK (X3 I I O)<|QK (JL (i:=j+(m+1)) I wS Q2 JK O)<|QK (V1 (v:=.int .i64 (Qm ((U.drop j).take (m+3)) (m+1))) (c:=U.map Jo++rest) (T':=3) rfl JK .here (by rw[u1];exact WR O))<|QK (Qu I I O)<|QK (QF I)<|Q7<|QC<|QG<|JG we mixed tE<|QK (QD I)<|QK (QD I)<|QK (QD I)<|QK (X3 I I O)<|QK (JL (i:=m+1) rfl wS Q2 JK O)<|QK (Yn (n:=m+2) (sz:=1) (cs:=v.map Jo) rfl JK (λF h=>(hG F h).1) O (Jz (show m+1<v.length by omega)))<|QK (SO I I O O O)<|QK (QD I)<|QK (QD I)<|QK (QD I)<|QK (X3 I I O)<|QK (JL (i:=m+1) rfl wS Q2 JK O)<|QK (Yn (n:=m+2) (sz:=1) (cs:=v.map Jo) rfl JK (λF h=>(hG F h).1) O (Jz (show m+1<v.length by omega)))<|QK (H9 I I O O)<|QK (QF I)<|QK (QF I) ?_
 refine Q7<|wE 3 I ?_
 refine YB (ι:=GuI ((U.drop j).take (m+3)) v m) (λi=>[(0,.slice (some ⟨bu,0,none⟩) nu cu),(1,.slice (some ⟨qb,qo,none⟩) (m+2) c),(2,.int .i64 (j:Int)),(7,.int .i64 ((m+2:Nat):Int)),(9,.int .i64 i.t),(10,.int .i64 i.r)]) (λ_=>(bu,.cells (U.map Jo++rest).toArray 3 (0,0))::bs) (λ_=>G) (λi=>i.t.toNat)
  ⟨(Qm ((U.drop j).take (m+3)) (m+2)*1000000000+Qm ((U.drop j).take (m+3)) (m+1))/Qm v (m+1),(Qm ((U.drop j).take (m+3)) (m+2)*1000000000+Qm ((U.drop j).take (m+3)) (m+1))%Qm v (m+1),bh O O,bR _ O,fm (bJ _ nz) c1.2,Int.le_trans (bA (a:=(Qm ((U.drop j).take (m+3)) (m+2)*1000000000+Qm ((U.drop j).take (m+3)) (m+1))) _ O) O,by rw[aJ,Int.add_comm];exact bz _ _,QGc hS (bh O O) (Int.lt_ediv_add_one_mul_self _ nz)⟩ wz we tM λi=>?_
 have t0:=i.t0;have r0:=i.r0;have r1:=i.r1;have t2:=i.t2;refine QG<|QG<|JG we mixed tE<|QK (QD I)<|QK (QT I I I)<|QK (QD I) ?_
 refine Gg (t:=44) rfl (λhb44=>?_) λhb44=>?_
 ·refine Jj I I I<|Jj I I I<|Jj I I I<|Jj I I I<|Jj I I I<|Jj I I I<|Jj I I I<|Jj I I I<|Jj I I I<|Jj I I I<|Jj I I I<|Jj I I I<|Jj I I I<|Jj I I I<|Jj I I I<|Jj I I I<|Jj I I I<|Jj I I I<|QK (Qh I I I)<|Q7<|QC<|SG I ?_
  have hl:dv B9 ((U.drop j).take (m+3))<i.t*dv B9 v:=QIQ hS (tD<|wi hb44);refine wC 6 I<|QA (X3 I I O)<|wD 8 I<|QA (X3 I I O)<|QA (JL (i:=m+1) rfl wS Q2 JK O)<|QA (Yn (n:=m+2) (sz:=1) (cs:=v.map Jo) rfl JK (λF h=>(hG F h).1) O (Jz (show m+1<v.length by omega)))<|QA (Qu I I O)<|wD 6 I ?_
  refine wD 3 I ?_;refine QQ I (λhc=>?_) λhc=>?_
  ·refine wA 7 I ?_
   repeat first|refine Q6 ?_|refine Qv ?_
   exact Y3 (i.t-1) rfl (wT I) rfl λw h=>h.imp we λF h=>⟨h,QDB (r:=i.r+Qm v (m+1)) hS (vZ hS.hu t0 hl) (by rw[bU,aT,<-i.e];omega) (tD<|wi hc) (by rw[bG];exact hl)⟩
  refine QN<|Qj ?_
  exact Ql (⟨i.t-1,i.r+Qm v (m+1),(vZ hS.hu t0 hl),O,tD<|wj hc,O,(by rw[bU,aT,<-i.e];omega),(by rw[bG];exact hl)⟩:GuI ((U.drop j).take (m+3)) v m) (by show(i.t-1).toNat<i.t.toNat;have:=(vZ hS.hu t0 hl);omega) wz we tM
 have tb:i.t<B9:=tD<|wj hb44
 have p0:0<=i.t*Qm v m:=bH t0 c0.1;have p1:i.t*Qm v m<=1000000000*1000000000:=bI O O c0.1 tF;refine XA I I<|QK (QD I)<|XA I I<|QK (QD I)<|XA I I<|QK (QD I)<|XA I I<|QK (X3 I I O)<|XA I I<|QK (JL (i:=m) rfl wS Q2 JK O)<|XA I I<|QK (Yn (n:=m+2) (sz:=1) (cs:=v.map Jo) rfl JK (λF h=>(hG F h).1) O (Jz (show m<v.length by omega)))<|XA I I<|QK (Mx I I O)<|XA I I<|QK (QD I)<|XA I I<|QK (Mx I I O)<|XA I I<|QK (QD I)<|XA I I<|QK (QD I)<|XA I I<|QK (QD I)<|XA I I ?_
 refine QK (Qu I I O)<|XA I I<|QK (X3 I I O)<|XA I I<|QK (JL (i:=j+m) rfl wS Q2 JK O)<|XA I I<|QK (V1 (v:=.int .i64 (Qm ((U.drop j).take (m+3)) (m))) (c:=U.map Jo++rest) (T':=3) rfl JK .here (by rw[u0];exact WR O))<|XA I I<|QK (Qu I I O)<|XA I I<|QK (QT I I I)<|QK (Qd I I I)<|Q7<|QC ?_
 refine QQ I (λhc=>?_) λhc=>?_
 ·have hl:dv B9 ((U.drop j).take (m+3))<i.t*dv B9 v:=QHm hS t0 i.e (by have:=wi hc;rw[h9];omega);refine wC 6 I<|QA (X3 I I O)<|wD 8 I<|QA (X3 I I O)<|QA (JL (i:=m+1) rfl wS Q2 JK O)<|QA (Yn (n:=m+2) (sz:=1) (cs:=v.map Jo) rfl JK (λF h=>(hG F h).1) O (Jz (show m+1<v.length by omega)))<|QA (Qu I I O)<|wD 6 I ?_
  refine wD 3 I ?_;refine QQ I (λhc=>?_) λhc=>?_
  ·refine wA 7 I ?_
   repeat first|refine Q6 ?_|refine Qv ?_
   exact Y3 (i.t-1) rfl (wT I) rfl λw h=>h.imp we λF h=>⟨h,QDB (r:=i.r+Qm v (m+1)) hS (vZ hS.hu t0 hl) (by rw[bU,aT,<-i.e];omega) (tD<|wi hc) (by rw[bG];exact hl)⟩
  refine QN<|Qj ?_
  exact Ql (⟨i.t-1,i.r+Qm v (m+1),(vZ hS.hu t0 hl),O,tD<|wj hc,O,(by rw[bU,aT,<-i.e];omega),(by rw[bG];exact hl)⟩:GuI ((U.drop j).take (m+3)) v m) (by show(i.t-1).toNat<i.t.toNat;have:=(vZ hS.hu t0 hl);omega) wz we tM
 refine Qx ?_
 repeat first|refine QY ?_|refine QO tH ?_
 refine QZ<|wE 8 I ?_
 exact Y3 (i.t) rfl (wT I) rfl λw h=>h.imp we λF h=>⟨h,⟨t0,tb,QG4 hS t0 tb i.e (by have:=wj hc;rw[h9];omega),i.h⟩⟩
end Go.Proofs.YtjcphjpkimmmjaaGreatDoor
namespace Ig
structure vC(b:Int)(U v:List Int)(j:Nat)(t:Int)(i:Nat)(U':List Int)(br:Int):Prop where
 len:U'.length=U.length
 dg:DG b U'
 lo:U'.take j=U.take j
 hi:U'.drop (j+i)=U.drop (j+i)
 br0:0<=br
 br1:br<=b
 h:dv b U'+b^j*(t*dv b (v.take i))=dv b U+b^(j+i)*br
def vC.start{b:Int}(hb:0<=b){U v:List Int}(hU:DG b U)(j:Nat)(t:Int):vC b U v j t 0 U 0 :=
 ⟨rfl,hU,rfl,rfl,bK _,hb,tJ⟩
def QFR{l:List Int}{p k:Nat}:Qm (l.drop p) k=Qm l (p+k):=by
 by_cases g:p+k<l.length
 ·rw[Z9 tK,Z9 g];simp
 rw[MX tK,MX O]
def Gi{l m:List Int}{p q:Nat}(h:l.drop p=m.drop p)(hq:p<=q):Qm l q=Qm m q:=by
 have:=congrArg (λx=>Qm x (q-p)) h;simp only[QFR]at this;rw[show p+(q-p)=q by omega]at this;exact this
def QGC{b t x br:Int}(hb:1<b)(ht:0<=t/\t<b)(hx:0<=x/\x<b)(h:0<=br/\br<=b):0<=t*x/\t*x<=(b-1)*(b-1)/\0<=(t*x+br)/b/\(t*x+br)/b<b:=by
 have h0:=bH ht.1 hx.1;have h1:t*x<=(b-1)*(b-1):=bI O O hx.1 O;refine⟨h0,h1,bh O O,bT O ?_⟩;have e:(b-1)*(b-1)=b*b-2*b+1:=by grind
 omega
def vC.step{b:Int}{U v U':List Int}{j i:Nat}{t br x br':Int}(h:vC b U v j t i U' br)(hj:j+i<U.length)
  (hx:0<=x/\x<b) (hbr:br'<=b/\0<=br') (e:x-b*br'=Qm U (j+i)-(t*Qm v i+br)):vC b U v j t (i+1) (U'.set (j+i) x) br':=by
 obtain⟨h1,h2,h3,h4,h5,h6,h7⟩:=h;have hd:Qm U' (j+i)=Qm U (j+i):=Gi h4 (aq _);refine⟨by simpa using h1,h2.set _ hx.1 hx.2,?_,?_,hbr.2,hbr.1,?_⟩
 ·rw[aI O];exact h3
 ·rw[aU O,<-bL,<-aF,h4,aF]
 rw[Rk b O,hd,Hk,<-bL,aO];have e':b^(j+i)*(x-b*br')=b^(j+i)*(Qm U (j+i)-(t*Qm v i+br)):=by rw[e]
 rw[ey]at *
 generalize b^i=p at *
 generalize b^j=q at *
 grind
structure uL(b:Int)(U v:List Int)(j n:Nat)(t:Int)(U':List Int)(top:Int):Prop where
 len:U'.length=U.length
 dg:DG b (U'.set (j+n) 0)
 lo:U'.take j=U.take j
 hi:U'.drop (j+n+1)=U.drop (j+n+1)
 tp:Qm U' (j+n)=top
 h:dv b U'=dv b U-b^j*(t*dv b v)
def vC.stop{b:Int}(hb:1<b){U v U':List Int}{j n:Nat}{t br:Int}(h:vC b U v j t n U' br)(hn:v.length=n)(hj:j+n<U.length):uL b U v j n t (U'.set (j+n) (Qm U (j+n)-br)) (Qm U (j+n)-br):=by
 obtain⟨h1,h2,h3,h4,h5,h6,h7⟩:=h;have hd:Qm U' (j+n)=Qm U (j+n):=Gi h4 (aq _);refine⟨by simpa using h1,?_,?_,?_,?_,?_⟩
 ·rw[fe];exact h2.set _ (bK _) O
 ·rw[aI O];exact h3
 ·rw[aU O,<-aF,h4,aF]
 ·rw[Br O,if_pos rfl]
 rw[Rk b O,hd];rw[ak O]at h7;generalize b^(j+n)=p at *
 generalize b^j=q at *
 grind
def Wz(b:Int)(l:List Int)(j:Nat):dv b l=dv b (l.take j)+b^j*dv b (l.drop j):=by
 by_cases h:j<=l.length
 ·exact Vy b l j h
 rw[ak O,bp O];simp
def uL.part{b:Int}(hb:0<b){U v U':List Int}{j n:Nat}{t top:Int}(h:uL b U v j n t U' top):dv b (U'.drop j)=dv b (U.drop j)-t*dv b v:=by
 have e:=h.h;rw[Wz b U' j,Wz b U j,h.lo]at e;have hp:=pow_pos hb j;have e2:b^j*dv b (U'.drop j)=b^j*(dv b (U.drop j)-t*dv b v):=by
  rw[bC];generalize b^j*dv b (U'.drop j)=x at *;generalize b^j*dv b (U.drop j)=y at *;omega
 exact eL O e2
def jE{l:List Int}{j n:Nat}(h:j+n<l.length):l.drop j=(l.drop j).take n++Qm l (j+n)::l.drop (j+n+1):=by
 have e:(l.drop j).drop n=Qm l (j+n)::l.drop (j+n+1):=by
  rw[aF,Xr h]
 rw[<-e,bQ]
def QDv{b:Int}(hb:1<b){U:List Int}{k n:Nat}(hU:DG b U)(h:dv b (U.drop k)<b^n):dv b (U.drop (k+n))=0:=by
 have e:=Wz b (U.drop k) n;rw[aF]at e;have h1:=JJ (b:=b) O ((hU.drop k).take n);have h2:=JJ (b:=b) O (hU.drop (k+n));have hp:=pow_pos (b:=b) O n;rcases bF 0 (dv b (U.drop (k+n)))with g | g
 ·have:b^n*1<=b^n*dv b (U.drop (k+n)):=ah O O;rw[eB]at this;omega
 omega
def uL.sign{b:Int}(hb:1<b){U v U':List Int}{j n:Nat}{t top:Int}(h:uL b U v j n t U' top)(hz:dv b (U.drop (j+n+1))=0)(hj:j+n<U.length):
  ∃lo,0<=lo/\lo<b^n/\dv b (U'.drop j)=lo+b^n*top:=by
 have hlen:=h.len;have hw:=jE (l:=U') (j:=j) (n:=n) O;refine⟨dv b ((U'.drop j).take n),?_,?_,?_⟩
 ·have:DG b ((U'.drop j).take n):=by
   have:=((h.dg.drop j).take n);rw[bX,if_neg O,bj,aI (aq _)]at this;exact this
  exact JJ O this
 ·have:DG b ((U'.drop j).take n):=by
   have:=((h.dg.drop j).take n);rw[bX,if_neg O,bj,aI (aq _)]at this;exact this
  have h2:=Kl (by omega:0<b) this;rw[show((U'.drop j).take n).length=n by simp;omega]at h2;exact h2
 have e:=congrArg (dv b) hw;rw[YD,Vi,h.hi,hz,h.tp,show((U'.drop j).take n).length=n by simp;omega]at e;simpa using e
def uL.QHn{b:Int}(hb:1<b){U v U':List Int}{j n:Nat}{t top:Int}(h:uL b U v j n t U' top)(hj:j+n<U.length)(h0:0<=top)(ht:top<b)
  (g:dv b (U.drop j)<(t+1)*dv b v):DG b U'/\dv b (U'.drop j)<dv b v/\dv b U'=dv b U-b^j*(t*dv b v):=by
 have hp:=h.part O;refine⟨?_,?_,h.h⟩
 ·have e:U'=(U'.set (j+n) 0).set (j+n) top:=by
   rw[fe];have:=h.tp;rw[Z9 (by rw[h.len];exact hj)]at this;rw[<-this,List.set_getElem_self]
  rw[e];exact h.dg.set _ h0 ht
 rw[hp];rw[bV,aT]at g;omega
def IU.start{b:Int}{U v:List Int}{j n:Nat}(hU:DG b (U.set (j+n) 0)):IU b U v j n 0 U 0 :=
 ⟨rfl,hU,rfl,rfl,bK _,O,tJ⟩
def IU.step{b:Int}{U v U':List Int}{j n i:Nat}{c x c':Int}(h:IU b U v j n i U' c)(hi:i<n)(hj:j+n<U.length)
  (hx:0<=x/\x<b) (hc:0<=c'/\c'<=1) (e:x+b*c'=Qm U (j+i)+Qm v i+c):IU b U v j n (i+1) (U'.set (j+i) x) c':=by
 obtain⟨h1,h2,h3,h4,h5,h6,h7⟩:=h;have hd:Qm U' (j+i)=Qm U (j+i):=Gi h4 (aq _);refine⟨by simpa using h1,?_,?_,?_,hc.1,hc.2,?_⟩
 ·rw[List.set_comm _ _ O];exact h2.set _ hx.1 hx.2
 ·rw[aI O];exact h3
 ·rw[aU O,<-bL,<-aF,h4,aF]
 rw[Rk b O,hd,Hk,<-bL,aO];have e':b^(j+i)*(x+b*c')=b^(j+i)*(Qm U (j+i)+Qm v i+c):=by rw[e]
 rw[ey]at *
 generalize b^i=p at *
 generalize b^j=q at *
 grind
def IU.Qm{b:Int}(hb:1<b){U v U':List Int}{j n i:Nat}{c:Int}(h:IU b U v j n i U' c)(hi:i<n):0<=Qm U' (j+i)/\Qm U' (j+i)<b:=by
 have:=h.dg.Qm O (j+i);by_cases g:j+n<U'.length
 ·rw[Br g,if_neg O]at this;exact this
 rw[List.set_eq_of_length_le O]at this;exact this
def IU.QHn{b:Int}(hb:1<b){U v U1 U':List Int}{j n:Nat}{t top c:Int}(h:IU b U1 v j n n U' c)(hs:uL b U v j n t U1 top)(hU:DG b U)(hv:DG b v)(hn:v.length=n)(hz:dv b (U.drop (j+n+1))=0)(hj:j+n<U.length)(h0:top<0)
  (g:(t-1)*dv b v<=dv b (U.drop j)):DG b (U'.set (j+n) (top+c))/\dv b ((U'.set (j+n) (top+c)).drop j)<dv b v/\dv b (U'.set (j+n) (top+c))=dv b U-b^j*((t-1)*dv b v)/\0<=t-1/\(U'.set (j+n) (top+c)).length=U.length:=by
 obtain⟨lo,l0,l1,l2⟩:=hs.sign hb hz hj;have hp:=hs.part O;have hlen:=hs.len;obtain⟨a1,a2,a3,a4,a5,a6,a7⟩:=h;have hd:Ig.Qm U' (j+n)=top:=by rw[Gi a4 (aq _),hs.tp]
 rw[ak O]at a7;have hv0:=JJ (b:=b) O hv;have hv1:=Kl (b:=b) O hv;rw[hn]at hv1;have hB:=pow_pos (b:=b) O n;have hw:dv b (U'.set (j+n) (top+c))=dv b U-b^j*((t-1)*dv b v):=by
  rw[Rk b O,hd];have e:=hs.h;generalize b^(j+n)=p at *
  generalize b^j=q at *
  grind
 have hlo:(U'.set (j+n) (top+c)).take j=U.take j:=by
  rw[aI O,a3,hs.lo]
 have hpart:dv b ((U'.set (j+n) (top+c)).drop j)=dv b (U.drop j)-(t-1)*dv b v:=by
  have e:=hw;rw[Wz b _ j,Wz b U j,hlo]at e;have hq:=pow_pos (b:=b) O j;have e2:b^j*dv b ((U'.set (j+n) (top+c)).drop j)=b^j*(dv b (U.drop j)-(t-1)*dv b v):=by
   rw[bC];generalize b^j*dv b ((U'.set (j+n) (top+c)).drop j)=x at *;generalize b^j*dv b (U.drop j)=y at *;omega
  exact eL O e2
 have hneg:dv b (U1.drop j)<0:=by
  rw[l2];have:b^n*top<=b^n*(-1):=ah O O;omega
 have hlt:dv b ((U'.set (j+n) (top+c)).drop j)<dv b v:=by
  rw[hpart,bU,aT];omega
 have hge:0<=dv b ((U'.set (j+n) (top+c)).drop j):=by rw[hpart];omega
 have hsd:dv b ((U'.set (j+n) (top+c)).drop j)=dv b ((U'.drop j).take n)+b^n*(top+c):=by
  have hw2:=congrArg (dv b) (jE (l:=U'.set (j+n) (top+c)) (j:=j) (n:=n) tK);have e3:(U'.set (j+n) (top+c)).drop (j+n+1)=U'.drop (j+n+1):=aU O;rw[YD,Vi,Br (show j+n<U'.length by omega),if_pos rfl,e3]at hw2;have:dv b (U'.drop (j+n+1))=0:=by
   rw[<-aF,a4,aF,hs.hi];exact hz
  have e2:((U'.set (j+n) (top+c)).drop j).take n=(U'.drop j).take n:=by
   rw[bX,if_neg O,bj,aI (aq _)]
  rw[this,e2,show((U'.drop j).take n).length=n by simp;omega]at hw2;simpa using hw2
 have hdg:DG b ((U'.drop j).take n):=by
  have:=((a2.drop j).take n);rw[bX,if_neg O,bj,aI (aq _)]at this;exact this
 have d0:=JJ (b:=b) O hdg;have d1:=Kl (b:=b) O hdg;rw[show((U'.drop j).take n).length=n by simp;omega]at d1;have ht0:top+c=0:=by
  rw[hsd]at hlt hge;have q1:¬1<=top+c:=λq=>by
   have:b^n*1<=b^n*(top+c):=ah q O;omega
  have q2:¬top+c<=-1:=λq=>by
   have:b^n*(top+c)<=b^n*(-1):=ah q O;omega
  omega
 refine⟨?_,hlt,hw,?_,tK⟩
 ·rw[ht0];exact a2
 rcases bF (t-1) 0 with q | q
 ·exfalso;have u0:=JJ (b:=b) O (hU.drop j);have:t*dv b v<=0:=Int.mul_nonpos_of_nonpos_of_nonneg O hv0;omega
 exact q
end Ig
namespace Go.Proofs.YtjcphjpkimmmjaaGreatDoor
variable{c f z zx:Int}{x:Rat}{y:Operand}{T yT:TypeId}{a b l o out u:List Int}{cap i k n:Nat}{cs:List Value}{s:List UInt8}{w:World}{F:Gs}{ra rb:Sr}
open Go.RowKit Ig
def dJ(db:DG B9 b)(zb:NZ b)(hn:b.length=n+1):1<=Qm b n/\1<=B9/(Qm b n+1)/\B9/(Qm b n+1)<B9/\B9/(Qm b n+1)*(Qm b n+1)<=B9:=by
 have hd:=db.Qm XY n;have h1:1<=Qm b n:=by
  have hlt:n<b.length:=O;have:Qm b n≠0:=by
   intro e;refine zb ?_;rw[List.getLast?_eq_getElem?,hn,bZ,aZ hlt];rw[Z9 hlt]at e;rw[e]
  omega
 have h9:B9=1000000000:=rfl;refine⟨h1,?_,?_,Int.ediv_mul_le _ O⟩
 ·exact(Int.le_ediv_iff_mul_le O).2 O
 exact bT O (by rw[bD];have:B9*1<=B9*Qm b n:=ah h1 O;omega)
def QE7{v:List Int}(db:DG B9 b)(zb:NZ b)(hn:b.length=n+1)(dv':DG B9 v)(zv:NZ v)(h:dv B9 v=dv B9 b*f)(h1:1<=f)(h2:f*(Qm b n+1)<=B9):v.length=n+1:=by
 have hlt:n<b.length:=O;have e1:dv B9 b=dv B9 (b.take n)+B9^n*Qm b n:=by
  have:=Hk B9 b n;rw[ak O]at this;exact this
 have e2:=Kl XY (db.take n);rw[show(b.take n).length=n by simp;omega]at e2;have hb0:B9^n<=dv B9 b:=by
  have:=Rm XY db zb (by intro e;rw[e]at hn;simp at hn);rw[hn,bZ]at this;exact this
 have hp:=pow_pos XY n;have hup:dv B9 b<B9^n*(Qm b n+1):=by rw[bD,eB];omega
 have hv1:dv B9 v<B9^(n+1):=by
  rw[h,aO];have:dv B9 b*f<B9^n*(Qm b n+1)*f:=eG hup O;have q:B9^n*(Qm b n+1)*f<=B9^n*B9:=by
   rw[bM,aJ (Qm b n+1)];exact ah h2 O
  omega
 have hv0:B9^n<=dv B9 v:=by
  rw[h];have:dv B9 b*1<=dv B9 b*f:=ah h1 O;omega
 rcases Nat.lt_trichotomy v.length (n+1)with g | g | g
 ·have h3:=Kl XY dv';have h4:=Ig.X0 (b:=B9) tF (show v.length<=n by omega);omega
 ·exact g
 have h3:=Rm XY dv' zv (by intro e;rw[e]at g;simp at g);have h4:=Ig.X0 (b:=B9) tF (show n+1<=v.length-1 by omega);omega
def QHj{b:Int}(hb:0<b){U:List Int}{k:Nat}(hU:DG b U):b^k*dv b (U.drop k)<=dv b U:=by
 rw[Wz b U k];have:=JJ hb (hU.take k);omega
structure Ce(a v:List Int)(f:Int)(n:Nat) where
 k:Nat
 U:List Int
 Q:List Int
 le:k+n<=a.length+1
 lu:U.length=a.length+1
 lq:Q.length=a.length+1-n
 du:DG B9 U
 dq:DG B9 Q
 lt:dv B9 (U.drop k)<dv B9 v
 h:dv B9 a*f=dv B9 v*(B9^k*dv B9 (Q.drop k))+dv B9 U
def Ce.start{a b v U:List Int}{f:Int}{n:Nat}(da:DG B9 a)(db:DG B9 b)(zb:NZ b)(hn:b.length=n+1)(hv:dv B9 v=dv B9 b*f)(h1:1<=f)(du:DG B9 U)(lu:U.length=a.length+1)(hU:dv B9 U=dv B9 a*f)(hl:n+1<=a.length+1):Ce a v f (n+1) where
 k:=a.length+1-(n+1)
 U:=U
 Q:=aX (a.length+1-(n+1)) 0
 le:=O
 lu:=lu
 lq:=tJ
 du:=du
 dq:=DG.replicate XY _
 lt:=by
  have hb0:B9^n<=dv B9 b:=by
   have:=Rm XY db zb (by intro e;rw[e]at hn;simp at hn);rw[hn,bZ]at this;exact this
  have h2:=QHj XY (k:=a.length-n) du;have h3:=Kl XY da;have h4:dv B9 a*f<B9^a.length*f:=eG h3 O;have h5:B9^a.length*f=B9^(a.length-n)*(B9^n*f):=by rw[<-bM,<-ey];congr 2;omega
  rw[hU]at h2;have h6:B9^(a.length-n)*dv B9 (U.drop (a.length-n))<B9^(a.length-n)*(B9^n*f):=O;have h7:dv B9 (U.drop (a.length-n))<B9^n*f:=eK h6 (tD<|pow_pos XY (a.length-n));have h8:B9^n*f<=dv B9 b*f:=ax hb0 O;rw[show a.length+1-(n+1)=a.length-n by omega,hv];omega
 h:=by
  rw[bp tJ,yi,ep,ep,fl,hU]
def Ce.zero{v:List Int}(i:Ce a v f n)(dv':DG B9 v)(hv:v.length=n):dv B9 (i.U.drop (i.k+n))=0:=by
 have:=Kl XY dv';rw[hv]at this;exact QDv TL i.du (fm i.lt this)
def Ce.ue{v:List Int}{m:Nat}(i:Ce a v f (m+2))(dv':DG B9 v)(zv:0<Qm v (m+1))(hv:v.length=m+2)(hk:0<i.k):Hp B9 ((i.U.drop (i.k-1)).take (m+3)) v m/\dv B9 (i.U.drop (i.k-1))=dv B9 ((i.U.drop (i.k-1)).take (m+3)):=by
 have hz:=i.zero dv' hv;have hle:=i.le;have hlu:=i.lu;have e:dv B9 (i.U.drop (i.k-1))=dv B9 ((i.U.drop (i.k-1)).take (m+3)):=by
  have:=Wz B9 (i.U.drop (i.k-1)) (m+3);rw[aF,show i.k-1+(m+3)=i.k+(m+2) by omega,hz]at this;simpa using this
 refine⟨⟨(i.du.drop _).take _,dv',tK,hv,zv,?_⟩,e⟩;rw[<-e,Xr O,Vi,show i.k-1+1=i.k by omega];have hd:=i.du.Qm XY (i.k-1);have hlt:=i.lt;have:B9*dv B9 (i.U.drop i.k)<=B9*(dv B9 v-1):=ah O tF;rw[bC,eB]at this;omega
def Ce.next{a v:List Int}{f:Int}{n:Nat}(i:Ce a v f n)(hk:0<i.k)(hn:0<n){U1:List Int}{t:Int}(t0:0<=t)(t1:t<B9)(h1:DG B9 U1)(h2:dv B9 (U1.drop (i.k-1))<dv B9 v)(h3:dv B9 U1=dv B9 i.U-B9^(i.k-1)*(t*dv B9 v))(h4:U1.length=i.U.length):Ce a v f n where
 k:=i.k-1
 U:=U1
 Q:=i.Q.set (i.k-1) t
 le:=tD i.le
 lu:=by rw[h4,i.lu]
 lq:=by rw[ar,i.lq]
 du:=h1
 dq:=i.dq.set _ t0 t1
 lt:=h2
 h:=by
  have hle:=i.le;have hlq:=i.lq;rw[h3,Xr (l:=i.Q.set (i.k-1) t) (by rw[ar];omega),Vi,Br O,if_pos rfl,aU O,show i.k-1+1=i.k by omega,i.h];have e:B9^i.k=B9^(i.k-1)*B9:=by rw[<-aO];congr 1;omega
  rw[e];generalize B9^(i.k-1)=p;generalize dv B9 (i.Q.drop i.k)=q;generalize dv B9 i.U=u;generalize dv B9 v=y;generalize B9=B
  grind
theorem Ce.stop{v:List Int}(i:Ce a v f n)(hk:i.k=0)(db:DG B9 b)(da:DG B9 a)(hv:dv B9 v=dv B9 b*f)(h1:1<=f)(hb:0<dv B9 b)(dv':DG B9 v)(lv:v.length=n):
  dv B9 i.Q=dv B9 a/dv B9 b/\dv B9 (i.U.take n)=f*(dv B9 a%dv B9 b):=by
 have h:=i.h;have lt:=i.lt;rw[hk,bm]at lt;have hz:=i.zero dv' lv;rw[hk,aR]at hz;have e0:dv B9 (i.U.take n)=dv B9 i.U:=by
  rw[Wz B9 i.U n,hz];simp
 rw[hk,bm,Int.pow_zero,aT,hv]at h;rw[hv]at lt;have u0:=JJ XY i.du;rw[e0];have e1:dv B9 i.U=f*(dv B9 a-dv B9 b*dv B9 i.Q):=by rw[bC];grind
 have lt2:f*(dv B9 a-dv B9 b*dv B9 i.Q)<f*dv B9 b:=by rw[<-e1,aJ f (dv B9 b)];exact lt
 have r1:dv B9 a-dv B9 b*dv B9 i.Q<dv B9 b:=eK lt2 O;have r0:0<=dv B9 a-dv B9 b*dv B9 i.Q:=by
  rcases bF (dv B9 a-dv B9 b*dv B9 i.Q) 0 with g | g
  ·have:f*(dv B9 a-dv B9 b*dv B9 i.Q)<=f*(-1):=ah O O;omega
  exact g
 have q:dv B9 a/dv B9 b=dv B9 i.Q:=YE hb (by rw[aJ];omega) (by rw[bV,aT,aJ];omega);refine⟨q.symm,?_⟩;rw[e1];have:=fp (dv B9 a) (dv B9 b);rw[this,q]
section
variable[Dr][df:Df]{P:Program}{Q:Exit->Act->World->Prop}{N:Nat}{m:Sl}{ops:Array Oper}{l:List Oper}{w0:World}{F0:Gs}{bs:List (Nat×Obj)}{G:Gs->Prop}{ty:TypeId}{pos:String}{aft:Array Edge}
theorem Q8.big{sz:Nat}{v:Value}{ob:List (Nat×Obj)}(hr:Q8 T sz v n cs ob)(hn:0<n):∃b cap rest,v = .slice (Option.some ⟨b,0,Option.none⟩) n cap/\ob=[(b,.cells (cs++rest).toArray T (0,0))]/\n<=cap:=by
 cases hr with
 |nil=>exact absurd hn (Nat.lt_irrefl 0)
 |some h1 h2 h3 h4=>exact⟨_,_,_,rfl,rfl,h3⟩
theorem Src.QI5{sz b off c:Nat}{news:List Value}(hr:∀F,G F->Qy F (some ⟨b,off,none⟩) k sz news)(hk:0<k)(hl:news.length=k*sz):Src ⟨w0,F0,bs,G⟩ sz (.slice (.some ⟨b,off,none⟩) k c) k news :=
 ⟨hl,.inr ⟨_,_,rfl,λw hw j v hv=>by rw[BP];exact W3 hw hr hk hv⟩⟩
end
theorem J8.own{b c:Nat}{rest:List Value}(h:F b=some ((l.map Jo++rest).toArray,T))(hl:l.length=n)(hn:n<=c):J8 F ⟨some ⟨b,0,none⟩,n,c⟩ l:=by
 refine⟨⟨by simp[hl],λ_=>⟨b,0,_,T,rfl,h,λj u hu=>?_⟩⟩,hl,hn⟩;have hj:j<(l.map Jo).length:=by rcases aN j (l.map Jo).length with g | g;exact g;rw[eP g]at hu;cases hu
 rw[aR,aC,List.getElem?_append,if_pos hj];exact hu
def J8.QI8{b c:Nat}(h:F b=some ((l.map Jo).toArray,T))(hl:l.length=n)(hn:n<=c):J8 F ⟨some ⟨b,0,none⟩,n,c⟩ l:=J8.own (rest:=[]) (by rw[eZ];exact h) hl hn
def J8.one{b:Nat}{x:Int}(h:F b=some (([ab .i64 x]:List Value).toArray,T)):J8 F ⟨some ⟨b,0,none⟩,1,1⟩ [x]:=⟨Qy.of h rfl,rfl,aq _⟩
def J8.take{q:Option Addr}{c:Nat}(h:J8 F ⟨q,n,c⟩ l)(hk:k<=n):J8 F ⟨q,k,c⟩ (l.take k):=by
 have hn:=h.2.1;have hc:=h.2.2;dsimp only at hn hc;exact⟨h.1.take hn hk,tK,by show k<=c;omega⟩
def RT{m:List Int}(hl:DG B9 l)(hm:DG B9 m)(zl:NZ l)(h:dv B9 l<=dv B9 m):l.length<=m.length:=by
 rcases aN m.length l.length with g | g
 ·have:=ZQ TL hm hl zl g;omega
 exact g
def QCE(x:Int):dv B9 [x]=x:=by simp[dv]
def QEp{x r t:Int}(hf:0<f)(h:f*x=f*r+t)(h0:0<=t)(h1:t<f):r=x:=by
 have e:t=f*(x-r):=by rw[bC];omega
 rcases Int.lt_trichotomy (x-r) 0 with g | g | g
 ·have:f*(x-r)<=f*(-1):=ah O O;omega
 ·omega
 have:f*1<=f*(x-r):=ah O O;omega
def QG8(a b:List Int)(c:(Sr×List Int)×(Sr×List Int))(F:Gs):Prop :=
 (J8 F c.1.1 c.1.2/\DG B9 c.1.2/\NZ c.1.2/\dv B9 c.1.2=dv B9 a/dv B9 b)/\(J8 F c.2.1 c.2.2/\DG B9 c.2.2/\NZ c.2.2/\dv B9 c.2.2=dv B9 a%dv B9 b)
theorem QGQ(nb:b.length=1)(db:DG B9 b)(c:(Sr×List Int)×Int){k:Nat}
  (h:J8 F c.1.1 c.1.2/\DG B9 c.1.2/\NZ c.1.2/\0<=c.2/\c.2<Qm b 0/\dv B9 a=Qm b 0*dv B9 c.1.2+c.2/\c.1.2.length<=a.length) (h':J8 F ⟨some ⟨k,0,none⟩,(Jf [c.2]).length,1⟩ (Jf [c.2])) :
  QG8 a b ((c.1.1,c.1.2),(⟨some ⟨k,0,none⟩,(Jf [c.2]).length,1⟩,Jf [c.2])) F:=by
 obtain⟨h1,h2,h3,h4,h5,h6,_⟩:=h;have e:dv B9 b=Qm b 0:=by
  obtain⟨x,rfl⟩:=List.length_eq_one_iff.1 nb;simp[dv,Qm]
 have b0:=db.Qm XY 0;refine⟨⟨h1,h2,h3,?_⟩,h',(DG.cons h4 O (DG.nil _)).Jf,Zu _,?_⟩
 ·show dv B9 c.1.2=_;rw[e];exact(YE O (by rw[aJ];omega) (by rw[bV,aT,aJ];omega)).symm
 show dv B9 (Jf [c.2])=_;rw[ZH,QCE,e,YQ (q:=dv B9 c.1.2) (by rw[aJ];omega) (by rw[bV,aT,aJ];omega),aJ];omega
structure QJT(a:List Int)(f:Int) where
 U:List Int
 v:Value
 ob:List (Nat×Obj)
 le:U.length<=a.length+1
 du:DG B9 U
 h:dv B9 U=dv B9 a*f
 hr:Q8 3 1 v U.length (U.map Jo) ob
structure QJO(U v:List Int)(j:Nat)(t:Int) where
 i:Nat
 U':List Int
 br:Int
 le:i<=v.length
 h:vC B9 U v j t i U' br
structure QJc(U v:List Int)(j n:Nat) where
 i:Nat
 U':List Int
 c:Int
 le:i<=n
 h:Ig.IU B9 U v j n i U' c
@[reducible] def QIt (c:(Sr×List Int)×(Sr×List Int)):Value:=.tuple #[.slice c.1.1.q c.1.1.n c.1.1.cap,.slice c.2.1.q c.2.1.n c.2.1.cap]
set_option maxHeartbeats 4000000 in
theorem T2(hF:Fits F w)(hA:J8 F ra a)(hB:J8 F rb b)(da:DG B9 a)(db:DG B9 b)(za:NZ a)(zb:NZ b)(hb:0<dv B9 b)(la:a.length<=10000000)(lb:b.length<=10000000):
  QU prog 190 [ra.v,rb.v] w F QIt (λc F=>QG8 a b c F):=by
 obtain⟨q,n,c⟩:=ra;obtain⟨q',n',c'⟩:=rb;have na:=hA.2.1;have nb:=hB.2.1;dsimp only at na nb;have h9:B9=1000000000:=rfl;have nb0:0<n':=by
  rcases aA n' with g | g
  ·rw[g]at nb;rw[aj nb]at hb;simp at hb
  exact g
 dsimp only[Sr.v];refine QU.intro (G:=λF=>J8 F ⟨q,n,c⟩ a/\J8 F ⟨q',n',c'⟩ b) func190 rfl tH rfl rfl hF (λF' hF'=>⟨hA.le hF',hB.le hF'⟩)<|wa<|wX rfl<|wZ rfl<|QG<|wb rfl<|wW rfl<|QI rfl (λ_ _ f k=>Su f (ra:=⟨q,n,c⟩) (rb:=⟨q',n',c'⟩) k.1 (k.2) (da) (db) (za) (zb) O O) λ_=>QA (QT rfl rfl rfl)<|QE<|QC ?_
 refine QQ I (λhc=>?_) λhc=>?_
 ·have hlt:dv B9 a<dv B9 b:=by have:=wi hc;unfold YF at this;split at this;assumption;split at this<;>omega
  refine wA 8 I ?_;exact Je (((⟨none,0,0⟩,[]),(⟨q,n,c⟩,a)):(Sr×List Int)×(Sr×List Int)) I (wU I I) (rfl) λF h9=>⟨⟨⟨Qy.nil F _ _,rfl,aq _⟩,DG.nil _,by simp[NZ],by rw[yi];exact(Int.ediv_eq_zero_of_lt (JJ XY da) hlt).symm⟩,h9.1.1,da,za,(Int.emod_eq_of_lt (JJ XY da) hlt).symm⟩
 have hge:dv B9 b<=dv B9 a:=by have:=wj hc;unfold YF at this;split at this;exact absurd this tF;omega
 refine wC 6 I<|QA (Qg I Q2)<|wD 3 I ?_
 refine QQ I (λhc=>?_) λhc=>?_
 ·have hn1:n'=1:=tD<|wi hc
  subst hn1;obtain⟨f1,_⟩:=dJ (n:=0) db zb nb;have bx:=db.Qm XY 0;have d0:=bx.2;refine wA 4 I<|QA (Q3 (n:=1) (0) (λF h9=>(h9.1.2).1) rfl wS Q2 JK O)<|QA (JA (n:=1) ((0)*1) (λF h9=>(h9.1.2).1) O rfl JK (Jz (o:=b) O))<|QI I (λ_ _ f k=>jF f (ra:=⟨q,n,c⟩) k.1.1 (da) O O (d0)) λc37=>wD 8 I<|XV _ (λ_ _ f k=>k.2.2) λp37=>wA 3 I<|Qb I (Q5 Q2) JK R4 I I λb42=>QI I (λ_ _ f k=>Tx f (r:=⟨some ⟨b42,0,none⟩,1,1⟩) (J8.one k.2) tJ) λc43=>wD 4 I ?_
  refine QX ?_;exact Je (((c37.1.1,c37.1.2),(⟨some ⟨b42,0,none⟩,(Jf [c37.2]).length,1⟩,Jf [c37.2])):(Sr×List Int)×(Sr×List Int)) I (wU I I) (rfl) λF h9=>QGQ nb db c37 h9.1.1.2 h9.2
 have hn2:n'≠1:=λe=>wj hc O;obtain⟨m,rfl⟩:∃m,n'=m+2:=⟨n'-2,O⟩;obtain⟨f1,f2,f3,f4⟩:=dJ (n:=m+1) db zb nb;have bx:=db.Qm XY (m+1);rw[h9]at bx f2 f3 f4;have d1f:DG B9 [1000000000/(Qm b (m+1)+1)]:=DG.cons O f3 (DG.nil _);refine wC 6 I<|QA (Qg I Q2)<|QA (X3 I I O)<|QA (Q3 (n:=(m+2)) (m+1) (λF h9=>(h9.1.2).1) rfl wS Q2 JK O)<|QA (JA (n:=(m+2)) ((m+1)*1) (λF h9=>(h9.1.2).1) O rfl JK (Jz (o:=b) O))<|QA (Qu I I O)<|QA (SO I I O O O)<|Qb I (Q5 Q2) JK R4 I I λb52=>wD 7 I ?_
 refine QI I (λ_ _ f k=>Tz f (ra:=⟨q',m+2,c'⟩) (rb:=⟨some ⟨b52,0,none⟩,1,1⟩) k.1.1.2 (J8.one k.2) (db) (d1f) O (by first | omega | (simp;done) | (simp;omega))) (λc55=>?_);rcases c55 with ⟨v55,l55⟩;dsimp only;refine JQ _ (λw F hF ⟨⟨⟨⟨hA,hB⟩,_⟩,hs52⟩,⟨h55,h55p⟩⟩=>aM h55.2 h55p) (λp55=>wZ rfl<|QG ?_);obtain⟨⟨n55,c55⟩,d55,e55,z55,m55⟩:=p55;rw[QCE]at e55;have l55l:l55.length=m+2:=QE7 db zb nb d55 z55 e55 f2 f4;obtain⟨qv,nv,cv⟩:=v55;dsimp only at n55 c55 ⊢;obtain rfl:nv=m+2:=O;have zv:0<Qm l55 (m+1):=tD ((dJ (n:=m+1) d55 z55 l55l).1);have hlab:b.length<=a.length:=RT db da zb hge;refine wA 2 I<|QA (Qg I Q2)<|wD 5 I<|Gf (Q5 Q2) JK λb58=>wB 2 I ?_
 refine QI I (λ_ _ f k=>Tz f (ra:=⟨q,n,c⟩) (rb:=⟨some ⟨b52,0,none⟩,1,1⟩) k.1.1.1.1 (J8.one k.1.2) (da) (d1f) O (by first | omega | (simp;done) | (simp;omega))) (λc61=>?_);rcases c61 with ⟨v61,l61⟩;dsimp only;refine JQ _ (λw F hF ⟨⟨⟨⟨⟨hA,hB⟩,_⟩,hs52⟩,⟨h55,h55p⟩⟩,⟨h61,h61p⟩⟩=>aM h61.2 h61p) (λp61=>?_);obtain⟨⟨n61,c61⟩,d61,e61,z61,m61⟩:=p61;rw[QCE]at e61;have hpos:0<l61.length:=by
  rcases aA l61.length with g | g
  ·rw[aj g,yi]at e61;have:0<dv B9 a*(1000000000/(Qm b (m+1)+1)):=Int.mul_pos O O;omega
  exact g
 obtain⟨qa,na',ca⟩:=v61;dsimp only at n61 c61 ⊢;refine JQ _ (λ_ _ f h=>h.2.1.1.ptr (by dsimp only;omega)) (λhq=>?_);obtain⟨qab,qao,hq⟩:=hq;dsimp only at hq;subst hq;simp only[aK]at m61;refine Z4 (bs1:=[]) (ob:=[(b58,.cells #[] 3 (0,0))]) (n:=0) (k:=na') (sz:=1) (olds:=[]) (news:=l61.map Jo) rfl rfl Q2 JK R4 rfl F6 (Q8.some (l:=[]) (rest:=[]) rfl rfl (aq _) (aE _)) (Src.QI5 (λF h=>h.2.1.1) O tK) O O (λv hv=>by obtain⟨x,_,rfl⟩:=List.mem_map.1 hv;rfl) (λv62 ob62 hr62=>wD 5 I<|JU (ι:=QJT a (1000000000/(Qm b (m+1)+1))) [(0,_),(8,_),(9,_),(10,_)] (λi=>[(11,i.v)]) (λi=>i.ob) (λi F=>True) (λi=>a.length+1-i.U.length) (⟨l61,v62,ob62,O,d61,e61,by rw[n61];simpa using hr62⟩) wv wk we tL λi=>?_);simp only[ae,af];have hle:=i.le;refine wA 4 I<|QA (Oz I i.hr Q2)<|wW I<|QA (Qg I Q2)<|QA (Qu I I O)<|wD 3 I ?_
 refine QQ I (λhc=>?_) λhc=>?_
 ·refine wC 5 I<|Qb I (Q5 Q2) JK R4 I I λb70=>?_
  refine Z4 (bs1:=[]) (ob:=i.ob) (k:=1) (sz:=1) (news:=[.int .i64 0]) I I Q2 JK R4 I F6 i.hr (Src.row (off:=0) tO (λj v hv=>by rw[aR];show([.int .i64 0].toArray)[j]?=some v;rw[aC];exact hv) rfl) O O (Kd wk) (λv71 ob71 hr71=>?_);refine wB 2 I<|Qj ?_
  exact Ql (⟨i.U++[0],v71,ob71,by have:=wi hc;simp;omega,i.du.append (DG.cons tF tF (DG.nil _)),by rw[X9,i.h];simp,by simpa[Jo]using hr71⟩) (by have:=wi hc;show a.length+1-(i.U++[0]).length<a.length+1-i.U.length;rw[ay,aK];omega) wy we λF h=>⟨h.1.1,trivial⟩
 refine Qx ?_
 repeat first|refine QY ?_|refine QO tH ?_
 refine QZ<|QC<|QG ?_
 have hle0:=i.le;have hU:i.U.length=a.length+1:=tD<|wj hc
 obtain⟨U0,vU,obU,hle0,du0,hU0,hr0⟩:=i;dsimp only at hU hle0 hU0 ⊢;rw[hU]at hr0;obtain⟨bu,cu,rest,rfl,rfl,hcu⟩:=hr0.big O;refine wA 2 I<|QA (Qg I Q2)<|wW I<|QA (X3 I I O)<|Mm (n:=a.length+1-(m+2)) (bytes:=8) wS wS Q2 JK R4 I F6 O O λbq=>?_
 rw[show Xg [ab .i64 0] (a.length+1-(m+2))=(aX (a.length+1-(m+2)) (0:Int)).map Jo by rw[Ti];simp[Jo]];refine ZL (List.Perm.swap _ _ _)<|wD 7 I<|QA (Qg I Q2)<|wW I<|QA (X3 I I O)<|QA (X3 I I O)<|wD 4 I<|JU (ι:=Ce a l55 (1000000000/(Qm b (m+1)+1)) (m+2)) [(8,_),(9,_),(10,_),(11,_),(12,_)] (λi2=>[(13,.int .i64 ((i2.k:Int)-1))]) (λi2=>[(bu,.cells (i2.U.map Jo++rest).toArray 3 (0,0)),(bq,.cells (i2.Q.map Jo).toArray 3 (0,0))]) (λi2 F=>True) (λi2=>i2.k) (Ce.start da db zb nb e55 f2 du0 hU hU0 O) wy ⟨(congrArg (λz:Int=>some (ab .i64 z)) (by simp only[Ce.start];omega)),trivial⟩ we tL λi2=>?_
 simp only[ae,af];have hle2:=i2.le;have lu2:=i2.lu;have lq2:=i2.lq;refine wA 7 I ?_;refine QQ I (λhc=>?_) λhc=>?_
 ·have hk0:0<i2.k:=tD<|wi hc
  rw[show((i2.k:Int)-1)=((i2.k-1:Nat):Int) by omega];obtain⟨hst,hwe⟩:=i2.ue d55 zv l55l hk0;have hz0:=i2.zero d55 l55l;refine wC 9 I<|XX (bs1:=_) rfl (bB _) (QEn (rest:=rest) (U:=i2.U) (v:=l55) (j:=(i2.k-1)) (m:=m) (rv:=⟨qv,m+2,cv⟩) lu2 O O (λF h9=>h9.1.1.1.2.1) hst) λt89=>JQ _ (λ_ _ f h=>h.2) λg89=>?_
  obtain⟨t0,t1,t2,t3⟩:=g89;rw[<-hwe]at t2 t3;refine wD 15 I<|JU (ι:=QJO i2.U l55 (i2.k-1) t89) [(8,_),(9,_),(10,_),(11,_),(12,_),(13,_),(14,_)] (λi3=>[(15,.int .i64 (i3.br)),(16,.int .i64 ((i3.i:Nat):Int))]) (λi3=>[(bu,.cells (i3.U'.map Jo++rest).toArray 3 (0,0)),(bq,.cells (i2.Q.map Jo).toArray 3 (0,0))]) (λi3 F=>True) (λi3=>l55.length-i3.i) (⟨0,i2.U,0,aE _,vC.start tF i2.du _ _⟩) w6 wm we tL λi3=>?_
  simp only[ae,af];have hle3:=i3.le;have lU3:=i3.h.len;have br0:=i3.h.br0;have br1:=i3.h.br1;rw[h9]at br1;refine wA 8 I ?_;refine QQ I (λhc=>?_) λhc=>?_
  ·have hi3:i3.i<m+2:=tD<|wi hc
   have bd:=QGC TL ⟨t0,t1⟩ (d55.Qm XY i3.i) ⟨i3.h.br0,i3.h.br1⟩;simp only[h9]at bd;have bu3:=i3.h.dg.Qm XY ((i2.k-1)+i3.i);rw[h9]at bu3;have hd3:Qm i3.U' ((i2.k-1)+i3.i)=Qm i2.U ((i2.k-1)+i3.i):=Gi i3.h.hi (aq _);refine wC 9 I<|QA (Q3 (n:=(m+2)) (i3.i) (λF h9=>(h9.1.1.1.1.1.2.1).1) rfl rfl Q2 JK O)<|QA (JA (n:=(m+2)) ((i3.i)*1) (λF h9=>(h9.1.1.1.1.1.2.1).1) O rfl JK (Jz (o:=l55) O))<|QA (Mx I I O)<|wW I<|QA (Qu I I O)<|wD 8 I<|QA (Qu I I O)<|QA (JL (i:=(i2.k-1)+i3.i) rfl wS Q2 JK O)<|QA (V1 (c:=(i3.U').map Jo++rest) (T':=3) rfl JK .here (WR (by first | omega | (simp only[ar];omega)))) ?_
   refine wW I<|QA (H9 I I O O)<|QA (X3 I I O)<|wD 6 I<|QA (SO I I O O O)<|wD 10 I ?_
   refine QQ I (λhc=>?_) λhc=>?_
   ·have hx:=wi hc;refine wb I<|QA (Qu I I O)<|wD 5 I<|QA (Qu I I O)<|wD 7 I<|QA (Qu I I O)<|wW I<|QA (JL (i:=(i2.k-1)+i3.i) rfl wS Q2 JK O)<|QW (vs:=[_]) I I I JK I .here (BB (by first | omega | (simp only[ar];omega)) (((Qm (i3.U') ((i2.k-1)+i3.i)-(((t89*Qm l55 (i3.i))+i3.br)%1000000000))+1000000000))) wk<|QE<|Qj<|QC<|QB ?_
    refine wW I<|QA (Qu I I O)<|wB 2 I ?_
    exact Ql (⟨i3.i+1,((i3.U').set ((i2.k-1)+i3.i) (((Qm (i3.U') ((i2.k-1)+i3.i)-(((t89*Qm l55 (i3.i))+i3.br)%1000000000))+1000000000))),((((t89*Qm l55 (i3.i))+i3.br)/1000000000)+1),O,i3.h.step O (by rw[h9];omega) (by rw[h9];omega) (by rw[h9,<-hd3];omega)⟩) (by show l55.length-(i3.i+1)<l55.length-i3.i;omega) w9 we λF h=>⟨h.1,trivial⟩
   have hx:=wj hc;refine wC 6 I<|QA (Qu I I O)<|wW I<|QA (JL (i:=(i2.k-1)+i3.i) rfl wS Q2 JK O)<|QW (vs:=[_]) I I I JK I .here (BB (by first | omega | (simp only[ar];omega)) ((Qm (i3.U') ((i2.k-1)+i3.i)-(((t89*Qm l55 (i3.i))+i3.br)%1000000000)))) wk<|QE<|Qj<|wE 3 I<|QA (Qu I I O)<|wB 2 I ?_
   exact Ql (⟨i3.i+1,((i3.U').set ((i2.k-1)+i3.i) ((Qm (i3.U') ((i2.k-1)+i3.i)-(((t89*Qm l55 (i3.i))+i3.br)%1000000000)))),(((t89*Qm l55 (i3.i))+i3.br)/1000000000),O,i3.h.step O (by rw[h9];omega) (by rw[h9];omega) (by rw[h9,<-hd3];omega)⟩) (by show l55.length-(i3.i+1)<l55.length-i3.i;omega) w9 we λF h=>⟨h.1,trivial⟩
  have hi3:i3.i=m+2:=tD<|wj hc
  refine Qx ?_
  repeat first|refine QY ?_|refine QO tH ?_
  refine QZ<|QC<|QG ?_
  have hs3:vC B9 i2.U l55 (i2.k-1) t89 (m+2) i3.U' i3.br:=by have:=i3.h;rw[hi3]at this;exact this
  have hd3:Qm i3.U' ((i2.k-1)+(m+2))=Qm i2.U ((i2.k-1)+(m+2)):=Gi hs3.hi (aq _);have hS:=hs3.stop TL l55l O;rw[<-hd3]at hS;have bu4:=i2.du.Qm XY ((i2.k-1)+(m+2));rw[h9,<-hd3]at bu4;have htp:=hS.tp;have hz1:dv B9 (i2.U.drop ((i2.k-1)+(m+2)+1))=0:=by rw[show(i2.k-1)+(m+2)+1=i2.k+(m+2) by omega];exact hz0
  refine wA 4 I<|QA (Qu I I O)<|wB 3 I<|QA (Qu I I O)<|QA (JL (i:=(i2.k-1)+(m+2)) I wS Q2 JK O)<|QA (V1 (c:=(i3.U').map Jo++rest) (T':=3) rfl JK .here (WR (by first | omega | (simp only[ar];omega))))<|wW I<|QA (X3 I I O)<|QA (JL (i:=(i2.k-1)+(m+2)) I wS Q2 JK O)<|QW (vs:=[_]) I I I JK I .here (BB (by first | omega | (simp only[ar];omega)) ((Qm (i3.U') ((i2.k-1)+(m+2))-i3.br))) wk<|wD 8 I<|QA (Qu I I O)<|QA (JL (i:=(i2.k-1)+(m+2)) I wS Q2 JK O) ?_
  refine QA (V1 (c:=(((i3.U').set ((i2.k-1)+(m+2)) ((Qm (i3.U') ((i2.k-1)+(m+2))-i3.br)))).map Jo++rest) (T':=3) rfl JK .here (WR (by first | omega | (simp only[ar];omega))))<|wD 3 I ?_
  refine QQ I (λhc=>?_) λhc=>?_
  ·have hneg:Qm i3.U' ((i2.k-1)+(m+2))-i3.br<0:=by have:=wi hc;rw[htp]at this;exact this
   refine wb I<|QA (X3 I I O)<|wD 15 I<|JU (ι:=QJc (i3.U'.set ((i2.k-1)+(m+2)) (Qm i3.U' ((i2.k-1)+(m+2))-i3.br)) l55 (i2.k-1) (m+2)) [(8,_),(9,_),(10,_),(11,_),(12,_),(13,_),(14,_)] (λi4=>[(19,.int .i64 (i4.c)),(20,.int .i64 ((i4.i:Nat):Int))]) (λi4=>[(bu,.cells (i4.U'.map Jo++rest).toArray 3 (0,0)),(bq,.cells (i2.Q.map Jo).toArray 3 (0,0))]) (λi4 F=>True) (λi4=>m+2-i4.i) (⟨0,_,0,aE _,IU.start hS.dg⟩) w6 wm we tL λi4=>?_
   simp only[ae,af];have hle4:=i4.le;have lU4:=i4.h.len;rw[ar]at lU4;have c40:=i4.h.c0;have c41:=i4.h.c1;refine wA 8 I ?_;refine QQ I (λhc=>?_) λhc=>?_
   ·have hi4:i4.i<m+2:=tD<|wi hc
    have bu5:=i4.h.Qm TL hi4;have bv5:=d55.Qm XY i4.i;rw[h9]at bu5 bv5;have hd4:=Gi i4.h.hi (aq _);refine wC 5 I<|JG we mixed tE<|QK (QD I)<|QK (QD I)<|QK (QD I)<|QK (Qu I I O)<|QK (JL (i:=(i2.k-1)+i4.i) rfl wS Q2 JK O)<|QK (V1 (c:=(i4.U').map Jo++rest) (T':=3) rfl JK .here (WR (by first | omega | (simp only[ar];omega))))<|QK (QD I)<|QK (QD I)<|QK (Q3 (n:=(m+2)) (i4.i) (λF h9=>(h9.1.1.1.1.1.1.2.1).1) rfl rfl Q2 JK O)<|QK (JA (n:=(m+2)) ((i4.i)*1) (λF h9=>(h9.1.1.1.1.1.1.2.1).1) O rfl JK (Jz (o:=l55) O))<|QK (Qu I I O)<|QK (QD I)<|QK (Qu I I O)<|QK (QF I)<|Q7<|wE 4 I ?_
    refine wB 2 I<|QA (Qu I I O)<|wW I<|QA (H9 I I O O)<|QA (JL (i:=(i2.k-1)+i4.i) rfl wS Q2 JK O)<|QW (vs:=[_]) I I I JK I .here (BB (by first | omega | (simp only[ar];omega)) ((((Qm (i4.U') ((i2.k-1)+i4.i)+Qm l55 (i4.i))+i4.c)%1000000000))) wk<|wD 4 I<|QA (SO I I O O O)<|wB 2 I<|Qj<|wE 3 I<|QA (Qu I I O)<|wB 2 I ?_
    exact Ql (⟨i4.i+1,((i4.U').set ((i2.k-1)+i4.i) ((((Qm (i4.U') ((i2.k-1)+i4.i)+Qm l55 (i4.i))+i4.c)%1000000000))),(((Qm (i4.U') ((i2.k-1)+i4.i)+Qm l55 (i4.i))+i4.c)/1000000000),O,i4.h.step hi4 (by rw[ar];omega) (by rw[h9];omega) O (by rw[h9,<-hd4];omega)⟩) (by show m+2-(i4.i+1)<m+2-i4.i;omega) w9 we λF h=>⟨h.1,trivial⟩
   have hi4:i4.i=m+2:=tD<|wj hc
   refine Qx ?_
   repeat first|refine QY ?_|refine QO tH ?_
   refine QZ<|QC ?_
   have hA4:Ig.IU B9 (i3.U'.set ((i2.k-1)+(m+2)) (Qm i3.U' ((i2.k-1)+(m+2))-i3.br)) l55 (i2.k-1) (m+2) (m+2) i4.U' i4.c:=by have:=i4.h;rw[hi4]at this;exact this
   have hd5:Qm i4.U' ((i2.k-1)+(m+2))=Qm i3.U' ((i2.k-1)+(m+2))-i3.br:=by rw[Gi hA4.hi (aq _)];exact htp
   have hS5:uL B9 i2.U l55 (i2.k-1) (m+2) t89 (i3.U'.set ((i2.k-1)+(m+2)) (Qm i3.U' ((i2.k-1)+(m+2))-i3.br)) (Qm i4.U' ((i2.k-1)+(m+2))):=by rw[hd5];exact hS
   obtain⟨g1,g2,g3,g4,g5⟩:=hA4.QHn TL hS5 i2.du d55 l55l hz1 O (by rw[hd5];exact hneg) t2;have lU4:=i4.h.len;rw[ar]at lU4;have b5:Qm i4.U' ((i2.k-1)+(m+2))=Qm i3.U' ((i2.k-1)+(m+2))-i3.br:=hd5;refine wA 4 I<|QA (Qu I I O)<|wB 3 I<|QA (Qu I I O)<|QA (JL (i:=(i2.k-1)+(m+2)) I wS Q2 JK O)<|QA (V1 (c:=(i4.U').map Jo++rest) (T':=3) rfl JK .here (WR (by first | omega | (simp only[ar];omega))))<|wW I<|QA (Qu I I O)<|QA (JL (i:=(i2.k-1)+(m+2)) I wS Q2 JK O)<|QW (vs:=[_]) I I I JK I .here (BB (by first | omega | (simp only[ar];omega)) ((Qm (i4.U') ((i2.k-1)+(m+2))+i4.c))) wk<|wD 6 I<|QA (JL (i:=(i2.k-1)) I wS Q2 JK O)<|QW (vs:=[_]) I I I JK I .u1 (SC (by first | omega | (simp only[ar];omega)) ((t89-1))) wk<|QE<|Qj ?_
   refine wE 3 I<|QA (X3 I I O)<|wB 2 I ?_
   exact Ql (i2.next hk0 O (t:=t89-1) g4 O g1 g2 g3 g5) (by show i2.k-1<i2.k;omega) wz we λF h=>⟨h.1.1.1.1,trivial⟩
  have hneg:0<=Qm i3.U' ((i2.k-1)+(m+2))-i3.br:=by have:=wj hc;rw[htp]at this;omega
  obtain⟨g1,g2,g3⟩:=hS.QHn TL O hneg (by rw[h9];omega) t3;refine wC 6 I<|QA (JL (i:=(i2.k-1)) I wS Q2 JK O)<|QW (vs:=[_]) I I I JK I .u1 (SC (by first | omega | (simp only[ar];omega)) (t89)) wk<|QE<|Qj<|wE 3 I<|QA (X3 I I O)<|wB 2 I ?_
  exact Ql (i2.next hk0 O (t:=t89) t0 t1 g1 g2 g3 hS.len) (by show i2.k-1<i2.k;omega) wz we λF h=>⟨h.1.1.1,trivial⟩
 have hk0:i2.k=0:=tD<|wj hc
 refine Qx ?_
 repeat first|refine QY ?_|refine QO tH ?_
 refine QZ<|QC<|QG ?_
 obtain⟨s1,s2⟩:=i2.stop hk0 db da e55 f2 hb d55 l55l;have lt40:=Vk (i2.U.take (m+2));rw[av]at lt40;refine DP (b:=bu) .here<|DP (b:=bq) .here<|JG we mixed tE<|QK (QD I)<|QK (QD I)<|QK (NV (m+2) rfl rfl rfl Q2 JK O)<|QR I (λ_ _ f k=>Tx f (r:=⟨some ⟨bu,0,none⟩,m+2,cu⟩) ((J8.own k.1.2 i2.lu hcu).take O) (by rw[av];omega)) λc196=>QK (QD I)<|QK (Q3 (n:=1) (0) (λF h9=>(Qy.of (n:=1) (sz:=1) h9.1.1.1.1.1.1.2 I)) I wS Q2 JK O)<|QK (JA (n:=1) ((0)*1) (λF h9=>(Qy.of (n:=1) (sz:=1) h9.1.1.1.1.1.1.2 I)) O rfl JK I)<|QR I (λ_ _ f k=>jF f (a:=Jf (i2.U.take (m+2))) (ra:=⟨some ⟨bu,0,none⟩,(Jf (i2.U.take (m+2))).length,cu⟩) k.2 ((i2.du.take _).Jf) O (f2) (f3)) λc200=>QK (QD I)<|QK (Qa I I)<|QK (Qa I I)<|QK (QF I)<|QK (QF I)<|Q7<|wE 4 I<|QI I (λ_ _ f k=>Tx f (r:=⟨some ⟨bq,0,none⟩,a.length+1-(m+2),a.length+1-(m+2)⟩) (J8.QI8 k.1.1.2 i2.lq (aq _)) O) λc204=>wB 3 I ?_
 refine wY<|QX ?_
 exact Je (((⟨some ⟨bq,0,none⟩,(Jf i2.Q).length,a.length+1-(m+2)⟩,Jf i2.Q),(c200.1.1,c200.1.2)):(Sr×List Int)×(Sr×List Int)) I (wU I I) (rfl) λF h9=>⟨⟨h9.2,i2.dq.Jf,Zu _,by show dv B9 (Jf i2.Q)=_;rw[ZH];exact s1⟩,h9.1.2.1,h9.1.2.2.1,h9.1.2.2.2.1,QEp O (by rw[<-s2,<-ZH];exact h9.1.2.2.2.2.2.2.1) h9.1.2.2.2.2.1 h9.1.2.2.2.2.2.1⟩
section
variable{P:Program}{N:Nat}{m:Sl}{S:World->Prop}{ty:TypeId}
def vg(P:Program)(T:TypeId):Bool:=match P.underlying T with
 |some .bool=>true
 |_=>false
def QGn(h:vg P T=true):P.underlying T=some .bool:=by
 unfold vg at h;split at h
 ·assumption
 cases h
theorem xO(hT:vg P T=true)(a b:Bool)(w:World):(Op.equal T (.bool a) (.bool b)).run P w = .ok (a==b) w:=by
 have e:∃n,Op.maxDepth=n+1:=⟨Op.maxDepth-1,tF⟩;obtain⟨n,e⟩:=e;unfold Op.equal;rw[e];unfold Op.equalIn;simp[run_underlying (QGn hT)]
theorem QHV{x:Operand}{a b:Bool}(hT:vg P T=true)(hx:ev m x=some (.bool a))(hy:ev m y=some (.bool b)):Qt P N m S (.binOp .eql T x y yT) ty (.bool (a==b)):=λs w _ _ _ _ ha _=>by
 simp only[execOp,ha.ev hx,ha.ev hy,eqGuard,binOp,fu,fq,eU,xO hT];rfl
theorem QHU{x:Operand}{a b:Bool}(hT:vg P T=true)(hx:ev m x=some (.bool a))(hy:ev m y=some (.bool b)):Qt P N m S (.binOp .neq T x y yT) ty (.bool (!(a==b))):=λs w _ _ _ _ ha _=>by
 simp only[execOp,ha.ev hx,ha.ev hy,eqGuard,binOp,fu,fq,eU,xO hT];rfl
end
structure Ri where
 neg:Bool
 r:Sr
 l:List Int
@[reducible] def Ri.v (x:Ri):Value:=.agg #[.bool x.neg,.slice x.r.q x.r.n x.r.cap]
def Iv(neg:Bool)(l:List Int):Int:=if neg=true then -dv B9 l else dv B9 l
def E4(F:Gs)(x:Ri)(z:Int):Prop:=J8 F x.r x.l/\DG B9 x.l/\NZ x.l/\z=Iv x.neg x.l/\(x.neg=true->0<dv B9 x.l)
def E4.le{F':Gs}{x:Ri}(h:E4 F x z)(k:Gs.le F F'):E4 F' x z:=⟨h.1.le k,h.2⟩
abbrev Il(P:Program)(f:FuncId)(args:List Value)(w:World)(F:Gs)(z:Int):Prop:=QU P f args w F Ri.v λx F=>E4 F x z
structure Ry(neg:Bool)(l:List Int)(z:Int):Prop where
 dg:DG B9 l
 nz:NZ l
 e:z=Iv neg l
 ng:neg=true->0<dv B9 l
def E4.p{x:Ri}(h:E4 F x z):Ry x.neg x.l z:=⟨h.2.1,h.2.2.1,h.2.2.2.1,h.2.2.2.2⟩
def Ry.v0{neg:Bool}(h:Ry neg l z):0<=dv B9 l:=JJ XY h.dg
def Ry.abs{neg:Bool}(h:Ry neg l z):(z.natAbs:Int)=dv B9 l:=by
 have:=h.v0;rw[h.e,Iv];split<;>omega
theorem QJC(h:DG B9 l)(z:NZ l):l.length<=sz (dv B9 l):=by
 rcases aA l.length with g | g
 ·omega
 have h1:=Rm XY h z (by intro e;rw[e]at g;simp at g);have h2:=E6 (dv B9 l);have h3:=JJ XY h;rcases aN (sz (dv B9 l)) l.length with q | q
 ·exfalso;have h4:(2:Int)^(l.length-1)<=B9^(l.length-1):=by
   have:∀n:Nat,(2:Int)^n<=B9^n:=by
    intro n
    induction n with
    |zero=>simp
    |succ n ih =>
     rw[aO,aO];exact bI ih tF tF (Int.le_of_lt (pow_pos XY n))
   exact this _
  have h5:(2:Int)^sz (dv B9 l)<=2^(l.length-1):=Ig.X0 tF O;have h6:((dv B9 l).natAbs:Int)<((2^sz (dv B9 l):Nat):Int):=Int.ofNat_lt.2 h2;rw[Int.natCast_pow]at h6;have:((2:Nat):Int)=2:=rfl;rw[this]at h6;omega
 exact q
def Ry.len{neg:Bool}(h:Ry neg l z):l.length<=sz z:=by
 have:=QJC h.dg h.nz;have e:sz (dv B9 l)=sz z:=by
  rw[<-h.abs];unfold sz;simp
 omega
def Ry.neg{neg:Bool}(h:Ry neg l z):neg=decide (z<0):=by
 have h0:=h.v0;cases neg with
 |true=>have:=h.ng I;have e:=h.e;simp only[Iv,if_true]at e;symm;rw[decide_eq_true_eq];omega
 |false=>have e:=h.e;simp only[Iv]at e;symm;rw[decide_eq_false_iff_not];simp at e;omega
def Ry.zero{neg:Bool}(h:Ry neg l z):l=[]↔z=0:=by
 have:=GF TL h.dg h.nz;have e:=h.abs;rw[<-this];omega
def QES(h:DG B9 l):(0<(Jf l).length)↔0<dv B9 l:=by
 have h1:=GF TL h.Jf (Zu l);rw[ZH]at h1;have h2:=JJ XY h;rw[<-eM]at h1;omega
theorem Hg{r:Sr}{neg:Bool}(hF:Fits F w)(hR:J8 F r l)(dg:DG B9 l)(hl:l.length<=1000000000):Il prog 194 [.bool neg,r.v] w F (Iv neg l):=by
 obtain⟨q,n,c⟩:=r;have hn:=hR.2.1;dsimp only[Sr.v]at hn ⊢;have hlz:=Vk l;have htp:=QES dg;have hv0:=JJ XY dg;refine QU.intro (G:=λF=>J8 F ⟨q,n,c⟩ l) func194 rfl tH rfl rfl hF (λF' hF'=>hR.le hF')<|wa<|Qc Wk λb4=>wY<|wb rfl<|QI rfl (λ_ _ f k=>Tx f (r:=⟨q,n,c⟩) k (hl)) λc6=>wZ rfl<|wb rfl<|wW rfl ?_
 refine Qn (t:=8) rfl (λhb8=>?_) λhb8=>?_
 ·refine wB 3 I<|QA (Qg I Q2)<|wB 4 I<|QA (Q4 I QEw Wk (wV I I I))<|QW (vs:=[_,_]) I I I XB I .here .h2 wm<|wY<|QX ?_
  exact QP ((⟨decide ((((Jf l).length:Nat):Int)>0),⟨q,(Jf l).length,c⟩,Jf l⟩:Ri)) I (.JX (c:=[_,_]) I XB .here .nil) (rfl) λF ⟨hR,h6⟩=>⟨h6,dg.Jf,Zu _,by show Iv neg l=Iv (decide ((((Jf l).length:Nat):Int)>0)) (Jf l);rw[Iv,Iv,ZH];cases neg<;>simp_all<;>omega,λhh=>by show 0<dv B9 (Jf l);rw[ZH];simp_all⟩
 refine wB 5 I<|QA (Q4 I QEw Wk (wV I I I))<|QW (vs:=[_,_]) I I I XB I .here .h2 wm<|wY<|QX ?_
 exact QP ((⟨false,⟨q,(Jf l).length,c⟩,Jf l⟩:Ri)) I (.JX (c:=[_,_]) I XB .here .nil) (rfl) λF ⟨hR,h6⟩=>⟨h6,dg.Jf,Zu _,by show Iv neg l=Iv false (Jf l);rw[Iv,Iv,ZH];cases neg<;>simp_all<;>omega,λhh=>by show 0<dv B9 (Jf l);rw[ZH];simp_all⟩
theorem QDE:vg prog 4=true:=tE
def QGl{x y:Int}(h:YF x y>=0):y<=x:=by
 unfold YF at h;split at h
 ·omega
 split at h<;>omega
def QFW{x y:Int}(h:¬YF x y>=0):x<=y:=by
 unfold YF at h;split at h
 ·omega
 split at h<;>omega
theorem uu{x:Ri}(hF:Fits F w)(hx:E4 F x zx)(hz:sz zx<=1000000):Il prog 192 [x.v] w F (-zx):=by
 obtain⟨xn,⟨xq,xm,xc⟩,xl⟩:=x;have px:=hx.p;have lx:=px.len;have kx:=hx.1.2.1;have vx:=px.v0;dsimp only at px lx kx vx;dsimp only[Ri.v];have eqn : -zx=Iv (!xn) xl:=by rw[px.e];cases xn<;>simp[Iv]
 refine QU.intro (G:=λF=>E4 F ⟨xn,⟨xq,xm,xc⟩,xl⟩ zx) func192 rfl tH rfl rfl hF (λF' hF'=>hx.le hF')<|wa<|Qp rfl (vs:=[_,_]) rfl λb1=>Qc Wk λb2=>wY<|wa<|QA (QH rfl Ea R5)<|QA (Qe rfl R5 .u1 .h1)<|QA (XL rfl)<|QA (QH rfl K2 JM)<|QA (Qe rfl JM .u1 (.skip .h1))<|QI rfl (λ_ _ f k=>Hg f (r:=⟨xq,xm,xc⟩) (l:=xl) (neg:=!xn) k.1 (px.dg) O) λc8=>QW (vs:=[_,_]) rfl rfl rfl XB rfl .here .h2 wm<|wY<|QX ?_
 exact QP (c8) rfl (.JX (c:=[_,_]) I XB .here .nil) (rfl) λF h9=>(by rw[eqn];exact h9.2)
theorem DF{x y:Ri}{zy:Int}(hF:Fits F w)(hx:E4 F x zx)(hy:E4 F y zy)(hzx:sz zx<=1000000)(hzy:sz zy<=1000000):Il prog 101 [x.v,y.v] w F (zx*zy):=by
 obtain⟨xn,⟨xq,xm,xc⟩,xl⟩:=x;have px:=hx.p;have lx:=px.len;have kx:=hx.1.2.1;have vx:=px.v0;dsimp only at px lx kx vx;obtain⟨yn,⟨yq,ym,yc⟩,yl⟩:=y;have py:=hy.p;have ly:=py.len;have ky:=hy.1.2.1;have vy:=py.v0;dsimp only at py ly ky vy;dsimp only[Ri.v];refine QU.intro (G:=λF=>E4 F ⟨xn,⟨xq,xm,xc⟩,xl⟩ zx/\E4 F ⟨yn,⟨yq,ym,yc⟩,yl⟩ zy) func101 rfl tH rfl rfl hF (λF' hF'=>⟨hx.le hF',hy.le hF'⟩)<|wa<|Qp rfl (vs:=[_,_]) rfl λb2=>Qp rfl (vs:=[_,_]) rfl λb3=>Qc Wk λb4=>wY<|QG<|JG (.cons _ tP) mixed tE<|QK (QH rfl Ea R5)<|QK (Qe rfl R5 .u1 .h1)<|QK (QH rfl Ea R5)<|QK (Qe rfl R5 .here .h1)<|QK (QHU QDE rfl rfl)<|QK (QH rfl K2 JM)<|QK (Qe rfl JM .u1 (.skip .h1))<|QK (QH rfl K2 JM)<|QK (Qe rfl JM .here (.skip .h1)) ?_
 refine QR I (λ_ _ f k=>Tz f (a:=xl) (b:=yl) (ra:=⟨xq,xm,xc⟩) (rb:=⟨yq,ym,yc⟩) k.1.1 (k.2.1) (px.dg) (py.dg) O (by first | omega | (simp;done) | (simp;omega))) (λc14=>?_);rcases c14 with ⟨v14,l14⟩;dsimp only;refine Yl _ (λw F hF ⟨⟨hx,hy⟩,⟨h14,h14p⟩⟩=>aM h14.2 h14p) (λp14=>?_);have eqn:zx*zy=Iv (!(xn==yn)) l14:=by
  have e14:=p14.2.2.1;rw[px.e,py.e];unfold Iv;rw[e14];cases xn<;>cases yn<;>simp[fB,Int.neg_mul]
 have m14:=p14.2.2.2.2;refine QR I (λ_ _ f k=>Hg f (r:=v14) (l:=l14) (neg:=!(xn==yn)) k.2.1 (p14.2.1) O) (λc15=>JV (vs:=[_,_]) I I I XB I .here tP (λ_ h=>h.1.1) .h2 wm<|Q7<|QC<|QX ?_);exact QP (c15) rfl (.JX (c:=[_,_]) I XB .here .nil) (rfl) λF h9=>(by rw[eqn];exact h9.2)
theorem QCo{x y:Ri}{zy:Int}(hF:Fits F w)(hx:E4 F x zx)(hy:E4 F y zy)(hzx:sz zx<=1000000)(hzy:sz zy<=1000000):Il prog 154 [x.v,y.v] w F (zx+zy):=by
 obtain⟨xn,⟨xq,xm,xc⟩,xl⟩:=x;have px:=hx.p;have lx:=px.len;have kx:=hx.1.2.1;have vx:=px.v0;dsimp only at px lx kx vx;obtain⟨yn,⟨yq,ym,yc⟩,yl⟩:=y;have py:=hy.p;have ly:=py.len;have ky:=hy.1.2.1;have vy:=py.v0;dsimp only at py ly ky vy;dsimp only[Ri.v];refine QU.intro (G:=λF=>E4 F ⟨xn,⟨xq,xm,xc⟩,xl⟩ zx/\E4 F ⟨yn,⟨yq,ym,yc⟩,yl⟩ zy) func154 rfl tH rfl rfl hF (λF' hF'=>⟨hx.le hF',hy.le hF'⟩)<|wa<|Qp rfl (vs:=[_,_]) rfl λb2=>Qp rfl (vs:=[_,_]) rfl λb3=>Qc Wk λb4=>wD 5 I<|QA (QH rfl Ea R5)<|QA (Qe rfl R5 .u2 .h1)<|QA (QH rfl Ea R5)<|QA (Qe rfl R5 .u1 .h1)<|QA (QHV QDE rfl rfl)<|QE<|QC ?_
 refine QQ I (λhc=>?_) λhc=>?_
 ·have hne:xn=yn:=by simpa using hc
  refine QG<|JG (.cons _ tP) mixed tE<|QK (QH I Ea R5)<|QK (Qe I R5 .u1 .h1)<|QK (QH I K2 JM)<|QK (Qe I JM .u1 (.skip .h1))<|QK (QH I K2 JM)<|QK (Qe I JM .here (.skip .h1)) ?_
  refine QR I (λ_ _ f k=>gh f (a:=xl) (b:=yl) (ra:=⟨xq,xm,xc⟩) (rb:=⟨yq,ym,yc⟩) k.1.1 (k.2.1) (px.dg) (py.dg) O (by first | omega | (simp;done) | (simp;omega))) (λc16=>?_);rcases c16 with ⟨v16,l16⟩;dsimp only;refine Yl _ (λw F hF ⟨⟨hx,hy⟩,⟨h16,h16p⟩⟩=>aM h16.2 h16p) (λp16=>?_);have eqn:zx+zy=Iv xn l16:=by
   have e16:=p16.2.2.1;rw[px.e,py.e,hne];unfold Iv;rw[e16];cases yn<;>simp<;>omega
  have m16:=p16.2.2.2;refine QR I (λ_ _ f k=>Hg f (r:=v16) (l:=l16) (neg:=xn) k.2.1 (p16.2.1) O) (λc17=>JV (vs:=[_,_]) I I I XB I .here tP (λ_ h=>h.1.1) .h2 wm<|Q7<|QC<|QX ?_);exact QP (c17) rfl (.JX (c:=[_,_]) I XB .here .nil) (rfl) λF h9=>(by rw[eqn];exact h9.2)
 have hne:xn=!yn:=by cases xn<;>cases yn<;>simp_all
 refine wC 5 I<|QA (QH I K2 JM)<|QA (Qe I JM .u2 (.skip .h1))<|QA (QH I K2 JM)<|QA (Qe I JM .u1 (.skip .h1))<|QI I (λ_ _ f k=>Su f (a:=xl) (b:=yl) (ra:=⟨xq,xm,xc⟩) (rb:=⟨yq,ym,yc⟩) k.1.1 (k.2.1) (px.dg) (py.dg) (px.nz) (py.nz) O O) λ_=>wD 3 I ?_
 refine QQ I (λhc=>?_) λhc=>?_
 ·have hle:dv B9 yl<=dv B9 xl:=QGl (wi hc);have hll:=RT py.dg px.dg py.nz hle;refine QG<|JG (.cons _ tP) mixed tE<|QK (QH I Ea R5)<|QK (Qe I R5 .u1 .h1)<|QK (QH I K2 JM)<|QK (Qe I JM .u1 (.skip .h1))<|QK (QH I K2 JM)<|QK (Qe I JM .here (.skip .h1)) ?_
  refine QR I (λ_ _ f k=>Om f (a:=xl) (b:=yl) (ra:=⟨xq,xm,xc⟩) (rb:=⟨yq,ym,yc⟩) k.1.1.1 (k.1.2.1) (px.dg) (py.dg) O O (hle)) (λc30=>?_);rcases c30 with ⟨v30,l30⟩;dsimp only;refine Yl _ (λw F hF ⟨⟨⟨hx,hy⟩,_⟩,⟨h30,h30p⟩⟩=>aM h30.2 h30p) (λp30=>?_);have eqn:zx+zy=Iv xn l30:=by
   have e30:=p30.2.2.1;rw[px.e,py.e,hne];unfold Iv;rw[e30];cases yn<;>simp<;>omega
  have m30:=p30.2.2.2;refine QR I (λ_ _ f k=>Hg f (r:=v30) (l:=l30) (neg:=xn) k.2.1 (p30.2.1) O) (λc31=>JV (vs:=[_,_]) I I I XB I .here tP (λ_ h=>h.1.1) .h2 wm<|Q7<|QC<|QX ?_);exact QP (c31) rfl (.JX (c:=[_,_]) I XB .here .nil) (rfl) λF h9=>(by rw[eqn];exact h9.2)
 have hle:dv B9 xl<=dv B9 yl:=QFW (wj hc);have hll:=RT px.dg py.dg px.nz hle;refine wC 3 I<|JG (.cons _ tP) mixed tE<|QK (QH I Ea R5)<|QK (Qe I R5 .here .h1)<|QK (QH I K2 JM)<|QK (Qe I JM .here (.skip .h1))<|QK (QH I K2 JM)<|QK (Qe I JM .u1 (.skip .h1)) ?_
 refine QR I (λ_ _ f k=>Om f (a:=yl) (b:=xl) (ra:=⟨yq,ym,yc⟩) (rb:=⟨xq,xm,xc⟩) k.1.2.1 (k.1.1.1) (py.dg) (px.dg) O O (hle)) (λc38=>?_);rcases c38 with ⟨v38,l38⟩;dsimp only;refine Yl _ (λw F hF ⟨⟨⟨hx,hy⟩,_⟩,⟨h38,h38p⟩⟩=>aM h38.2 h38p) (λp38=>?_);have eqn:zx+zy=Iv yn l38:=by
  have e38:=p38.2.2.1;rw[px.e,py.e,hne];unfold Iv;rw[e38];cases yn<;>simp<;>omega
 have m38:=p38.2.2.2;refine QR I (λ_ _ f k=>Hg f (r:=v38) (l:=l38) (neg:=yn) k.2.1 (p38.2.1) O) (λc39=>JV (vs:=[_,_]) I I I XB I .here tP (λ_ h=>h.1.1) .h2 wm<|Q7<|QC<|QX ?_);exact QP (c39) rfl (.JX (c:=[_,_]) I XB .here .nil) (rfl) λF h9=>(by rw[eqn];exact h9.2)
structure QJZ(A B:Int) where
 ra:Sr
 rb:Sr
 a:List Int
 b:List Int
 da:DG B9 a
 db:DG B9 b
 za:NZ a
 zb:NZ b
 la:a.length<=10000000
 lb:b.length<=10000000
 nb:b.length=rb.n
 h:aV (dv B9 a) (dv B9 b)=aV A B
def QDw(x y:Int):aV y (x%y)=aV x y:=by
 rw[Int.gcd_comm y,fp]
 first | rw[Int.gcd_sub_mul_left_left] | rw[Int.gcd_sub_mul_right_left] | rw[Int.gcd_sub_mul_left] | simp
theorem vM(hF:Fits F w)(hA:J8 F ra a)(hB:J8 F rb b)(da:DG B9 a)(db:DG B9 b)(za:NZ a)(zb:NZ b)(la:a.length<=10000000)(lb:b.length<=10000000):
  QU prog 98 [ra.v,rb.v] w F (λ(c:Sr×List Int)=>.slice c.1.q c.1.n c.1.cap) (λc F=>J8 F c.1 c.2/\DG B9 c.2/\NZ c.2/\dv B9 c.2=(aV (dv B9 a) (dv B9 b):Int)):=by
 refine QU.intro (G:=λF=>J8 F ra a/\J8 F rb b) func98 rfl tH rfl rfl hF (λF' hF'=>⟨hA.le hF',hB.le hF'⟩)<|wa<|wZ rfl<|QG<|QV<|JU (ι:=QJZ (dv B9 a) (dv B9 b)) [] (λi=>[(0,.slice i.ra.q i.ra.n i.ra.cap),(1,.slice i.rb.q i.rb.n i.rb.cap)]) (λi=>[]) (λi F=>J8 F i.ra i.a/\J8 F i.rb i.b) (λi=>(dv B9 i.b).toNat) (⟨ra,rb,a,b,da,db,za,zb,la,lb,hB.2.1,rfl⟩) trivial wm we tM λi=>?_
 simp only[ae,af];have hla:=i.la;have hlb:=i.lb;have hnb:=i.nb;refine wA 4 I<|QA (Qg I Q2)<|wD 3 I ?_
 refine QQ I (λhc=>?_) λhc=>?_
 ·have hpos:0<dv B9 i.b:=by
   have h1:=GF TL i.db i.zb;have h2:=JJ XY i.db;rw[<-eM]at h1;have:=wi hc;omega
  have hm0:=bR (dv B9 i.a) (Int.ne_of_gt hpos);have hm1:=bJ (dv B9 i.a) hpos;refine wC 3 I<|wb rfl<|wW rfl<|QI rfl (λ_ _ f k=>T2 f (a:=i.a) (b:=i.b) (ra:=i.ra) (rb:=i.rb) k.2.1 (k.2.2) (i.da) (i.db) (i.za) (i.zb) (hpos) O O) λc13=>wW rfl<|QA (Qa rfl rfl)<|QA (Qa rfl rfl)<|wX rfl<|wZ rfl<|XV _ (λ_ _ f h=>aM h.2.2.2 h.2.2.1.2.1) λq13=>?_
  obtain⟨q13,n13⟩:=q13;refine wA 6 I<|Qj ?_
  exact Ql (⟨i.rb,c13.2.1,i.b,c13.2.2,i.db,q13.1,i.zb,q13.2.1,i.lb,by have:=RT q13.1 i.db q13.2.1 (by rw[q13.2.2];omega);omega,n13,by rw[q13.2.2,QDw];exact i.h⟩) (by show(dv B9 c13.2.2).toNat<(dv B9 i.b).toNat;rw[q13.2.2];omega) wm we λF h9=>⟨⟨h9.1.1.1,h9.1.1.2⟩,⟨h9.1.2.2,h9.2.2.1⟩⟩
 have hz:i.b=[]:=by
  have:=wj hc;exact aj O
 refine Qx ?_
 repeat first|refine QY ?_|refine QO tH ?_
 refine QZ<|wE 8 I ?_
 exact QP ((i.ra,i.a):Sr×List Int) rfl (wT I) (rfl) λF h9=>⟨h9.2.1,i.da,i.za,by have e:=i.h;rw[hz,yi,Int.gcd_zero_right]at e;have:=JJ XY i.da;show dv B9 i.a=_;omega⟩
section
variable{P:Program}{N:Nat}{m:Sl}{S:World->Prop}{ty:TypeId}
def QEt{x:Operand}{a b:Int}(hx:ev m x=some (.int .i64 a))(hy:ev m y=some (.int .i64 b))(h:1<b)(h0 : -9223372036854775808<=a)(h1:a<=9223372036854775807):Qt P N m S (.binOp .quo T x y yT) ty (.int .i64 (a.tdiv b)):=by
 have:=vQ (P:=P) (N:=N) (m:=m) (S:=S) (ty:=ty) (T:=T) (yT:=yT) hx hy O;have e:=eD a b;have e2:a.natAbs.div b.natAbs<=a.natAbs:=eC _ _;have e3:a.natAbs.div b.natAbs<=a.natAbs/2:=Nat.div_le_div_left O tF;rw[eu _ O]at this;exact this
end
def gO(neg:Bool)(m:Nat):Int:=if neg=true then -(m:Int)else(m:Int)
def QGH(neg:Bool)(m:Nat):(gO neg m).tmod 1000000000=gO neg (m%1000000000):=by
 unfold gO;split
 ·rw[Int.neg_tmod];exact congrArg Neg.neg (fb m 1000000000).symm
 exact(fb m 1000000000).symm
def QCl(neg:Bool)(m:Nat):(gO neg m).tdiv 1000000000=gO neg (m/1000000000):=by
 unfold gO;split
 ·rw[Int.neg_tdiv];exact congrArg Neg.neg (fc m 1000000000).symm
 exact(fc m 1000000000).symm
def QEg(n:Int):n=gO (decide (n<0)) n.natAbs:=by
 unfold gO;by_cases h:n<0
 ·simp[h];omega
 simp[h];omega
def Cw(neg:Bool)(m:Nat):gO neg m=m\/gO neg m = -(m:Int):=by
 unfold gO;split
 ·exact .inr rfl
 exact .inl rfl
structure WhI(M:Nat) where
 m:Nat
 out:List Int
 v:Value
 ob:List (Nat×Obj)
 le:m<=M
 l3:out.length<=3
 dg:DG B9 out
 h:dv B9 out+B9^out.length*(m:Int)=M
 hr:Q8 3 1 v out.length (out.map Jo) ob
def WhI.two{M:Nat}(i:WhI M)(hM:M<=9223372036854775808)(h0:0<i.m):i.out.length<=2:=by
 rcases aN 2 i.out.length with g | g
 ·exfalso;have e:i.out.length=3:=tD i.l3;have h:=i.h;have h1:=JJ XY i.dg;rw[e]at h;have h2:B9^3*1<=B9^3*(i.m:Int):=ah O tF;have h3:B9^3=1000000000000000000000000000:=tF;rw[h3]at h2 h;omega
 exact g
def QCc{m M:Nat}(h:dv B9 l+B9^l.length*(m:Int)=M):dv B9 (l++[((m%1000000000:Nat):Int)])+B9^(l++[((m%1000000000:Nat):Int)]).length*((m/1000000000:Nat):Int)=M:=by
 rw[X9,ay,aK,aO,bM,ff,<-bD,<-h];have e:((m%1000000000:Nat):Int)+B9*((m/1000000000:Nat):Int)=m:=by
  have h9:B9=1000000000:=rfl;rw[h9];omega
 rw[e]
theorem Sm{n:Int}(hF:Fits F w)(hn : -9223372036854775808<=n/\n<=9223372036854775807):Il prog 102 [.int .i64 n] w F n:=by
 refine QU.intro (G:=λF=>True) func102 rfl tH rfl rfl hF tL<|wa<|Qc Wk λb2=>wY<|wa<|wZ rfl<|wb rfl<|QA (QT rfl rfl rfl)<|wZ rfl<|QG<|QV<|JU (ι:=WhI n.natAbs) [(2,_),(4,_)] (λi=>[(0,.int .i64 (gO (decide (n<0)) i.m)),(3,i.v)]) (λi=>(b2,.cells [.bool false,.slice none 0 0].toArray 147 (0,0))::i.ob) (λi F=>True) (λi=>i.m) (⟨n.natAbs,[],.slice none 0 0,[],aq _,tJ,DG.nil _,tJ,.nil⟩) wm ⟨congrArg (λz:Int=>some (ab .i64 z)) (QEg n),rfl,trivial⟩ we tL λi=>?_
 simp only[ae,af];have hle:=i.le;have hM:n.natAbs<=9223372036854775808:=O;have hcs:=Cw (decide (n<0)) i.m;have hsr : -9223372036854775808<=gO (decide (n<0)) i.m/\gO (decide (n<0)) i.m<=9223372036854775807:=by unfold gO;split<;>rename_i g<;>simp at g<;>omega
 refine wA 7 I ?_;refine QQ I (λhc=>?_) λhc=>?_
 ·have h9:B9=1000000000:=rfl;have hm0:0<i.m:=by
   rcases aA i.m with g | g
   ·rw[g]at hc;cases hd:decide (n<0)<;>simp[gO,hd]at hc
   exact g
  have l2:=i.two hM hm0;refine wC 6 I<|QA (QCv I I tF) ?_
  rw[QGH];refine wD 10 I ?_;refine QQ I (λhc=>?_) λhc=>?_
  ·have e1:gO (decide (n<0)) (i.m%1000000000) = -(((i.m%1000000000):Nat):Int):=by
    have:=wi hc;rcases Cw (decide (n<0)) (i.m%1000000000)with g | g<;>omega
   rw[e1];refine wA 2 I<|QA (X3 I I O)<|wD 7 I<|Qb I (Q5 Q2) JK R4 I I λb18=>ZL (bs':=[(b2,.cells [.bool false,.slice none 0 0].toArray 147 (0,0))]++i.ob) (bB _) ?_
   refine Z4 (ob:=i.ob) (k:=1) (sz:=1) (news:=[.int .i64 (0 - -(((i.m%1000000000):Nat):Int))]) I I Q2 JK R4 I F6 i.hr (Src.row (off:=0) tO (λj v hv=>by rw[aR];show([.int .i64 (0 - -(((i.m%1000000000):Nat):Int))].toArray)[j]?=some v;rw[aC];exact hv) rfl) O O (Kd wk) (λv19 ob19 hr19=>?_);refine wD 5 I<|QA (QEt I I tF O O) ?_
   rw[QCl];refine wB 2 I<|Qj ?_
   exact Ql (⟨i.m/1000000000,i.out++[(((i.m%1000000000):Nat):Int)],v19,ob19,O,by rw[ay,aK];omega,i.dg.append (DG.cons O (by show _<B9;rw[h9];omega) (DG.nil _)),QCc i.h,by simpa[Jo]using hr19⟩) (by show i.m/1000000000<i.m;omega) wv we λF h=>⟨h.1.1,trivial⟩
  have e1:gO (decide (n<0)) (i.m%1000000000)=(((i.m%1000000000):Nat):Int):=by
   have:=wj hc;rcases Cw (decide (n<0)) (i.m%1000000000)with g | g<;>omega
  rw[e1];refine wC 6 I<|Qb I (Q5 Q2) JK R4 I I λb18=>ZL (bs':=[(b2,.cells [.bool false,.slice none 0 0].toArray 147 (0,0))]++i.ob) (bB _) ?_
  refine Z4 (ob:=i.ob) (k:=1) (sz:=1) (news:=[.int .i64 ((((i.m%1000000000):Nat):Int))]) I I Q2 JK R4 I F6 i.hr (Src.row (off:=0) tO (λj v hv=>by rw[aR];show([.int .i64 ((((i.m%1000000000):Nat):Int))].toArray)[j]?=some v;rw[aC];exact hv) rfl) O O (Kd wk) (λv19 ob19 hr19=>?_);refine wD 5 I<|QA (QEt I I tF O O) ?_
  rw[QCl];refine wB 2 I<|Qj ?_
  exact Ql (⟨i.m/1000000000,i.out++[(((i.m%1000000000):Nat):Int)],v19,ob19,O,by rw[ay,aK];omega,i.dg.append (DG.cons O (by show _<B9;rw[h9];omega) (DG.nil _)),QCc i.h,by simpa[Jo]using hr19⟩) (by show i.m/1000000000<i.m;omega) wv we λF h=>⟨h.1.1,trivial⟩
 have hm0:i.m=0:=by
  rcases hcs with g | g
  ·rw[g]at hc;simp at hc;exact hc
  rw[g]at hc;simp at hc;exact hc
 refine Qx ?_
 repeat first|refine QY ?_|refine QO tH ?_
 refine QZ<|QC<|QG ?_
 have hfin:=i.h;rw[hm0]at hfin;have l3:=i.l3;obtain⟨r,hv,hrn,hrc,hfix⟩:=Q8.fix (w0:=w) (F0:=F) (bs1:=[(b2,.cells [.bool false,.slice none 0 0].toArray 147 (0,0))]) (G:=λF=>True/\True) i.hr;refine jH hfix ?_;rw[hv];refine wA 3 I<|QI I (λ_ _ f k=>Hg f (r:=r) (l:=i.out) (neg:=decide (n<0)) ⟨by rw[hrn];exact k.2,by rw[hrn],O⟩ (i.dg) O) λc24=>QW (vs:=[_,_]) I I I XB I .here .h2 wm<|wY<|QX ?_
 have e:n=Iv (decide (n<0)) i.out:=by
  have e2:=QEg n;unfold Iv;unfold gO at e2;split at e2<;>rename_i hs<;>simp only[hs]<;>simp<;>omega
 exact QP (c24) rfl (.JX (c:=[_,_]) I XB .here .nil) (rfl) λF ⟨⟨⟨hT,_⟩,hX⟩,h24⟩=>(by rw[<-e]at h24;exact h24)
theorem SA{x:Int}{least:Nat}(hF:Fits F w)(h0:0<=x)(hn:x<=9223372036854775807)(hl:least<=1000):Qf prog 104 [.int .i64 x,.int .i64 (least:Int)] w F (tx (qW x.toNat least)):=by
 have:=QBA (n:=x.toNat) (least:=least) hF O hl;rw[bY h0]at this;exact this
def yt(h:0<n):qW n 1=au n:=by
 have hne:(au n).length≠0:=λe=>Kn n (aj e);unfold qW hd Hq;rw[if_neg O,show 1-(au n).length=0 by omega];rfl
def ve(n:Nat):qW n 9=Hq 9 (au n):=by
 unfold qW hd;split
 ·rename_i h;subst h;rw[YX];decide
 rfl
theorem Iy(h:n<1000000000):(qW n 9).length=9:=by
 rw[ve,cI];have:=Ke (u:=n) (k:=9) O tF;rw[aY];exact this
structure TxI(l:List Int) where
 k:Nat
 s:List UInt8
 le:k<l.length
 ps:0<dv B9 (l.drop k)
 sl:s.length<=20+9*(l.length-k)
 h:s=au (dv B9 (l.drop k)).toNat
theorem Ij(hd:DG B9 l)(hz:NZ l)(h0:0<l.length):dv B9 (l.drop (l.length-1))=Qm l (l.length-1)/\0<Qm l (l.length-1):=by
 have e:=Xr (l:=l) (k:=l.length-1) O;rw[bp (i:=l.length-1+1) O]at e;refine⟨by rw[e];simp[dv],?_⟩;obtain⟨h1,_⟩:=dJ (n:=l.length-1) hd hz O;omega
def TxI.start{l:List Int}(hd:DG B9 l)(hz:NZ l)(h0:0<l.length):TxI l:=⟨l.length-1,qW (Qm l (l.length-1)).toNat 1,O,by rw[(Ij hd hz h0).1];exact(Ij hd hz h0).2,by
  have b:=hd.Qm XY (l.length-1);have h9:B9=1000000000:=rfl;rw[yt (tD<|(Ij hd hz h0).2),aY];have:=Ke (u:=(Qm l (l.length-1)).toNat) (k:=9) (by rw[h9]at b;omega) tF;omega,by
  rw[yt (tD<|(Ij hd hz h0).2),(Ij hd hz h0).1]⟩
def TxI.add(i:TxI l)(hd:DG B9 l)(hk:0<i.k):dv B9 (l.drop (i.k-1))=Qm l (i.k-1)+B9*dv B9 (l.drop i.k):=by
 have hle:=i.le;rw[Xr O,Vi,show i.k-1+1=i.k by omega]
def TxI.next{l:List Int}(i:TxI l)(hd:DG B9 l)(hk:0<i.k):TxI l:=⟨i.k-1,i.s++qW (Qm l (i.k-1)).toNat 9,tD i.le,by
  rw[i.add hd hk];have b:=hd.Qm XY (i.k-1);have p:=i.ps;have:B9*1<=B9*dv B9 (l.drop i.k):=ah O tF;have h9:B9=1000000000:=rfl;omega,by
  have b:=hd.Qm XY (i.k-1);have h9:B9=1000000000:=rfl;rw[h9]at b;have hle:=i.le;have hsl:=i.sl;rw[ay,Iy O];omega,by
  have b:=hd.Qm XY (i.k-1);have h9:B9=1000000000:=rfl;rw[h9]at b;have p:=i.ps;have e:=Ws (q:=(dv B9 (l.drop i.k)).toNat) O 9 (Qm l (i.k-1)).toNat tF O;rw[ve,i.h,<-e,i.add hd hk];congr 1;generalize dv B9 (l.drop i.k)=D at *
  rw[h9];omega⟩
theorem jY{x:Ri}(hF:Fits F w)(hx:E4 F x zx)(hz:sz zx<=1000000):Qf prog 193 [x.v] w F (tx (Ze zx)):=by
 obtain⟨xn,⟨xq,xm,xc⟩,xl⟩:=x;have px:=hx.p;have lx:=px.len;have kx:=hx.1.2.1;have vx:=px.v0;dsimp only at px lx kx vx;dsimp only[Ri.v];have h9:B9=1000000000:=rfl;refine QU.intro (G:=λF=>E4 F ⟨xn,⟨xq,xm,xc⟩,xl⟩ zx) func193 rfl tH rfl rfl hF (λF' hF'=>hx.le hF')<|wa<|Qp rfl (vs:=[_,_]) rfl λb1=>wZ rfl<|QG<|wa<|QA (QH rfl K2 JM)<|QA (Qe rfl JM .here (.skip .h1))<|QA (Qg rfl Q2)<|QA (QT rfl rfl rfl)<|QE<|QC ?_
 refine QQ I (λhc=>?_) λhc=>?_
 ·have hx0:zx=0:=(px.zero).1 (aj (by have:=hc;simp at this;omega));refine wA 6 I ?_;exact wg I I (by rw[hx0,XJ tF];exact congrArg (λl=>tx l) YX) tL
 have hl0:0<xl.length:=by
  rcases aA xm with g | g
  ·rw[g]at hc;simp at hc
  omega
 obtain⟨d1,d2⟩:=Ij px.dg px.nz hl0;have b0:=px.dg.Qm XY (xl.length-1);rw[h9]at b0;refine wC 4 I<|QA (QH I K2 JM)<|QA (Qe I JM .here (.skip .h1))<|QA (QH I K2 JM)<|QA (Qe I JM .here (.skip .h1))<|QA (Qg I Q2)<|QA (X3 I I O)<|QA (Q3 (n:=xm) (xl.length-1) (λF hx=>(hx.1).1) rfl wS Q2 JK O)<|QA (JA (n:=xm) ((xl.length-1)*1) (λF hx=>(hx.1).1) O rfl JK (Jz (o:=xl) O))<|QI I (λ_ _ f k=>SA f (least:=1) O O O) λ_=>wD 6 I<|QA (QH I K2 JM)<|QA (Qe I JM .here (.skip .h1))<|QA (Qg I Q2)<|QA (X3 I I O)<|wB 2 I ?_
 refine QC<|QV<|J9 (ι:=TxI xl) [(1,_)] (λi=>[(3,tx i.s),(4,.int .i64 ((i.k:Int)-1))]) (λi=>i.k) (TxI.start px.dg px.nz hl0) wk ⟨rfl,(congrArg (λz:Int=>some (ab .i64 z)) (by simp only[TxI.start];omega)),trivial⟩ λi=>?_
 simp only[ae,af];have hle:=i.le;have hsl:=i.sl;refine wA 7 I ?_;refine QQ I (λhc=>?_) λhc=>?_
 ·have hk0:0<i.k:=tD<|wi hc
  have b1:=px.dg.Qm XY (i.k-1);rw[h9]at b1;have ln:=Iy (n:=(Qm xl (i.k-1)).toNat) O;refine wC 6 I<|QA (QH I K2 JM)<|QA (Qe I JM .here (.skip .h1))<|wW I<|QA (Q3 (n:=xm) (i.k-1) (λF h9=>(h9.1.1).1) rfl wS Q2 JK O)<|QA (JA (n:=xm) ((i.k-1)*1) (λF h9=>(h9.1.1).1) O rfl JK (Jz (o:=xl) O))<|QI I (λ_ _ f k=>SA f (least:=9) O O O) λ_=>QA (Yf I I O)<|wB 2 I<|Qj<|wE 3 I<|QA (X3 I I O)<|wB 2 I ?_
  exact Ql (i.next px.dg hk0) (by show i.k-1<i.k;omega) ⟨rfl,rfl,(congrArg (λz:Int=>some (ab .i64 z)) (by simp only[TxI.next];omega)),trivial⟩ we tN
 have hk0:i.k=0:=tD<|wj hc
 have hi:=i.h;rw[hk0,bm]at hi;have ha:=px.abs;refine Qx ?_
 repeat first|refine QY ?_|refine QO tH ?_
 refine QZ<|wE 4 I<|QA (QH I Ea R5)<|QA (Qe I R5 .here .h1)<|QE<|QC ?_
 refine QQ I (λhc=>?_) λhc=>?_
 ·have hneg:zx<0:=by have:=px.neg;rw[hc]at this;exact wi this.symm
  refine wb I<|QA (Yf I I tK)<|wD 4 I ?_
  exact wg I I (by rw[Yo hneg,hi];exact congrArg (λn=>tx (45::au n)) O) tL
 have hneg:¬zx<0:=by have:=px.neg;rw[hc]at this;exact wj this.symm
 refine wC 9 I ?_;exact wg I I (by rw[XJ O,hi];exact congrArg (λn=>tx (au n)) O) tL
structure PaI(s:List UInt8) where
 s':List UInt8
 out:List Int
 v:Value
 ob:List (Nat×Obj)
 dg:DG B9 out
 al:ZJ s'=true
 ll:s'.length+9*out.length<=s.length
 h:(Jc s':Int)*B9^out.length+dv B9 out=Jc s
 hr:Q8 3 1 v out.length (out.map Jo) ob
def cO:((10^9:Nat):Int)=B9:=tF
theorem QGO{s:List UInt8}(h:(Jc s:Int)*B9^out.length+dv B9 out=z)(hl:9<=s.length):(Jc (s.take (s.length-9)):Int)*B9^(out++[(Jc (s.drop (s.length-9)):Int)]).length+dv B9 (out++[(Jc (s.drop (s.length-9)):Int)])=z:=by
 have e:=Kb (s.take (s.length-9)) (s.drop (s.length-9));rw[bQ,aL,show s.length-(s.length-9)=9 by omega]at e;rw[X9,ay,aK,aO,<-h,e,Int.natCast_add,Int.natCast_mul,cO];generalize B9^out.length=p;generalize ((Jc (s.take (s.length-9)):Nat):Int)=a;generalize ((Jc (s.drop (s.length-9)):Nat):Int)=b;generalize B9=B
 grind
def Ld(h:ao s [45]=true):1<=s.length:=by
 rcases aA s.length with g | g
 ·rw[aj g]at h;simp[ao]at h
 omega
def QHY{t:List UInt8}(h:(Jc t:Int)*B9^out.length+dv B9 out=Jc (aa s [45])):Iv (ao s [45]) (out++[(Jc t:Int)])=Y9 s:=by
 have e:dv B9 (out++[(Jc t:Int)])=Jc (aa s [45]):=by
  rw[X9,<-h,aJ];omega
 unfold Iv Y9;rw[e];unfold aa;cases ao s [45]<;>simp
def vK{s:List UInt8}(h:ZJ s=true)(hl:s.length<=9):(Jc s:Int)<B9:=by
 have h1:=Hb h;have h2:10^s.length<=10^9:=aS tF hl;have h3:=cO;omega
theorem Sq(hF:Fits F w)(hs:ZJ (aa s [45])=true)(hl:s.length<=1000000):Il prog 189 [tx s] w F (Y9 s):=by
 refine QU.intro (G:=λF=>True) func189 rfl tH rfl rfl hF tL<|wa<|Qc Wk λb2=>QE<|QC ?_
 refine ZZ [(0,_),(2,_)] [(3,.bool (ao s [45]))] wm ?_ ?_
 ·refine wA 2 I<|QA (Xc I Zm)<|wB 2 I ?_
  refine Qn (t:=8) rfl (λhb8=>?_) λhb8=>?_
  ·refine wB 3 I<|QA (Hh (i:=0) rfl rfl Zm (tD<|wi hb8))<|wB 5 I ?_
   exact JY ⟨rfl,rfl,(congrArg (λb=>some (ag b)) (by have h0:0<s.length:=(tD<|wi hb8);rw[EG h0];exact AF I)),trivial⟩ we tM
  refine wB 6 I ?_;exact JY ⟨rfl,rfl,(congrArg (λb=>some (ag b)) (by have h0:s.length=0:=(tD<|wj hb8);rw[aj h0];rfl)),trivial⟩ we tM
 simp only[ae,af];refine ZZ [(2,_),(3,_)] [(0,tx (aa s [45]))] wm ?_ ?_
 ·refine wA 5 I ?_;refine QQ I (λhc=>?_) λhc=>?_
  ·refine wA 2 I<|QA (GL (1) rfl rfl Zm I (Ld hc))<|wB 2 I ?_
   exact JY ⟨rfl,rfl,(congrArg (λl=>some (tx l)) (by unfold aa;rw[if_pos hc];rfl)),trivial⟩ we tM
  refine QN ?_;exact JY ⟨rfl,rfl,(congrArg (λl=>some (tx l)) (by unfold aa;rw[hc];rfl)),trivial⟩ we tM
 simp only[ae,af];have hln:(aa s [45]).length<=s.length:=AK _ _;refine wA 7 I<|JU (ι:=PaI (aa s [45])) [(2,_),(3,_)] (λi=>[(0,tx i.s'),(4,i.v)]) (λi=>(b2,.cells [.bool false,.slice none 0 0].toArray 147 (0,0))::i.ob) (λi F=>True) (λi=>i.s'.length) (⟨aa s [45],[],.slice none 0 0,[],DG.nil _,hs,tJ,tJ,.nil⟩) wm wm we tL λi=>?_
 simp only[ae,af];have hll:=i.ll;refine wA 4 I<|QA (Xc I Zm)<|wD 3 I ?_
 refine QQ I (λhc=>?_) λhc=>?_
 ·have h9:9<i.s'.length:=tD<|wi hc
  refine wC 8 I<|QA (Xc I Zm)<|QA (X3 I I O)<|QA (GL (i.s'.length-9) rfl rfl Zm wS O)<|QI I (λ_ _ f k=>Ol f (Tc i.al _) (by rw[aL];omega)) λ_=>Qb I (Q5 Q2) JK R4 I I λb26=>ZL (bs':=[(b2,.cells [.bool false,.slice none 0 0].toArray 147 (0,0))]++i.ob) (bB _) ?_
  refine Z4 (ob:=i.ob) (k:=1) (sz:=1) (news:=[.int .i64 ((Jc (i.s'.drop (i.s'.length-9)):Int))]) I I Q2 JK R4 I F6 i.hr (Src.row (off:=0) tO (λj v hv=>by rw[aR];show([.int .i64 ((Jc (i.s'.drop (i.s'.length-9)):Int))].toArray)[j]?=some v;rw[aC];exact hv) rfl) O O (Kd wk) (λv27 ob27 hr27=>?_);refine wD 6 I<|QA (Xc I Zm)<|QA (X3 I I O)<|QA (Mj (i.s'.length-9) rfl rfl Zm wS O)<|wB 2 I<|Qj ?_
  exact Ql (⟨i.s'.take (i.s'.length-9),i.out++[(Jc (i.s'.drop (i.s'.length-9)):Int)],v27,ob27,i.dg.append (DG.cons O (vK (Tc i.al _) (by rw[aL];omega)) (DG.nil _)),MZ i.al _,by rw[av,ay,aK];omega,QGO i.h O,by simpa[Jo]using hr27⟩) (by show(i.s'.take (i.s'.length-9)).length<i.s'.length;rw[av];omega) wv we λF h=>⟨h.1.1.1,trivial⟩
 have h9:i.s'.length<=9:=tD<|wj hc
 refine Qx ?_
 repeat first|refine QY ?_|refine QO tH ?_
 refine QZ<|wE 6 I<|QI I (λ_ _ f k=>Ol f (i.al) O) λ_=>Qb I (Q5 Q2) JK R4 I I λb37=>ZL (bs':=[(b2,.cells [.bool false,.slice none 0 0].toArray 147 (0,0))]++i.ob) (bB _) ?_
 refine Z4 (ob:=i.ob) (k:=1) (sz:=1) (news:=[.int .i64 ((Jc i.s':Int))]) I I Q2 JK R4 I F6 i.hr (Src.row (off:=0) tO (λj v hv=>by rw[aR];show([.int .i64 ((Jc i.s':Int))].toArray)[j]?=some v;rw[aC];exact hv) rfl) O O (Kd wk) (λv38 ob38 hr38=>?_);obtain⟨r,hv,hrn,hrc,hfix⟩:=Q8.fix (w0:=w) (F0:=F) (bs1:=[(b2,.cells [.bool false,.slice none 0 0].toArray 147 (0,0))]) (G:=_) hr38;refine Zj hfix ?_;rw[hv];refine QI I (λw F hF ⟨⟨⟨⟨hT,_⟩,_⟩,hs37⟩,hX⟩=>Hg hF (r:=r) (l:=i.out++[(Jc i.s':Int)]) (neg:=ao s [45]) ⟨by rw[hrn];simpa[Jo]using hX,by rw[hrn];simp,O⟩ (i.dg.append (DG.cons O (vK i.al h9) (DG.nil _))) (by first | omega | (simp;omega))) (λc39=>QW (vs:=[_,_]) I I I XB I .here .h2 wm<|wY<|QX ?_);exact QP (c39) rfl (.JX (c:=[_,_]) I XB .here .nil) (rfl) λF ⟨⟨⟨⟨⟨hT,_⟩,_⟩,hs37⟩,hX⟩,h39⟩=>(by rw[QHY i.h]at h39;exact h39)
def Ih(z:Int):(Ze z).length<=sz z+2:=by
 have h:(au z.natAbs).length<=sz z+1:=by
  rw[aY];refine Ke ?_ O;have h1:=E6 z;have h2:2^sz z<=10^sz z:=bW tF _;have h3:10^sz z<=10^(sz z+1):=aS tF O;omega
 rcases bF z 0 with g | g
 ·rw[Yo g,aH];omega
 rw[XJ g];omega
def dW(n:Nat):(au n).length<=sz (n:Int)+1:=by
 rw[aY];refine Ke ?_ O;have h1:=E6 (n:Int);have h2:2^sz (n:Int)<=10^sz (n:Int):=bW tF _;have h3:10^sz (n:Int)<=10^(sz (n:Int)+1):=aS tF O;simp at h1;omega
def Ie(x:Rat):(JP x).length<=2*JW x+4:=by
 have h1:=Ih x.num;have h2:=dW x.den;have h3:=Jv x;have h4:=Jt x;unfold JP;split
 ·omega
 rw[ay,aH];omega
def vi{l:List UInt8}(h:l.contains 47=false):l.all (λc=>!Zw c)=true:=by
 rw[eX];intro c hc;have:c≠47:=by rintro rfl;simp[hc]at h
 simp[Zw,this]
def Pf(z:Int):(Ze z).contains 47=false:=Mk z tF tF
def LL(h:x.den=1):JP x=Ze x.num/\ahead Zw (JP x)=(JP x).length:=by
 have e:JP x=Ze x.num:=by unfold JP;rw[if_pos h]
 exact⟨e,by rw[e];exact vm (vi (Pf _))⟩
def EB(h:x.den≠1):ahead Zw (JP x)=(Ze x.num).length/\ahead Zw (JP x)<(JP x).length/\(JP x).take (ahead Zw (JP x))=Ze x.num/\(JP x).drop (ahead Zw (JP x)+1)=au x.den:=by
 have e:JP x=Ze x.num++47::au x.den:=by unfold JP;rw[if_neg h]
 have h1:ahead Zw (JP x)=(Ze x.num).length:=by
  refine vj (by rw[e];simp) ?_ ?_
  ·rw[e,List.take_append_of_le_length (aq _),aG];exact vi (Pf _)
  simp[e,Zw]
 rw[h1];refine⟨rfl,by rw[e];simp,?_,?_⟩
 ·rw[e];simp
 rw[e,List.drop_append];simp
def LM(x:Rat):(ahead Zw (JP x)=(JP x).length)↔x.den=1:=by
 constructor
 ·intro h;by_cases g:x.den=1
  ·exact g
  have:=(EB g).2.1;omega
 intro h;exact(LL h).2
def vW(z:Int):ZJ (aa (Ze z) [45])=true:=by rw[Hf];exact Jy _
def QD1(n:Nat):ZJ (aa (au n) [45])=true:=by rw[WM (Jy n)];exact Jy _
def QDU(n:Nat):Y9 (au n)=n:=by rw[YO (Jy n),Xi]
@[reducible] def Ri.v2 (c:Ri×Ri):Value:=.tuple #[c.1.v,c.2.v]
theorem Mu(hF:Fits F w)(hl:JW x<=100000):QU prog 97 [tx (JP x)] w F Ri.v2 (λc F=>E4 F c.1 x.num/\E4 F c.2 x.den):=by
 have hlen:=Ie x;refine QU.intro (G:=λF=>True) func97 rfl tH rfl rfl hF tL<|wa<|Qc Wk λb2=>Qc Wk λb3=>wY<|wb rfl<|wZ rfl<|wb rfl<|QI rfl (λ_ _ f k=>Sn f O) λ_=>wZ rfl<|QG<|wb rfl<|wW rfl ?_
 refine QA (Xc I Zm)<|wD 3 I ?_
 refine QQ I (λhc=>?_) λhc=>?_
 ·have hd:x.den=1:=(LM x).1 (by have:(ahead Zw (JP x):Int)=((JP x).length:Int):=(by simpa using hc);omega);rw[(LL hd).1];refine wb I<|QI I (λ_ _ f k=>Sq f (vW _) (by have:=Ih x.num;have:=Jv x;omega)) λc14=>QI I (λ_ _ f k=>Sm f tF) λc15=>QW (vs:=[_,_]) I I I XB I .u1 .h2 wm<|QW (vs:=[_,_]) I I I XB I .here .h2 wm<|wY<|QX ?_
  exact Je ((c14,c15):Ri×Ri) rfl (.JX (c:=[_,_]) I XB .u1 (.JX (c:=[_,_]) I XB .here .nil)) (rfl) λF ⟨⟨⟨hT,_⟩,h14⟩,h15⟩=>⟨by rw[Kt]at h14;exact h14,by have e:(x.den:Int)=1:=(by rw[hd];rfl);rw[e];exact h15⟩
 have hd:¬x.den=1:=λg=>by have:=(LM x).2 g;rw[this]at hc;simp at hc
 obtain⟨k1,k2,k3,k4⟩:=EB hd;refine wC 3 I<|JG (.cons _ (.cons _ .slnil)) mixed tE<|QK (QD I)<|QK (QD I)<|QK (Mj (ahead Zw (JP x)) I I Zm I O) ?_
 rw[k3];refine QR I (λ_ _ f k=>Sq f (vW _) (by have:=Ih x.num;have:=Jv x;omega)) (λc19=>QK (QD I)<|QK (QD I)<|QK (Qu I I O)<|QK (GL ((ahead Zw (JP x)+1)) I I Zm wS O) ?_);rw[k4];refine QR I (λ_ _ f k=>Sq f (QD1 _) (by have:=dW x.den;have:=Jt x;omega)) (λc24=>JV (vs:=[_,_]) I I I XB I .u1 (.cons _ .slnil) (λ_ h=>h.1.1) .h2 wm<|JV (vs:=[_,_]) I I I XB I .here (.cons _ .slnil) (λ_ h=>h.1.1) .h2 wm<|Q7<|QC<|QX ?_);exact Je ((c19,c24):Ri×Ri) rfl (.JX (c:=[_,_]) I XB .u1 (.JX (c:=[_,_]) I XB .here .nil)) (rfl) λF ⟨⟨⟨hT,_⟩,TL⟩,h24⟩=>⟨by rw[Kt]at TL;exact TL,by rw[QDU]at h24;exact h24⟩
structure QJX(zx zy:Int) where
 n:Ri
 d:Ri
 zn:Int
 zd:Int
 h:0<zd
 e:ai zn zd=ai zx zy
 sn:sz zn<=500000
 sd:sz zd<=500000
theorem QGd{n d:Int}(h:0<d){neg:Bool}{l p:List Int}(hn:Ry neg l n)(hp:dv B9 p=dv B9 l/(aV n d:Int)):Iv neg p=(ai n d).num:=by
 rw[(V8 h).1];have hg:(0:Int)<(aV n d:Int):=tD (Gz (x:=n) h);obtain⟨k,hk⟩:=fa (a:=n) (b:=d);have e:=hn.e;have hv:=hn.v0;unfold Iv at e ⊢;rw[hp];cases neg with
 |true =>
  simp only[if_true]at e ⊢;have e2:dv B9 l=(aV n d:Int)*(-k):=by rw[fB,<-hk];omega
  rw[e2,eN _ O];have e3:n/(aV n d:Int)=k:=by
   conv=>lhs;lhs;rw[hk]
   exact eN _ O
  rw[e3];omega
 |false =>
  simp only[Bool.false_eq_true,if_false]at e ⊢;rw[<-e]
def QGe{n d:Int}(h:0<d){neg:Bool}{l p:List Int}(hn:Ry neg l d)(hp:dv B9 p=dv B9 l/(aV n d:Int)):dv B9 p=((ai n d).den:Int):=by
 rw[(V8 h).2,hp];have:=hn.abs;congr 1;omega
def cq{n d:Int}{a b:Bool}{m:List Int}(hn:Ry a l n)(hd:Ry b m d):aV (dv B9 l) (dv B9 m)=aV n d:=by
 rw[<-hn.abs,<-hd.abs];simp[aV]
def QAC(x y:Int):ai (-x) (-y)=ai x y:=eW x y
theorem zQ(h:DG B9 l)(hz:NZ l):(l.length=1/\Qm l 0=1)↔dv B9 l=1:=by
 constructor
 ·rintro⟨h1,h2⟩;obtain⟨x,rfl⟩:=List.length_eq_one_iff.1 h1;simp[Qm]at h2;simp[dv,h2]
 intro e;have:l=[1]:=pf TL h (DG.cons tF tF (DG.nil _)) hz (by simp[NZ]) (by rw[e];simp[dv]);subst this;exact⟨rfl,rfl⟩
def QCt(h:(x.den:Int)=1):Ze x.num=JP x:=by unfold JP;rw[if_pos O]
theorem ga(h:¬(x.den:Int)=1):Ze x.num++[47]++Ze (x.den:Int)=JP x:=by
 unfold JP;rw[if_neg O,XJ (z:=(x.den:Int)) O];simp
theorem Mv{x y:Ri}{zy:Int}(hF:Fits F w)(hx:E4 F x zx)(hy:E4 F y zy)(h0:zy≠0)(hzx:sz zx<=500000)(hzy:sz zy<=500000):Qf prog 100 [x.v,y.v] w F (tx (JP (ai zx zy))):=by
 obtain⟨xn,⟨xq,xm,xc⟩,xl⟩:=x;have px:=hx.p;have lx:=px.len;have kx:=hx.1.2.1;have vx:=px.v0;dsimp only at px lx kx vx;obtain⟨yn,⟨yq,ym,yc⟩,yl⟩:=y;have py:=hy.p;have ly:=py.len;have ky:=hy.1.2.1;have vy:=py.v0;dsimp only at py ly ky vy;dsimp only[Ri.v];have hny:=py.neg;refine QU.intro (G:=λF=>E4 F ⟨xn,⟨xq,xm,xc⟩,xl⟩ zx/\E4 F ⟨yn,⟨yq,ym,yc⟩,yl⟩ zy) func100 rfl tH rfl rfl hF (λF' hF'=>⟨hx.le hF',hy.le hF'⟩)<|wa<|Qp rfl (vs:=[_,_]) rfl λb2=>Qp rfl (vs:=[_,_]) rfl λb3=>wX rfl<|QE<|QC ?_
 refine Us (ι:=QJX zx zy) [(2,_),(3,_)] (λi=>[]) (λi=>[(b3,.cells [.bool i.d.neg,.slice i.d.r.q i.d.r.n i.d.r.cap].toArray 147 (0,0)),(b2,.cells [.bool i.n.neg,.slice i.n.r.q i.n.r.n i.n.r.cap].toArray 147 (0,0))]) (λi F=>E4 F i.n i.zn/\E4 F i.d i.zd) wm ?_ ?_
 ·refine wa<|QA (QH I Ea R5)<|QA (Qe I R5 .here .h1)<|QE<|QC ?_
  refine QQ I (λhc=>?_) λhc=>?_
  ·refine Jq 4 we mixed tE tE ?_;simp only[List.take_succ_cons,List.take_zero,List.drop_succ_cons,bm];refine QK (wN I XB .u1)<|QR I (λ_ _ f k=>uu f (x:=⟨xn,⟨xq,xm,xc⟩,xl⟩) k.1 O) λc14=>QK (wN I XB .here)<|QR I (λ_ _ f k=>uu f (x:=⟨yn,⟨yq,ym,yc⟩,yl⟩) k.1.2 O) λc16=>ZS<|QW (vs:=[_,_]) I I I XB I .u1 .h2 wm<|QW (vs:=[_,_]) I I I XB I .here .h2 wm<|QE ?_
   exact Za (⟨c14,c16,-zx,-zy,by rw[hc]at hny;have:=wi hny.symm;omega,QAC _ _,by rw[Vm];exact hzx,by rw[Vm];exact hzy⟩) wm we λF h9=>⟨⟨h9.1.1.1,h9.1.1.2⟩,⟨h9.1.2,h9.2⟩⟩
  refine QN ?_;exact Za (⟨⟨xn,⟨xq,xm,xc⟩,xl⟩,⟨yn,⟨yq,ym,yc⟩,yl⟩,zx,zy,by rw[hc]at hny;have:=wj hny.symm;omega,rfl,hzx,hzy⟩) wm we λF ⟨hx,hy⟩=>⟨⟨hx,hy⟩,⟨hx,hy⟩⟩
 intro i;simp only[ae,af];refine XV _ (λ_ _ f h=>aM h.2.1.p (aM h.2.2.p (aM h.2.1.1.2.1 h.2.2.1.2.1))) (λpp=>?_);obtain⟨pn,pd,kn,kd⟩:=pp;have ln:=pn.len;have ld:=pd.len;have hsn:=i.sn;have hsd:=i.sd;have hi:=i.h;have gg:=cq pn pd;have q1:=Vl (a:=i.zn) (b:=i.zd) O;have q2:=Jv (ai i.zn i.zd);have q3:=Jt (ai i.zn i.zd);have q4:sz (ai i.zn i.zd).num<=500000:=O;have q5:sz ((ai i.zn i.zd).den:Int)<=500000:=O;refine wa<|QA (QH I K2 JM)<|QA (Qe I JM .u1 (.skip .h1))<|QA (QH I K2 JM)<|QA (Qe I JM .here (.skip .h1)) ?_
 refine QI I (λ_ _ f k=>vM f (a:=i.n.l) (b:=i.d.l) (ra:=i.n.r) (rb:=i.d.r) k.2.1.1 (k.2.2.1) (pn.dg) (pd.dg) (pn.nz) (pd.nz) O O) (λc21=>?_);rcases c21 with ⟨v21,l21⟩;dsimp only;refine JQ _ (λw F hF ⟨⟨⟨hx,hy⟩,⟨hN,hD⟩⟩,⟨h21,h21p⟩⟩=>aM h21.2 h21p) (λp21=>wZ rfl<|QG ?_);have g0:0<dv B9 l21:=by rw[p21.2.2.2,gg];have:=Gz (x:=i.zn) i.h;omega
 have l21l:l21.length<=i.d.l.length:=by
  refine RT p21.2.1 pd.dg p21.2.2.1 ?_;rw[p21.2.2.2,gg];have h1:(aV i.zn i.zd:Int)<=i.zd:=Int.le_of_dvd i.h (Int.gcd_dvd_right (a:=i.zn) (b:=i.zd));have h2:=pd.abs;omega
 refine QB<|QA (QH rfl K2 JM)<|QA (Qe rfl JM .u1 (.skip .h1))<|wW rfl<|QI rfl (λ_ _ f k=>T2 f (a:=i.n.l) (b:=l21) (ra:=i.n.r) (rb:=v21) k.1.2.1.1 (k.2.1) (pn.dg) (p21.2.1) (pn.nz) (p21.2.2.1) (g0) O O) λc26=>wW rfl<|QA (Qa rfl rfl)<|QA (Qa rfl rfl)<|wX rfl<|wZ rfl<|QG<|XV _ (λ_ _ f h=>aM h.2.1.2 h.2.1.1.2.1) λp26=>?_
 obtain⟨p26,n26⟩:=p26;refine QB<|QA (QH rfl K2 JM)<|QA (Qe rfl JM .here (.skip .h1))<|wW rfl<|QI rfl (λ_ _ f k=>T2 f (a:=i.d.l) (b:=l21) (ra:=i.d.r) (rb:=v21) k.1.1.2.2.1 (k.1.2.1) (pd.dg) (p21.2.1) (pd.nz) (p21.2.2.1) (g0) O O) λc33=>wW rfl<|QA (Qa rfl rfl)<|QA (Qa rfl rfl)<|wX rfl<|wZ rfl<|QG<|XV _ (λ_ _ f h=>aM h.2.1.2 h.2.1.1.2.1) λp33=>?_
 obtain⟨p33,n33⟩:=p33;have en:Iv i.n.neg c26.1.2=(ai i.zn i.zd).num:=QGd i.h pn (by rw[p26.2.2,p21.2.2.2,gg]);have ed:dv B9 c33.1.2=((ai i.zn i.zd).den:Int):=QGe i.h pd (by rw[p33.2.2,p21.2.2.2,gg]);have ed2:Iv false c33.1.2=((ai i.zn i.zd).den:Int):=by rw[<-ed];rfl
 have lnp:=RT p26.1 pn.dg p26.2.1 (by rw[p26.2.2];exact bA _ pn.v0);have lnq:=RT p33.1 pd.dg p33.2.1 (by rw[p33.2.2];exact bA _ pd.v0);have one1:=zQ p33.1 p33.2.1;have lr1:=Ih (ai i.zn i.zd).num;have lr2:=Ih ((ai i.zn i.zd).den:Int);refine QB<|QA (QH I Ea R5)<|QA (Qe I R5 .u1 .h1)<|wW I<|QI I (λ_ _ f k=>Hg f (r:=c26.1.1) (l:=c26.1.2) (neg:=i.n.neg) k.1.2.1.1 (p26.1) (by first | omega | (simp;omega))) λc39=>QI I (λ_ _ f k=>jY f (zx:=(ai i.zn i.zd).num) (by rw[<-en];exact k.2) O) λ_=>wD 7 I<|QA (Qg I Q2)<|wB 2 I ?_
 refine Qn (t:=44) rfl (λhb44=>?_) λhb44=>?_
 ·have hn1:c33.1.1.n=1:=by simp at hb44;omega
  refine wB 3 I<|QA (Q3 (n:=c33.1.1.n) (0) (λF h9=>(h9.1.1.2.1.1).1) rfl wS Q2 JK O)<|QL I I<|QA (JA (n:=c33.1.1.n) ((0)*1) (λF h9=>(h9.1.1.2.1.1).1) O rfl JK (Jz (o:=c33.1.2) O))<|wD 5 I ?_
  refine QQ I (λhc=>?_) λhc=>?_
  ·refine wA 7 I ?_;exact wg I I (by rw[<-i.e];exact congrArg (λl=>tx l) (QCt (by rw[<-ed];exact one1.1 ⟨O,by simpa using hc⟩)).symm) tL
  refine wC 5 I<|QA (Yf I I tK)<|wW I<|QI I (λ_ _ f k=>Hg f (r:=c33.1.1) (l:=c33.1.2) (neg:=false) k.1.1.2.1.1 (p33.1) (by first | omega | (simp;omega))) λc54=>QI I (λ_ _ f k=>jY f (zx:=((ai i.zn i.zd).den:Int)) (by rw[<-ed2];exact k.2) O) λ_=>QA (Yf I I tK)<|wD 4 I ?_
  exact wg I I (by rw[<-i.e];exact congrArg (λl=>tx l) (ga λg=>by have:=one1.2 (by rw[ed];exact g);rw[this.2]at hc;simp at hc).symm) tL
 have hn1:c33.1.1.n≠1:=by simp at hb44;omega
 refine wD 7 I<|Yj I<|wC 5 I<|QA (Yf I I tK)<|wW I<|QI I (λ_ _ f k=>Hg f (r:=c33.1.1) (l:=c33.1.2) (neg:=false) k.1.1.2.1.1 (p33.1) (by first | omega | (simp;omega))) λc54=>QI I (λ_ _ f k=>jY f (zx:=((ai i.zn i.zd).den:Int)) (by rw[<-ed2];exact k.2) O) λ_=>QA (Yf I I tK)<|wD 4 I ?_
 exact wg I I (by rw[<-i.e];exact congrArg (λl=>tx l) (ga λg=>by have:=one1.2 (by rw[ed];exact g);omega).symm) tL
def B3(x:Rat):Rat:=if x.num<0 then -x else x
def QEr(x:Rat):(B3 x).num=(x.num.natAbs:Int)/\(B3 x).den=x.den:=by
 unfold B3;split
 ·exact⟨by rw[eR];omega,by rw[fy]⟩
 exact⟨O,rfl⟩
def QDa(h:z<0):Ze z=45::Ze (-z):=by
 rw[Yo h,XJ (z:=-z) O];congr 2;omega
def Ox(h:x.num<0):JP x=45::JP (-x):=by
 unfold JP;rw[eR,fy,QDa h];split<;>rfl
theorem SB(x:Rat):ao (JP x) [45]=decide (x.num<0):=by
 by_cases h:x.num<0
 ·rw[Ox h];simp[ao,ew,h]
 have e:(decide (x.num<0))=false:=by simpa using h
 rw[e];unfold JP;rw[XJ O];have hd:=Jy x.num.natAbs;split
 ·exact Vn hd
 have hne:=Kn x.num.natAbs;cases hl:au x.num.natAbs with
 |nil=>exact absurd hl hne
 |cons c r =>
  have:=Vn hd;rw[hl]at this;simpa[ao,ew]using this
def uy(x:Rat):aa (JP x) [45]=JP (B3 x):=by
 unfold aa B3;rw[SB];by_cases h:x.num<0
 ·rw[if_pos (by simpa using h),if_pos h,Ox h];rfl
 rw[if_neg (by simpa using h),if_neg h]
def QEX(x:Rat):JW (B3 x)=JW x:=by
 unfold B3;split
 ·exact Vh x
 rfl
def QGv(x:Rat)(c:Int×Int×Bool):Prop:=c.2.2=true->c.1=x.num/\c.2.1=(x.den:Int)/\x.num.natAbs<1000000000/\x.den<1000000000
def xU{l:List UInt8}(h:ZJ l=true)(hl:l.length<=9):Jc l<1000000000:=by
 have h1:=Hb h;have h2:10^l.length<=10^9:=aS tF hl;omega
theorem Ot(hF:Fits F w)(hl:JW x<=100000):QU prog 99 [tx (JP x)] w F (λ(c:Int×Int×Bool)=>.tuple #[.int .i64 c.1,.int .i64 c.2.1,.bool c.2.2]) (λc _=>QGv x c):=by
 have hlen:=Ie x;have hlen2:=Ie (B3 x);rw[QEX]at hlen2;obtain⟨an,ad⟩:=QEr x;have hah:=Et Zw (JP (B3 x));have anT:Ze (B3 x).num=au x.num.natAbs:=by rw[an,XJ O];rfl
 refine QU.intro (G:=λF=>True) func99 rfl tH rfl rfl hF tL<|wa<|wX rfl<|wX rfl<|wZ rfl<|wb rfl<|wZ rfl<|QG<|wb rfl<|QA (Xc rfl Zm)<|QA (QT rfl rfl rfl)<|QE<|QC ?_
 refine QQ I (λhc=>?_) λhc=>?_
 ·refine wA 8 I ?_;exact Je ((0,0,false):Int×Int×Bool) rfl (.tmp rfl (wU rfl rfl)) (rfl) λF hT=>λh=>by cases h
 refine QN<|QC ?_
 refine ZZ [(5,_)] [(6,.bool (decide (x.num<0)))] wk ?_ ?_
 ·refine wA 2 I<|QA (Xc I Zm)<|wB 2 I ?_
  refine Qn (t:=17) rfl (λhb17=>?_) λhb17=>?_
  ·refine wB 3 I<|QA (Hh (i:=0) rfl rfl Zm (tD<|wi hb17))<|wB 5 I ?_
   exact JY ⟨rfl,(congrArg (λb=>some (ag b)) (by have h0:0<(JP x).length:=(tD<|wi hb17);rw[<-SB,EG h0];exact AF I)),trivial⟩ we tM
  refine wB 6 I ?_;exact JY ⟨rfl,(congrArg (λb=>some (ag b)) (by have h0:(JP x).length=0:=(tD<|wj hb17);rw[<-SB,aj h0];rfl)),trivial⟩ we tM
 simp only[ae,af];refine ZZ [(6,_)] [(5,tx (JP (B3 x)))] wk ?_ ?_
 ·refine wA 5 I ?_;refine QQ I (λhc=>?_) λhc=>?_
  ·refine wA 2 I<|QA (GL (1) rfl rfl Zm I (by have:=Ld (s:=JP x) (by rw[SB];exact hc);omega))<|wB 2 I ?_
   exact JY ⟨rfl,(congrArg (λl=>some (tx l)) (by rw[<-uy];unfold aa;rw[if_pos (by rw[SB];exact hc)];rfl)),trivial⟩ we tM
  refine QN ?_;exact JY ⟨rfl,(congrArg (λl=>some (tx l)) (by rw[<-uy];unfold aa;rw[SB,hc];rfl)),trivial⟩ we tM
 simp only[ae,af];refine wb I<|QI I (λ_ _ f k=>Sn f O) λ_=>wD 9 I ?_
 refine Qn (t:=29) rfl (λhb29=>?_) λhb29=>?_
 ·refine wD 8 I<|SG I<|wA 8 I ?_
  exact Je ((0,0,false):Int×Int×Bool) rfl (.tmp rfl (wU rfl rfl)) (rfl) λF h9=>λh=>by cases h
 refine wB 3 I<|QA (Xc I Zm)<|wB 3 I<|QA (X3 I I O)<|wD 5 I ?_
 refine QQ I (λhc=>?_) λhc=>?_
 ·refine wA 8 I ?_;exact Je ((0,0,false):Int×Int×Bool) rfl (.tmp rfl (wU rfl rfl)) (rfl) λF h9=>λh=>by cases h
 have k9:ahead Zw (JP (B3 x))<=9/\(JP (B3 x)).length-ahead Zw (JP (B3 x))<=10:=by
  have ha:=Et Zw (JP (B3 x))
  first | (simp at hc hb29;omega) | (simp at hc;omega)
 have kt:(JP (B3 x)).take (ahead Zw (JP (B3 x)))=Ze (B3 x).num:=by
  by_cases hd:(B3 x).den=1
  ·obtain⟨e1,e2⟩:=LL hd;rw[e2,aG,e1]
  exact(EB hd).2.2.1
 have kr:Jc ((JP (B3 x)).take (ahead Zw (JP (B3 x))))=x.num.natAbs:=by rw[kt,anT,Xi]
 have hnum:x.num.natAbs<1000000000:=by
  have h1:=xU (l:=Ze (B3 x).num) (by rw[anT];exact Jy _) (by rw[<-kt,av];omega);rw[anT,Xi]at h1;exact h1
 have hdn:x.den<1000000000:=by
  rw[<-ad];by_cases hd:(B3 x).den=1
  ·omega
  obtain⟨e1,e2,e3,e4⟩:=EB hd;have h1:=xU (l:=au (B3 x).den) (Jy _) (by rw[<-e4,aL];omega);rw[Xi]at h1;exact h1
 refine wC 6 I<|QA (Mj (ahead Zw (JP (B3 x))) I I Zm I O)<|QI I (λ_ _ f k=>Ol f (by rw[kt,anT];exact Jy _) (by rw[av];omega)) λ_=>?_
 rw[kr];refine wD 4 I ?_;refine ZZ [(6,_),(8,_)] [(9,.int .i64 (x.den:Int))] wm ?_ ?_
 ·refine wA 4 I<|QA (Xc I Zm)<|wD 3 I ?_
  refine QQ I (λhc=>?_) λhc=>?_
  ·have hlt:=wi hc;have hd:¬(B3 x).den=1:=λg=>by have:=(LM (B3 x)).2 g;have:=wi hc;omega
   have kd:=(EB hd).2.2.2;have kd2:Jc ((JP (B3 x)).drop (ahead Zw (JP (B3 x))+1))=x.den:=by rw[kd,Xi,ad]
   refine wA 3 I<|QA (Qu I I O)<|QA (GL ((ahead Zw (JP (B3 x))+1)) I I Zm wS O)<|QI I (λ_ _ f k=>Ol f (by rw[kd];exact Jy _) (by rw[aL];omega)) λ_=>?_
   rw[kd2];refine wB 2 I ?_;exact JY wu we tN
  have hd:(B3 x).den=1:=(LM (B3 x)).1 (by have:=wj hc;have:=Et Zw (JP (B3 x));omega);refine QN ?_;exact JY ⟨rfl,rfl,(congrArg (λz:Int=>some (ab .i64 z)) (by rw[<-ad,hd];rfl)),trivial⟩ we tM
 simp only[ae,af];have hden:x.den<1000000000:=hdn;refine ZZ [(9,_)] [(8,.int .i64 (x.num))] wk ?_ ?_
 ·refine wA 5 I ?_;refine QQ I (λhc=>?_) λhc=>?_
  ·refine wA 2 I<|QA (X3 I I O)<|wB 2 I ?_
   exact JY ⟨rfl,(congrArg (λz:Int=>some (ab .i64 z)) (tD<|wi hc)),trivial⟩ we tM
  refine QN ?_;exact JY ⟨rfl,(congrArg (λz:Int=>some (ab .i64 z)) (tD<|wj hc)),trivial⟩ we tM
 simp only[ae,af];refine wA 10 I ?_;exact Je ((x.num,(x.den:Int),true):Int×Int×Bool) rfl (.tmp rfl (wU I I)) (rfl) λF h9=>λ_=>⟨rfl,rfl,hnum,hden⟩
section
variable{P:Program}{N:Nat}{m:Sl}{S:World->Prop}{ty:TypeId}
def QHT{x:Operand}{a b:Int}(hx:ev m x=some (.int .i64 a))(hy:ev m y=some (.int .i64 b))(h:0<b)(h0 : -9223372036854775807<=a)(h1:a<=9223372036854775807):Qt P N m S (.binOp .quo T x y yT) ty (.int .i64 (a.tdiv b)):=by
 have:=vQ (P:=P) (N:=N) (m:=m) (S:=S) (ty:=ty) (T:=T) (yT:=yT) hx hy O;have e:=eD a b;have e2:a.natAbs.div b.natAbs<=a.natAbs:=eC _ _;rw[eu _ O]at this;exact this
end
theorem QGL{x y:Int}(hF:Fits F w)(h0:0<=x)(h1:x<=9223372036854775807)(k0:0<=y)(k1:y<=9223372036854775807):Qf prog 103 [.int .i64 x,.int .i64 y] w F (.int .i64 (ba x.toNat y.toNat:Nat)):=by
 have:=QHQ (a:=x.toNat) (b:=y.toNat) hF O O;rw[bY h0,bY k0]at this;exact this
def QE9(z:Int):(if 0-z>z then 0-z else z)=((z.natAbs:Nat):Int):=by split<;>omega
def QAF(n:Nat):qW n 1=au n:=by
 rcases aA n with h | h
 ·subst h;unfold qW hd;rw[if_pos rfl,YX];rfl
 exact yt h
theorem QE1{n:Int}{d:Nat}(h:0<d):n.tdiv ((ba n.natAbs d:Nat):Int)=(ai n d).num:=by
 rw[(V8 (x:=n) (y:=(d:Int)) O).1];have e:(ba n.natAbs d:Nat)=aV n (d:Int):=by simp[aV]
 rw[e];exact Int.tdiv_eq_ediv_of_dvd (fa (a:=n) (b:=(d:Int)))
theorem QE2{n:Int}{d:Nat}(h:0<d):(d:Int)/((ba n.natAbs d:Nat):Int)=((ai n d).den:Int):=by
 rw[(V8 (x:=n) (y:=(d:Int)) O).2];have e:(ba n.natAbs d:Nat)=aV n (d:Int):=by simp[aV]
 rw[e]
def QGR(n:Int){d:Int}(h:d≠0):ai (if d<0 then 0-n else n) (d.natAbs:Int)=ai n d:=by
 split
 ·rename_i g;rw[show((d.natAbs:Nat):Int) = -d by omega,Int.zero_sub];exact eW n d
 rw[show((d.natAbs:Nat):Int)=d by omega]
def QE3{n:Int}{d:Nat}(h:0<d)(hn:n.natAbs<=4000000000000000000)(hd:d<=4000000000000000000):(ai n d).num.natAbs<=4000000000000000000/\(ai n d).den<=4000000000000000000/\0<(ai n d).den:=by
 have e1:=QE1 (n:=n) h;have e2:=QE2 (n:=n) h;have k1:=eD n ((ba n.natAbs d:Nat):Int);have k2:n.natAbs.div ((ba n.natAbs d:Nat):Int).natAbs<=n.natAbs:=eC _ _;have k3:(d:Int)/((ba n.natAbs d:Nat):Int)<=(d:Int):=bA _ O;have k4:=(ai n d).den_pos;rw[e1]at k1;omega
def cL(z:Int):(if z<0 then[45]else[])++au z.natAbs=Ze z:=by
 split
 ·rename_i h;rw[Yo h];rfl
 rw[XJ O];rfl
def QEY(h : -9223372036854775808<=z/\z<=9223372036854775807):sz z<=64:=by
 rw[XD];omega
theorem QG2{num den:Int}(hF:Fits F w)(hn : -9223372036854775808<=num/\num<=9223372036854775807)(hd : -9223372036854775808<=den/\den<=9223372036854775807)(h0:den≠0):Qf prog 21 [.int .i64 num,.int .i64 den] w F (tx (JP (ai num den))):=by
 refine QU.intro (G:=λF=>True) func21 rfl tH rfl rfl hF tL<|wa<|wZ rfl<|QG ?_
 refine ZZ [(0,_),(1,_)] [(20,.bool (decide (num < -4000000000000000000\/num>4000000000000000000\/den < -4000000000000000000\/den>4000000000000000000)))] wm ?_ ?_
 ·refine wA 4 I ?_;refine Qn (t:=9) rfl (λhb9=>?_) λhb9=>?_
  ·refine wB 12 I ?_;exact JY ⟨rfl,rfl,(congrArg (λb=>some (ag b)) (by rw[aD];simp_all;try omega)),trivial⟩ we tM
  refine wB 6 I ?_;refine Qn (t:=13) rfl (λhb13=>?_) λhb13=>?_
  ·refine wB 8 I ?_;exact JY ⟨rfl,rfl,(congrArg (λb=>some (ag b)) (by rw[aD];simp_all;try omega)),trivial⟩ we tM
  refine wB 6 I ?_;refine Qn (t:=17) rfl (λhb17=>?_) λhb17=>?_
  ·refine wB 4 I ?_;exact JY ⟨rfl,rfl,(congrArg (λb=>some (ag b)) (by rw[aD];simp_all;try omega)),trivial⟩ we tM
  refine wB 6 I ?_;exact JY ⟨rfl,rfl,(congrArg (λb=>some (ag b)) (by rw[aD];simp_all;try omega)),trivial⟩ we tM
 simp only[ae,af];refine QQ I (λhc=>?_) λhc=>?_
 ·refine wb I<|QI I (λ_ _ f k=>Sm f O) λc22=>wW I<|QI I (λ_ _ f k=>Sm f O) λc24=>QI I (λ_ _ f k=>Mv f (k.1.2) (k.2) (h0) (tD<|QEY hn) (tD<|QEY hd)) λ_=>wD 4 I ?_
  exact wg I I (rfl) tL
 have hb:¬(num < -4000000000000000000\/num>4000000000000000000\/den < -4000000000000000000\/den>4000000000000000000):=wj hc;refine QN<|QC ?_
 refine ZZ [] [(0,.int .i64 (if den<0 then 0-num else num)),(1,.int .i64 ((den.natAbs:Nat):Int))] trivial ?_ ?_
 ·refine wA 6 I ?_;refine QQ I (λhc=>?_) λhc=>?_
  ·refine wA 2 I<|QA (X3 I I O)<|wW I<|QA (X3 I I O)<|wB 3 I ?_
   exact JY ⟨(congrArg (λz:Int=>some (ab .i64 z)) (if_pos (wi hc)).symm),(congrArg (λz:Int=>some (ab .i64 z)) (tD<|wi hc)),trivial⟩ we tM
  refine QN ?_;exact JY ⟨(congrArg (λz:Int=>some (ab .i64 z)) (if_neg (wj hc)).symm),(congrArg (λz:Int=>some (ab .i64 z)) (tD<|wj hc)),trivial⟩ we tM
 simp only[ae,af];have hq:=QGR num h0;have b1:(if den<0 then 0-num else num).natAbs<=4000000000000000000:=by split<;>omega
 generalize (if den<0 then 0-num else num)=n1 at *
 obtain⟨c1,c2,c3⟩:=QE3 (n:=n1) (d:=den.natAbs) O b1 O;have hg:0<ba n1.natAbs den.natAbs:=Nat.gcd_pos_of_pos_right _ O;have lr1:=Ih (ai n1 (den.natAbs:Int)).num;have lr2:=dW (ai n1 (den.natAbs:Int)).den;have lz1:=QEY (z:=(ai n1 (den.natAbs:Int)).num) O;have lz2:=QEY (z:=((ai n1 (den.natAbs:Int)).den:Int)) O;have e1:=QE1 (n:=n1) (d:=den.natAbs) O;have e2:=QE2 (n:=n1) (d:=den.natAbs) O;refine wA 4 I<|QA (X3 I I O)<|QA (QG3 I I) ?_
 rw[QE9];refine wW I<|QI I (λ_ _ f k=>QGL f O O O O) λ_=>wD 4 I<|JG we mixed tE ?_
 simp only[ei];refine QK (QD I)<|QK (QD I)<|QK (QHT I I O O O) ?_
 rw[e1];refine QK (QD I)<|QK (QD I)<|QK (SO I I O O O) ?_
 rw[e2];refine QK (QF I)<|QK (QF I)<|Q7<|wE 6 I ?_
 refine ZZ [(0,_),(1,_)] [(6,tx (if(ai n1 (den.natAbs:Int)).num<0 then[45]else[]))] wm ?_ ?_
 ·refine wA 6 I ?_;refine QQ I (λhc=>?_) λhc=>?_
  ·refine wA 3 I ?_;exact JY ⟨rfl,rfl,(congrArg (λl=>some (tx l)) (if_pos (wi hc)).symm),trivial⟩ we tM
  refine QN ?_;exact JY ⟨rfl,rfl,(congrArg (λl=>some (tx l)) (if_neg (wj hc)).symm),trivial⟩ we tM
 simp only[ae,af];refine wA 5 I<|QA (X3 I I O)<|QA (QG3 I I) ?_
 rw[QE9];refine QI I (λ_ _ f k=>SA f (least:=1) O O O) (λ_=>?_);simp only[ei,QAF];refine QA (Yf I I (by have e:=congrArg er (cL (ai n1 (den.natAbs:Int)).num);rw[ay]at e;omega))<|wD 6 I ?_
 rw[cL];refine wD 4 I ?_;refine QQ I (λhc=>?_) λhc=>?_
 ·have hd1:¬((ai n1 (den.natAbs:Int)).den:Int)=1:=tD<|wi hc
  refine wA 2 I<|QA (Yf I I (by simp only[ay,aH,bP];omega))<|wW I<|QI I (λ_ _ f k=>SA f (least:=1) O O O) λ_=>?_
  simp only[ei,QAF];refine QA (Yf I I (by simp only[ay,aH,bP];omega))<|wD 10 I ?_
  exact wg I I (by rw[<-hq];exact congrArg (λl=>tx l) (by rw[<-ga hd1,O5])) tL
 have hd1:((ai n1 (den.natAbs:Int)).den:Int)=1:=tD<|wj hc
 refine wC 9 I ?_;exact wg I I (by rw[<-hq];exact congrArg (λl=>tx l) (QCt hd1).symm) tL
def dL(x:Rat):cP (JP x)=JP (-x):=by
 unfold cP R8;rw[SB];by_cases h0:JP x=[48]
 ·rw[if_pos h0];have hx:x=0:=by
   have hv:=Kt x.num;by_cases hd:x.den=1
   ·rw[(LL hd).1]at h0;rw[h0]at hv;have:x.num=0:=by rw[<-hv];rfl
    exact Rat.num_eq_zero.1 this
   have:=(EB hd).2.2.1;have h1:=(EB hd).2.1;rw[h0]at h1;have h2:=(EB hd).1;have h3:0<(Ze x.num).length:=by
    rcases aA (Ze x.num).length with g | g
    ·have e:=aj g;unfold Ze at e;rcases bF x.num 0 with q | q
     ·have:=Yo q;unfold Ze at this;rw[this]at e;cases e
     have:=XJ q;unfold Ze at this;rw[this]at e;exact absurd e (Kn _)
    exact g
   rw[h0]at h2;simp at h1;omega
  subst hx;have e:(-0:Rat)=0:=tF;rw[e,if_neg tF,if_pos rfl]
 rw[if_neg h0];by_cases hn:x.num<0
 ·rw[if_pos (show(decide (x.num<0))=true by simpa using hn),if_pos tF,Ox hn];rfl
 rw[if_neg (show ¬(decide (x.num<0))=true by simpa using hn),if_neg tF,if_neg tF];have h1:(-x).num<0:=by
  rw[eR];have:x.num≠0:=by
   intro e;have:=Rat.num_eq_zero.1 e;subst this;exact h0 Sv
  omega
 have:=Ox h1;rw[Rat.neg_neg]at this;exact this.symm
def Oc(x:Rat):R8 (JP x)=Dm x.num:=by
 unfold R8;rw[SB];by_cases h0:x=0
 ·subst h0;rw[if_pos Sv];rfl
 have hn:x.num≠0:=λe=>h0 (Rat.num_eq_zero.1 e);have h1:JP x≠[48]:=by
  intro e;have h2:=dL x;unfold cP R8 at h2;rw[if_pos e,if_neg tF,if_pos rfl,e]at h2;by_cases hd:x.den=1
  ·have hv:=Kt x.num;rw[<-(LL hd).1,e]at hv;exact hn hv.symm
  have:=(EB hd).2.2.1;have hv:=Kt x.num;rw[<-this,e]at hv;have h3:=(EB hd).2.1;rw[e]at h3;have h4:ahead Zw [48]=1:=tF;rw[h4]at h3;exact absurd h3 tF
 rw[if_neg h1];unfold Dm;by_cases g:x.num<0
 ·rw[if_pos (show(decide (x.num<0))=true by simpa using g),if_pos g]
 rw[if_neg (show ¬(decide (x.num<0))=true by simpa using g),if_neg g,if_neg hn]
theorem QGk(x y:Rat):Dm (x-y).num=Yw x y:=by
 rw[Ia];unfold Yw;have h1:(x-y<0)↔x<y:=by grind
 have h2:(x-y=0)↔x=y:=by grind
 simp only[h1,h2]
def QC9(n:Int):JP (n:Rat)=Ze n:=by unfold JP;rw[if_pos tJ];simp
theorem xW{y:Rat}(hF:Fits F w)(hx:JW x<=100000)(hy:JW y<=100000):Qf prog 60 [tx (JP x),tx (JP y)] w F (tx (JP (x+y))):=by
 refine QU.intro (G:=λF=>True) func60 rfl tH rfl rfl hF tL<|wa<|wZ rfl<|wb rfl<|QI rfl (λ_ _ f k=>Ot f (hx)) λc17=>JQ _ (λ_ _ f k=>k.2) λp17=>wW rfl<|QA (Qa rfl rfl)<|QA (Qa rfl rfl)<|QA (Qa rfl rfl)<|wX rfl<|wX rfl<|wZ rfl<|wb rfl<|QI rfl (λ_ _ f k=>Ot f (hy)) λc23=>JQ _ (λ_ _ f k=>k.2) λp23=>?_
 refine wD 14 I ?_;refine Qn (t:=28) rfl (λhb28=>?_) λhb28=>?_
 ·refine wD 5 I ?_;refine QQ I (λhc=>?_) λhc=>?_
  ·refine QG ?_;obtain⟨a1,a2,a3,a4⟩:=p17 hb28;obtain⟨b1,b2,b3,b4⟩:=p23 hc;have xd:=x.den_pos;have yd:=y.den_pos;have e1:(x.num*y.den).natAbs<1000000000*1000000000:=by rw[aW];exact aB a3 O
   have e2:(y.num*x.den).natAbs<1000000000*1000000000:=by rw[aW];exact aB b3 O
   have e3:(x.num*y.num).natAbs<1000000000*1000000000:=by rw[aW];exact aB a3 b3
   have e4:((x.den:Int)*y.den).natAbs<1000000000*1000000000:=by rw[aW];exact aB O O
   have e5:(x.den:Int)*y.den≠0:=by have h1:=Km x;have h2:=Km y;exact bc h1 h2
   rw[a1,a2,b1,b2];refine wA 3 I<|QA (Mx I I O)<|wB 2 I<|QA (Mx I I O)<|QA (Qu I I O)<|wB 2 I<|QA (Mx I I O)<|QI I (λ_ _ f k=>QG2 f O O (e5)) λ_=>wD 4 I ?_
   exact wg I I (by rw[BO]) tL
  refine wC 3 I ?_;have s1:=Jv x;have s2:=Jt x;have s3:=Jv y;have s4:=Jt y;have m1:=K8 x.num y.den;have m2:=K8 y.num x.den;have m3:=K8 (x.den:Int) y.den;have m4:=K8 x.num y.num;have m5:=LC (x.num*y.den) (y.num*x.den);have e5:(x.den:Int)*y.den≠0:=bc (Km x) (Km y);refine wA 2 I<|QI I (λ_ _ f k=>Mu f (hx)) λc44=>wB 3 I<|Qc Wk λb11=>Qc Wk λb12=>QW (vs:=[_,_]) I I I XB I .u1 .h2 wm<|QW (vs:=[_,_]) I I I XB I .here .h2 wm<|wD 5 I<|QI I (λ_ _ f k=>Mu f (hy)) λc49=>wB 3 I<|Qc Wk λb13=>Qc Wk λb14=>QW (vs:=[_,_]) I I I XB I .u1 .h2 wm<|QW (vs:=[_,_]) I I I XB I .here .h2 wm<|QE<|QC ?_
  refine QG<|JG we mixed tE<|QK (wN I XB .u3)<|QK (wN I XB .here)<|QR I (λ_ _ f k=>DF f (k.1.2.1) (k.2.2) O O) λc54=>QK (wN I XB .u1)<|QK (wN I XB .u2)<|QR I (λ_ _ f k=>DF f (k.1.2.1) (k.1.1.2.2) O O) λc57=>QR I (λ_ _ f k=>QCo f (k.1.2) (k.2) O O) λc58=>QK (wN I XB .u2)<|QK (wN I XB .here)<|QR I (λ_ _ f k=>DF f (k.1.1.1.1.2.2) (k.1.1.1.2.2) O O) λc61=>QR I (λ_ _ f k=>Mv f (k.1.2) (k.2) (e5) O O) λ_=>QK (QF I)<|Q7<|QC<|QX ?_
  exact wg I I (by rw[BO]) tL
 refine wD 4 I<|Yj I<|wC 3 I ?_
 have s1:=Jv x;have s2:=Jt x;have s3:=Jv y;have s4:=Jt y;have m1:=K8 x.num y.den;have m2:=K8 y.num x.den;have m3:=K8 (x.den:Int) y.den;have m4:=K8 x.num y.num;have m5:=LC (x.num*y.den) (y.num*x.den);have e5:(x.den:Int)*y.den≠0:=bc (Km x) (Km y);refine wA 2 I<|QI I (λ_ _ f k=>Mu f (hx)) λc44=>wB 3 I<|Qc Wk λb11=>Qc Wk λb12=>QW (vs:=[_,_]) I I I XB I .u1 .h2 wm<|QW (vs:=[_,_]) I I I XB I .here .h2 wm<|wD 5 I<|QI I (λ_ _ f k=>Mu f (hy)) λc49=>wB 3 I<|Qc Wk λb13=>Qc Wk λb14=>QW (vs:=[_,_]) I I I XB I .u1 .h2 wm<|QW (vs:=[_,_]) I I I XB I .here .h2 wm<|QE<|QC ?_
 refine QG<|JG we mixed tE<|QK (wN I XB .u3)<|QK (wN I XB .here)<|QR I (λ_ _ f k=>DF f (k.1.2.1) (k.2.2) O O) λc54=>QK (wN I XB .u1)<|QK (wN I XB .u2)<|QR I (λ_ _ f k=>DF f (k.1.2.1) (k.1.1.2.2) O O) λc57=>QR I (λ_ _ f k=>QCo f (k.1.2) (k.2) O O) λc58=>QK (wN I XB .u2)<|QK (wN I XB .here)<|QR I (λ_ _ f k=>DF f (k.1.1.1.1.2.2) (k.1.1.1.2.2) O O) λc61=>QR I (λ_ _ f k=>Mv f (k.1.2) (k.2) (e5) O O) λ_=>QK (QF I)<|Q7<|QC<|QX ?_
 exact wg I I (by rw[BO]) tL
theorem C3{y:Rat}(hF:Fits F w)(hx:JW x<=100000)(hy:JW y<=100000):Qf prog 20 [tx (JP x),tx (JP y)] w F (tx (JP (x*y))):=by
 refine QU.intro (G:=λF=>True) func20 rfl tH rfl rfl hF tL<|wa<|wZ rfl<|wb rfl<|QI rfl (λ_ _ f k=>Ot f (hx)) λc17=>JQ _ (λ_ _ f k=>k.2) λp17=>wW rfl<|QA (Qa rfl rfl)<|QA (Qa rfl rfl)<|QA (Qa rfl rfl)<|wX rfl<|wX rfl<|wZ rfl<|wb rfl<|QI rfl (λ_ _ f k=>Ot f (hy)) λc23=>JQ _ (λ_ _ f k=>k.2) λp23=>?_
 refine wD 14 I ?_;refine Qn (t:=28) rfl (λhb28=>?_) λhb28=>?_
 ·refine wD 5 I ?_;refine QQ I (λhc=>?_) λhc=>?_
  ·refine QG ?_;obtain⟨a1,a2,a3,a4⟩:=p17 hb28;obtain⟨b1,b2,b3,b4⟩:=p23 hc;have xd:=x.den_pos;have yd:=y.den_pos;have e1:(x.num*y.den).natAbs<1000000000*1000000000:=by rw[aW];exact aB a3 O
   have e2:(y.num*x.den).natAbs<1000000000*1000000000:=by rw[aW];exact aB b3 O
   have e3:(x.num*y.num).natAbs<1000000000*1000000000:=by rw[aW];exact aB a3 b3
   have e4:((x.den:Int)*y.den).natAbs<1000000000*1000000000:=by rw[aW];exact aB O O
   have e5:(x.den:Int)*y.den≠0:=by have h1:=Km x;have h2:=Km y;exact bc h1 h2
   rw[a1,a2,b1,b2];refine wA 3 I<|QA (Mx I I O)<|wB 2 I<|QA (Mx I I O)<|QI I (λ_ _ f k=>QG2 f O O (e5)) λ_=>wD 4 I ?_
   exact wg I I (by rw[BF]) tL
  refine wC 3 I ?_;have s1:=Jv x;have s2:=Jt x;have s3:=Jv y;have s4:=Jt y;have m1:=K8 x.num y.den;have m2:=K8 y.num x.den;have m3:=K8 (x.den:Int) y.den;have m4:=K8 x.num y.num;have m5:=LC (x.num*y.den) (y.num*x.den);have e5:(x.den:Int)*y.den≠0:=bc (Km x) (Km y);refine wA 2 I<|QI I (λ_ _ f k=>Mu f (hx)) λc40=>wB 3 I<|Qc Wk λb11=>Qc Wk λb12=>QW (vs:=[_,_]) I I I XB I .u1 .h2 wm<|QW (vs:=[_,_]) I I I XB I .here .h2 wm<|wD 5 I<|QI I (λ_ _ f k=>Mu f (hy)) λc45=>wB 3 I<|Qc Wk λb13=>Qc Wk λb14=>QW (vs:=[_,_]) I I I XB I .u1 .h2 wm<|QW (vs:=[_,_]) I I I XB I .here .h2 wm<|QE<|QC ?_
  refine QG<|JG we mixed tE<|QK (wN I XB .u3)<|QK (wN I XB .u1)<|QR I (λ_ _ f k=>DF f (k.1.2.1) (k.2.1) O O) λc50=>QK (wN I XB .u2)<|QK (wN I XB .here)<|QR I (λ_ _ f k=>DF f (k.1.1.2.2) (k.1.2.2) O O) λc53=>QR I (λ_ _ f k=>Mv f (k.1.2) (k.2) (e5) O O) λ_=>QK (QF I)<|Q7<|QC<|QX ?_
  exact wg I I (by rw[BF]) tL
 refine wD 4 I<|Yj I<|wC 3 I ?_
 have s1:=Jv x;have s2:=Jt x;have s3:=Jv y;have s4:=Jt y;have m1:=K8 x.num y.den;have m2:=K8 y.num x.den;have m3:=K8 (x.den:Int) y.den;have m4:=K8 x.num y.num;have m5:=LC (x.num*y.den) (y.num*x.den);have e5:(x.den:Int)*y.den≠0:=bc (Km x) (Km y);refine wA 2 I<|QI I (λ_ _ f k=>Mu f (hx)) λc40=>wB 3 I<|Qc Wk λb11=>Qc Wk λb12=>QW (vs:=[_,_]) I I I XB I .u1 .h2 wm<|QW (vs:=[_,_]) I I I XB I .here .h2 wm<|wD 5 I<|QI I (λ_ _ f k=>Mu f (hy)) λc45=>wB 3 I<|Qc Wk λb13=>Qc Wk λb14=>QW (vs:=[_,_]) I I I XB I .u1 .h2 wm<|QW (vs:=[_,_]) I I I XB I .here .h2 wm<|QE<|QC ?_
 refine QG<|JG we mixed tE<|QK (wN I XB .u3)<|QK (wN I XB .u1)<|QR I (λ_ _ f k=>DF f (k.1.2.1) (k.2.1) O O) λc50=>QK (wN I XB .u2)<|QK (wN I XB .here)<|QR I (λ_ _ f k=>DF f (k.1.1.2.2) (k.1.2.2) O O) λc53=>QR I (λ_ _ f k=>Mv f (k.1.2) (k.2) (e5) O O) λ_=>QK (QF I)<|Q7<|QC<|QX ?_
 exact wg I I (by rw[BF]) tL
theorem QHM{y:Rat}(hF:Fits F w)(hx:JW x<=100000)(hy:JW y<=100000):Qf prog 59 [tx (JP x),tx (JP y)] w F (tx (JP (x-y))):=by
 have hly:=Ie y;refine QU.intro (G:=λF=>True) func59 rfl tH rfl rfl hF tL<|wa<|wZ rfl<|wb rfl<|wW rfl<|QI rfl (λ_ _ f k=>QHO f O) λ_=>?_
 rw[dL];refine QI I (λ_ _ f k=>xW f (hx) (by rw[Vh];exact hy)) (λ_=>wD 4 I ?_);exact wg I I (by rw[Rat.sub_eq_add_neg]) tL
theorem QBB{y:Rat}(hF:Fits F w)(hx:JW x<=100000)(hy:JW y<=100000):Qf prog 58 [tx (JP x),tx (JP y)] w F (.int .i64 (Yw x y)):=by
 refine QU.intro (G:=λF=>True) func58 rfl tH rfl rfl hF tL<|wa<|wZ rfl<|wb rfl<|wW rfl<|QI rfl (λ_ _ f k=>QHM f O O) λ_=>QI rfl (λ_ _ f k=>Oo f ) λ_=>wZ rfl<|QX ?_
 exact wg I I (by rw[Oc,QGk]) tL
theorem QDR(hF:Fits F w)(hl:s.length<=1000000)(h1:ZJ (aa (s.take (ahead Zw s)) [45])=true)(h2:ahead Zw s<s.length->ZJ (aa (s.drop (ahead Zw s+1)) [45])=true):QU prog 97 [tx s] w F Ri.v2 (λc F=>E4 F c.1 (Y9 (s.take (ahead Zw s)))/\(ahead Zw s<s.length->E4 F c.2 (Y9 (s.drop (ahead Zw s+1))))):=by
 have hah:=Et Zw s;refine QU.intro (G:=λF=>True) func97 rfl tH rfl rfl hF tL<|wa<|Qc Wk λb2=>Qc Wk λb3=>wY<|wb rfl<|wZ rfl<|wb rfl<|QI rfl (λ_ _ f k=>Sn f O) λ_=>wZ rfl<|QG<|wb rfl<|wW rfl ?_
 refine QA (Xc I Zm)<|wD 3 I ?_
 refine QQ I (λhc=>?_) λhc=>?_
 ·have hd:ahead Zw s=s.length:=by have:(ahead Zw s:Int)=(s.length:Int):=(by simpa using hc);omega
  refine wb I<|QI I (λ_ _ f k=>Sq f (by rw[hd,aG]at h1;exact h1) O) λc14=>QI I (λ_ _ f k=>Sm f tF) λc15=>QW (vs:=[_,_]) I I I XB I .u1 .h2 wm<|QW (vs:=[_,_]) I I I XB I .here .h2 wm<|wY<|QX ?_
  exact Je ((c14,c15):Ri×Ri) rfl (.JX (c:=[_,_]) I XB .u1 (.JX (c:=[_,_]) I XB .here .nil)) (rfl) λF h9=>⟨by rw[hd,aG];exact h9.1.2,λg=>O⟩
 have hd:ahead Zw s<s.length:=by rcases aN (ahead Zw s) s.length with g | g;exact g;exact absurd (show ahead Zw s=s.length by omega) λe=>by rw[e]at hc;simp at hc
 refine wC 3 I<|JG (.cons _ (.cons _ .slnil)) mixed tE<|QK (QD I)<|QK (QD I)<|QK (Mj (ahead Zw s) rfl rfl Zm I O)<|QR I (λ_ _ f k=>Sq f (h1) (by rw[av];omega)) λc19=>QK (QD I)<|QK (QD I)<|QK (Qu I I O)<|QK (GL ((ahead Zw s+1)) I I Zm wS O)<|QR I (λ_ _ f k=>Sq f (h2 hd) (by rw[aL];omega)) λc24=>JV (vs:=[_,_]) I I I XB I .u1 (.cons _ .slnil) (λ_ h=>h.1.1) .h2 wm<|JV (vs:=[_,_]) I I I XB I .here (.cons _ .slnil) (λ_ h=>h.1.1) .h2 wm<|Q7<|QC<|QX ?_
 exact Je ((c19,c24):Ri×Ri) rfl (.JX (c:=[_,_]) I XB .u1 (.JX (c:=[_,_]) I XB .here .nil)) (rfl) λF h9=>⟨h9.1.2,λ_=>h9.2⟩
def vA(s:List UInt8):Bool:=!Xv ((aa s [45]).take (ahead Zw (aa s [45])))||(ao s [45]&&(aa s [45]).take (ahead Zw (aa s [45]))==[48])
def U2(s:List UInt8):List UInt8:=(aa s [45]).drop (ahead Zw (aa s [45])+1)
def AW(s:List UInt8):Bool:=decide (ahead Zw (aa s [45])<(aa s [45]).length)
def kD(s:List UInt8):Bool:=AW s&&(!Xv (U2 s)||(U2 s==[48]||U2 s==[49]))
def k8(s:List UInt8):Bool:=decide (600<ahead Zw (aa s [45]))||decide (600<(U2 s).length)
def pQ(s:List UInt8):Bool:=AW s&&!(ba (Jc ((aa s [45]).take (ahead Zw (aa s [45])))) (Jc (U2 s))==1)
def F4(s:List UInt8):Int:=if vA s=true then 1 else if kD s=true then 1 else if k8 s=true then 4 else if pQ s=true then 1 else 0
def jq{l:List UInt8}(h:(!Xv l)=false):0<l.length:=by
 rcases aA l.length with g | g
 ·rw[aj g]at h;simp[Xv]at h
 exact g
def QF6{p:UInt8->Bool}(h:∀c∈s,p c=true):s.takeWhile p=s:=by
 induction s with
 |nil=>rfl
 |cons c r ih=>rw[eE (h c tJ),ih (λd hd=>h d (by simp[hd]))]
def QCe{l:List UInt8}(h:ZJ l=true):sz (Jc l:Int)<=4*l.length:=by
 rw[XD];have h1:=Hb h;have h2:10^l.length<=2^(4*l.length):=by rw[Nat.pow_mul];exact bW tF _
 simp;omega
theorem QD6(s:List UInt8):(Yq 47 s).1=s.take (ahead Zw s)/\(Yq 47 s).2.1=s.drop (ahead Zw s+1)/\(Yq 47 s).2.2=decide (ahead Zw s<s.length):=by
 have hf:(λc:UInt8=>!Zw c)=λc=>c != 47:=by funext c;simp[Zw,bne]
 have h1:=WO (λc:UInt8=>c != 47) s;have ha:ahead Zw s=(s.takeWhile λc=>c != 47).length:=by unfold ahead;rw[hf]
 rw[ha];by_cases hc:s.contains 47=true
 ·have e:Yq 47 s=(s.takeWhile (· != 47),(s.dropWhile (· != 47)).drop 1,true):=by unfold Yq;rw[if_pos hc]
  rw[e];obtain⟨r,hr⟩:=Ml (show(47:UInt8)∈s by simpa using hc);have hd:=h1.2;rw[hr]at hd;refine⟨h1.1.symm,?_,?_⟩
  ·show(s.dropWhile (· != 47)).drop 1=_;rw[hr,<-aF,hd]
  have:(s.takeWhile λc=>c != 47).length<s.length:=by
   have:=congrArg er hd;rw[aL,aH]at this;omega
  simp[this]
 have e:Yq 47 s=(s,[],false):=by unfold Yq;rw[if_neg hc]
 rw[e];have h2:s.takeWhile (λc=>c != 47)=s:=by
  refine QF6 λc hm=>?_;have:c≠47:=by rintro rfl;exact hc (by simpa using hm)
  simpa using this
 rw[h2];simp
theorem QET(s:List UInt8):aa (Yq 47 s).1 [45]=(Yq 47 (aa s [45])).1/\ao (Yq 47 s).1 [45]=ao s [45]/\(Yq 47 s).2=(Yq 47 (aa s [45])).2:=by
 cases s with
 |nil=>exact⟨rfl,rfl,rfl⟩
 |cons c r =>
  by_cases hc:c=45
  ·subst hc;have e:aa (45::r) [45]=r:=rfl;rw[e];unfold Yq;have h0:((45:UInt8)::r).contains 47=r.contains 47:=tJ;rw[h0];split
   ·exact⟨rfl,rfl,rfl⟩
   exact⟨rfl,rfl,rfl⟩
  have hp:ao (c::r) [45]=false:=by
   rw[EG tJ];simpa using hc
  have e:aa (c::r) [45]=c::r:=by unfold aa;rw[if_neg (by rw[hp];decide)]
  rw[e];have e2:∀l:List UInt8,ao l [45]=false->aa l [45]=l:=λl h=>by unfold aa;rw[if_neg (by rw[h];decide)]
  have h3:ao (Yq 47 (c::r)).1 [45]=false:=by
   unfold Yq;split
   ·by_cases h47:c=47
    ·subst h47;rfl
    rw[eE (by simpa using h47),EG tJ];simpa using hc
   exact hp
  exact⟨e2 _ h3,by rw[h3,hp],rfl⟩
def QGm(h1:vA s=false)(h2:kD s=false)(hk:ahead Zw (aa s [45])<(aa s [45]).length):ZJ ((aa s [45]).take (ahead Zw (aa s [45])))=true/\ZJ (U2 s)=true:=by
 have hs:AW s=true:=by simp[AW];exact hk
 simp only[vA,eQ,eV]at h1;simp only[kD,hs,Bool.true_and,eQ,eV]at h2;exact⟨WU h1.1,WU h2.1⟩
theorem QD3(s:List UInt8):F4 s=Jp s:=by
 obtain⟨t1,t2,t3⟩:=QET s;obtain⟨c1,c2,c3⟩:=QD6 (aa s [45]);have t4:(Yq 47 s).2.1=U2 s:=by rw[t3,c2];rfl
 have t5:(Yq 47 s).2.2=AW s:=by rw[t3,c3];rfl
 have hlen:(aa s [45]).take (ahead Zw (aa s [45]))=(aa s [45]).take (ahead Zw (aa s [45])):=rfl;have hk:((aa s [45]).take (ahead Zw (aa s [45]))).length=ahead Zw (aa s [45]):=by
  rw[av];have:=Et Zw (aa s [45]);omega
 unfold Jp Hl F4 Iz vA kD k8 pQ;rw[t1,t2,t4,t5,c1,hk];generalize (aa s [45]).take (ahead Zw (aa s [45]))=a;generalize U2 s=d;generalize AW s=f;generalize ao s [45]=n;have e:(!Xv a||(n&&a==[48])||(f&&(!Xv d||d==[48]||d==[49])))=((!Xv a||(n&&a==[48]))||(f&&(!Xv d||(d==[48]||d==[49])))):=by rw[Bool.or_assoc (!Xv d)]
 rw[e];cases (!Xv a||(n&&a==[48]))<;>cases (f&&(!Xv d||(d==[48]||d==[49])))<;>rfl
theorem vN(hF:Fits F w)(hl:s.length<=9223372036854775807):Qf prog 18 [tx s] w F (.int .i64 (Jp s)):=by
 rw[<-QD3];have hln:(aa s [45]).length<=s.length:=AK _ _;have hah:=Et Zw (aa s [45]);refine QU.intro (G:=λF=>True) func18 rfl tH rfl rfl hF tL<|wa<|wZ rfl<|wb rfl<|wX rfl<|QE<|QC ?_
 refine ZZ [(0,_)] [(3,tx (aa s [45]))] wk ?_ ?_
 ·refine ZZ [(0,_),(3,_)] [(16,.bool (ao s [45]))] wm ?_ ?_
  ·refine wA 2 I<|QA (Xc I Zm)<|wB 2 I ?_
   refine Qn (t:=12) rfl (λhb12=>?_) λhb12=>?_
   ·refine wB 3 I<|QA (Hh (i:=0) rfl rfl Zm (tD<|wi hb12))<|wB 4 I ?_
    exact JY ⟨rfl,rfl,(congrArg (λb=>some (ag b)) (by have h0:0<s.length:=(tD<|wi hb12);rw[EG h0];exact AF I)),trivial⟩ we tM
   refine wB 5 I ?_;exact JY ⟨rfl,rfl,(congrArg (λb=>some (ag b)) (by have h0:s.length=0:=(tD<|wj hb12);rw[aj h0];rfl)),trivial⟩ we tM
  simp only[ae,af];refine QQ I (λhc=>?_) λhc=>?_
  ·refine wA 2 I<|QA (GL (1) rfl rfl Zm I (Ld hc))<|wB 2 I ?_
   exact JY ⟨rfl,(congrArg (λl=>some (tx l)) (by unfold aa;rw[if_pos hc];rfl)),trivial⟩ we tM
  refine QN ?_;exact JY ⟨rfl,(congrArg (λl=>some (tx l)) (by unfold aa;rw[hc];rfl)),trivial⟩ we tM
 simp only[ae,af];refine wb I<|QI I (λ_ _ f k=>Sn f O) λ_=>wD 4 I ?_
 refine ZZ [(3,_),(4,_)] [(36,.bool (vA s))] wm ?_ ?_
 ·refine wA 3 I<|QA (Mj ((ahead Zw (aa s [45]))) I I Zm I O)<|QI I (λ_ _ f k=>QCq f (by rw[av];omega)) λ_=>QA (XL I)<|wW I ?_
  refine Qn (t:=26) rfl (λhb26=>?_) λhb26=>?_
  ·refine wB 4 I<|Jn I I<|Jn I I<|Jn I I<|Jn I I<|wB 3 I ?_
   exact JY ⟨rfl,rfl,(congrArg (λb=>some (ag b)) (by simp[vA]at hb26 ⊢;simp[hb26])),trivial⟩ we tN
  refine wB 3 I<|QA (Hh (i:=0) rfl rfl Bw (by have h1:=jq hb26;rw[av]at h1;omega))<|wB 4 I ?_
  refine Qn (t:=30) rfl (λhb30=>?_) λhb30=>?_
  ·refine wB 5 I<|QA (Mj ((ahead Zw (aa s [45]))) I I Zm I O)<|QL I I<|QA (VE I I)<|wB 4 I ?_
   exact JY ⟨rfl,rfl,(congrArg (λb=>some (ag b)) (by have h0:0<s.length:=(by have h1:=jq hb26;rw[av]at h1;omega);have hp:ao s [45]=true:=(by rw[EG h0,<-AF (z:=45) rfl];exact hb30);simp[vA]at hb26 ⊢;simp[hb26,hp])),trivial⟩ we tN
  refine wB 8 I ?_;exact JY ⟨rfl,rfl,(congrArg (λb=>some (ag b)) (by have h0:0<s.length:=(by have h1:=jq hb26;rw[av]at h1;omega);have hp:ao s [45]=false:=(by rw[EG h0,<-AF (z:=45) rfl];exact hb30);simp[vA]at hb26 ⊢;simp[hb26,hp])),trivial⟩ we tN
 simp only[ae,af];refine QQ I (λhc=>?_) λhc=>?_
 ·have hb1:vA s=true:=hc;refine wA 6 I ?_;exact wg I I (congrArg (ab .i64) (by simp[F4,hb1])) tL
 have hb1:vA s=false:=hc;refine wC 3 I ?_;refine ZZ [(3,_),(4,_)] [(62,.bool (kD s))] wm ?_ ?_
 ·refine wA 3 I<|QA (Xc I Zm)<|wB 2 I ?_
  refine Qn (t:=41) rfl (λhb41=>?_) λhb41=>?_
  ·refine wB 5 I<|QA (Qu I I (by first | omega | (simp only[decide_eq_true_eq]at *;omega)))<|QL I I<|QA (GL (((ahead Zw (aa s [45]))+1)) I I Zm wS (tD<|wi hb41))<|QL I I<|QI I (λ_ _ f k=>QCq f (by rw[aL];omega)) λ_=>QL I I<|QA (XL I)<|wB 2 I ?_
   refine Qn (t:=48) rfl (λhb48=>?_) λhb48=>?_
   ·refine wB 18 I ?_;exact JY ⟨rfl,rfl,(congrArg (λb=>some (ag b)) (by have h1:AW s=true:=(by simp[AW];simpa using hb41);simp[kD,h1];simp at hb48;exact .inl hb48)),trivial⟩ we tN
   refine wB 5 I<|QA (Qu I I (by first | omega | (simp only[decide_eq_true_eq]at *;omega)))<|QL I I<|QA (GL (((ahead Zw (aa s [45]))+1)) I I Zm wS (tD<|wi hb41))<|QL I I<|QA (VE I I)<|wB 4 I ?_
   refine Qn (t:=55) rfl (λhb55=>?_) λhb55=>?_
   ·refine wB 9 I ?_;exact JY ⟨rfl,rfl,(congrArg (λb=>some (ag b)) (by have h1:AW s=true:=(by simp[AW];simpa using hb41);simp[kD,h1];exact .inr (.inl (by simpa[U2]using hb55)))),trivial⟩ we tN
   refine wB 5 I<|QA (Qu I I (by first | omega | (simp only[decide_eq_true_eq]at *;omega)))<|QL I I<|QA (GL (((ahead Zw (aa s [45]))+1)) I I Zm wS (tD<|wi hb41))<|QL I I<|QA (VE I I)<|wB 4 I ?_
   exact JY ⟨rfl,rfl,(congrArg (λb=>some (ag b)) (by have h1:AW s=true:=(by simp[AW];simpa using hb41);simp at hb48 hb55;simp[kD,h1,U2,hb48,hb55])),trivial⟩ we tN
  refine wB 7 I<|Jn I I<|Jn I I<|Jn I I<|Jn I I<|Jn I I<|wB 2 I<|Jn I I<|Jn I I<|Jn I I<|Jn I I<|Jn I I<|wB 3 I ?_
  exact JY ⟨rfl,rfl,(congrArg (λb=>some (ag b)) (by have h1:AW s=false:=(by simp[AW];simpa using hb41);simp[kD,h1])),trivial⟩ we tM
 simp only[ae,af];refine QQ I (λhc=>?_) λhc=>?_
 ·have hb2:kD s=true:=hc;refine wA 6 I ?_;exact wg I I (congrArg (ab .i64) (by simp[F4,hb1,hb2])) tL
 have hb2:kD s=false:=hc;refine wC 3 I ?_;refine ZZ [(3,_),(4,_)] [(72,.bool (k8 s))] wm ?_ ?_
 ·refine wA 4 I ?_;refine Qn (t:=65) rfl (λhb65=>?_) λhb65=>?_
  ·refine wB 8 I ?_;exact JY ⟨rfl,rfl,(congrArg (λb=>some (ag b)) (by have:=wi hb65;simp[k8];left;omega)),trivial⟩ we tM
  refine wB 3 I<|QA (Xc I Zm)<|wB 3 I<|QA (X3 I I O)<|QL I I<|QA (X3 I I O)<|wB 4 I ?_
  exact JY ⟨rfl,rfl,(congrArg (λb=>some (ag b)) (by rw[aD];have:=wj hb65;simp[k8,U2];omega)),trivial⟩ we tM
 simp only[ae,af];refine QQ I (λhc=>?_) λhc=>?_
 ·have hb3:k8 s=true:=hc;refine wA 6 I ?_;exact wg I I (congrArg (ab .i64) (by simp[F4,hb1,hb2,hb3])) tL
 have hb3:k8 s=false:=hc;have hk6:ahead Zw (aa s [45])<=600:=by simp[k8]at hb3;exact hb3.1
 refine wC 7 I<|QA (Xc I Zm)<|wD 3 I ?_
 refine QQ I (λhc=>?_) λhc=>?_
 ·have hk:ahead Zw (aa s [45])<(aa s [45]).length:=tD<|wi hc
  obtain⟨da,dd⟩:=QGm hb1 hb2 hk;refine wb I<|QI I (λ_ _ f k=>QDR f (s:=(aa s [45])) (by have h6:(U2 s).length<=600:=(by simp[k8]at hb3;exact hb3.2);have h7:(U2 s).length=(aa s [45]).length-(ahead Zw (aa s [45])+1):=(by unfold U2;rw[aL]);omega) (by rw[WM da];exact da) λ_=>by rw[show(List.drop (ahead Zw (aa s [45])+1) (aa s [45]))=U2 s from rfl,WM dd];exact dd) λc79=>wW rfl<|QA (Qa rfl rfl)<|QA (Qa rfl rfl)<|Qc Wk λb5=>Qc Wk λb6=>QW (vs:=[_,_]) rfl rfl rfl XB rfl .u1 .h2 wm<|QW (vs:=[_,_]) rfl rfl rfl XB rfl .here .h2 wm<|wY<|QG<|XV _ (λ_ _ f h=>aM h.2.1.p (aM (h.2.2 hk).p (aM h.2.1.1.2.1 (h.2.2 hk).1.2.1))) λpp=>?_
  obtain⟨pa,pd,na,nd⟩:=pp;rw[YO da]at pa;have pd2:=pd;rw[show Y9 ((aa s [45]).drop (ahead Zw (aa s [45])+1))=Jc (U2 s)from YO dd]at pd2;have la:=pa.len;have ld:=pd2.len;have sa:=QCe da;have sd:=QCe dd;have h600:(U2 s).length<=600:=by simp[k8]at hb3;exact hb3.2
  rw[av]at sa;refine QB<|QA (QH I K2 JM)<|QA (Qe I JM .u1 (.skip .h1))<|QA (QH I K2 JM)<|QA (Qe I JM .here (.skip .h1)) ?_
  refine QI I (λ_ _ f k=>vM f (a:=c79.1.l) (b:=c79.2.l) (ra:=c79.1.r) (rb:=c79.2.r) k.2.1.1 ((k.2.2 hk).1) (pa.dg) (pd.dg) (pa.nz) (pd.nz) O O) (λc86=>?_);rcases c86 with ⟨v86,l86⟩;dsimp only;refine JQ _ (λw F hF ⟨⟨⟨hT,_⟩,h79⟩,⟨h86,h86p⟩⟩=>aM h86.2 h86p) (λp86=>wX rfl<|QE<|QC ?_);refine ZZ [] [(95,.bool (pQ s))] trivial ?_ ?_
  ·have hgc:dv B9 l86=(ba (Jc ((aa s [45]).take (ahead Zw (aa s [45])))) (Jc (U2 s)):Nat):=by
    rw[p86.2.2.2,cq pa pd2];rfl
   have hone:=zQ p86.2.1 p86.2.2.1;have hsl:AW s=true:=by simp[AW];exact hk
   refine wA 2 I<|QA (Qg I Q2)<|wB 2 I ?_
   refine Qn (t:=90) rfl (λhb90=>?_) λhb90=>?_
   ·refine wB 6 I ?_;exact JY ⟨(congrArg (λb=>some (ag b)) (by have h1:¬l86.length=1:=(by simp at hb90;omega);rw[aD];simp[pQ,hsl];intro g;exact h1 (hone.2 (by rw[hgc,g];rfl)).1)),trivial⟩ we tM
   have hn1:v86.n=1:=by simp at hb90;omega
   refine wB 3 I<|QA (Q3 (n:=v86.n) (0) (λF h9=>(h9.2.1).1) rfl wS Q2 JK O)<|QL I I<|QA (JA (n:=v86.n) ((0)*1) (λF h9=>(h9.2.1).1) O rfl JK (Jz (o:=l86) O))<|wB 4 I ?_
   exact JY ⟨(congrArg (λb=>some (ag b)) (by have h1:l86.length=1:=O;rw[aD];simp[pQ,hsl];exact not_congr ⟨λe=>by have h2:=hone.1 ⟨h1,e⟩;rw[hgc]at h2;omega,λe=>(hone.2 (by rw[hgc,e];rfl)).2⟩)),trivial⟩ we tM
  simp only[ae,af];refine QQ I (λhc=>?_) λhc=>?_
  ·have hg4:pQ s=true:=hc;refine wA 6 I ?_;exact wg I I (congrArg (ab .i64) (by simp[F4,hb1,hb2,hb3,hg4])) tL
  have hg4:pQ s=false:=hc;refine wC 8 I ?_;exact wg I I (congrArg (ab .i64) (by simp[F4,hb1,hb2,hb3,hg4])) tL
 have hg4:pQ s=false:=by have:=wj hc;simp[pQ,AW];intro g;omega
 refine wC 8 I ?_;exact wg I I (congrArg (ab .i64) (by simp[F4,hb1,hb2,hb3,hg4])) tL
theorem Ou(hF:Fits F w)(hl:s.length<=1000000):Qf prog 18 [tx s] w F (.int .i64 (Jp s)) :=
 vN hF (bO hl tF)
theorem QCs{a b:List UInt8}(hF:Fits F w)(ha:Jp a=0)(hb:Jp b=0):Qf prog 58 [tx a,tx b] w F (.int .i64 (Yw (Qz a) (Qz b))):=by
 have h1:=KO ha;have h2:=KO hb;have:=QBB (x:=Qz a) (y:=Qz b) hF O O;rw[<-(XM ha).1,<-(XM hb).1]at this;exact this
theorem Ov{lo hi:List UInt8}(hF:Fits F w)(hl:lo.length<=1000000/\hi.length<=1000000):Qf prog 30 [.agg #[tx lo,tx hi]] w F (.int .i64 (Xd lo hi)):=by
 refine QU.intro (G:=λF=>True) func30 rfl tH rfl rfl hF tL<|wa<|Qp rfl (vs:=[_,_]) rfl λb1=>wZ rfl<|wa<|QA (QH rfl V6 JF)<|QA (Qe rfl JF .here .h1)<|QI rfl (λ_ _ f k=>Ou f (hl.1)) λ_=>wX rfl<|QE<|QC ?_
 refine ZZ [(1,_)] [(3,.int .i64 (Qs [Jp lo,Jp hi]))] wk ?_ ?_
 ·refine wA 6 I ?_;refine QQ I (λhc=>?_) λhc=>?_
  ·refine QB<|QA (QH I We JF)<|QA (Qe I JF .here (.skip .h1))<|QI I (λ_ _ f k=>Ou f (hl.2)) λ_=>wB 2 I ?_
   exact JY ⟨rfl,(congrArg (λz:Int=>some (ab .i64 z)) (by simp[Qs];simp at hc;simp[hc])),trivial⟩ we tN
  refine QN ?_;exact JY ⟨rfl,(congrArg (λz:Int=>some (ab .i64 z)) (by simp[Qs];simp at hc;simp[hc])),trivial⟩ we tM
 simp only[ae,af];refine wA 6 I ?_;refine Qn (t:=14) rfl (λhb14=>?_) λhb14=>?_
 ·refine QL I I ?_;obtain⟨k1,k2⟩:=MT (by simpa using hb14);refine QA (QH I V6 JF)<|QL I I<|QA (Qe I JF .here .h1)<|QL I I<|QA (QH I We JF)<|QL I I<|QA (Qe I JF .here (.skip .h1))<|QL I I<|QI I (λ_ _ f k=>QCs f (k1) (k2)) λ_=>wD 5 I ?_
  refine QQ I (λhc=>?_) λhc=>?_
  ·refine wA 6 I ?_;exact wg I I (congrArg (ab .i64) (by unfold Xd;rw[if_pos (by simpa using hb14),if_pos (wi hc)])) tL
  refine wC 9 I ?_;exact wg I I (congrArg (ab .i64) (by unfold Xd;rw[if_pos (by simpa using hb14),if_neg (wj hc)];symm;simpa using hb14)) tL
 refine wD 9 I<|Yj I<|wC 9 I ?_
 exact wg I I (congrArg (ab .i64) (by unfold Xd;rw[if_neg (by simpa using hb14)])) tL
theorem jG{q:Option Addr}{c:Nat}{l:List (List UInt8×List UInt8)}(hF:Fits F w)(hR:Qy F q n 2 (l.flatMap NU))(hl:l.length=n/\∀s∈l,s.1.length<=1000000/\s.2.length<=1000000)(hn:n<=1000000):Qf prog 118 [.slice q n c] w F (.int .i64 (Qs (l.map λp=>Xd p.1 p.2))):=by
 have hln:=hl.1;refine QU.intro (G:=λF=>Qy F q n 2 (l.flatMap NU)) func118 rfl tH rfl rfl hF (λF' hF'=>hR.le hF')<|wa<|wZ rfl<|QG<|wa<|wZ rfl<|QV<|J9 (ι:=X7 l λp=>Xd p.1 p.2) [(0,_)] (λi=>[(3,.int .i64 ((i.i:Nat):Int))]) (λi=>l.length-i.i) (X7.start _ _) wk wk λi=>?_
 simp only[ae,af];refine wA 5 I<|QA (Qg I XF)<|wD 3 I ?_
 refine QQ I (λhc=>?_) λhc=>?_
 ·have hi:i.i<l.length:=tD<|wi hc
  refine wC 8 I<|QA (Q3 (n:=n) i.i tM rfl rfl XF Jd O)<|QA (JZ (n:=n) (vs:=[tx (el l i.i).1,tx (el l i.i).2]) ((i.i)*2) tM O rfl Jd I λj v hv=>JN (f:=NU) (l:=l) K1 O hv)<|QI I (λ_ _ f k=>Ov f (hl.2 _ (Qw hi))) λ_=>wD 9 I ?_
  refine QQ I (λhc=>?_) λhc=>?_
  ·refine wA 7 I ?_
   repeat first|refine Q6 ?_|refine Qv ?_
   exact wg I I (congrArg (ab .i64) (i.hit hi (by simpa using hc))) tL
  refine QN<|Qj<|wE 3 I<|QA (Qu I I O)<|wB 2 I ?_
  exact Ql (i.next hi (by simpa using hc)) (by show l.length-(i.i+1)<l.length-i.i;omega) wm we tN
 have hi:l.length<=i.i:=tD<|wj hc
 refine Qx ?_
 repeat first|refine QY ?_|refine QO tH ?_
 refine QZ<|wE 7 I ?_
 exact wg I I (congrArg (ab .i64) (i.stop hi)) tL
theorem uv{q:Option Addr}{c:Nat}{l:List (List UInt8)}(hF:Fits F w)(hR:Qy F q n 1 (l.map tx))(hl:l.length=n/\∀s∈l,s.length<=1000000)(hn:n<=1000000):Qf prog 44 [.slice q n c] w F (.int .i64 (Qs (l.map MN))):=by
 have hln:=hl.1;refine QU.intro (G:=λF=>Qy F q n 1 (l.map tx)) func44 rfl tH rfl rfl hF (λF' hF'=>hR.le hF')<|wa<|wZ rfl<|QG<|wa<|wZ rfl<|QV<|J9 (ι:=X7 l MN) [(0,_)] (λi=>[(3,.int .i64 ((i.i:Nat):Int))]) (λi=>l.length-i.i) (X7.start _ _) wk wk λi=>?_
 simp only[ae,af];refine wA 5 I<|QA (Qg I YG)<|wD 3 I ?_
 refine QQ I (λhc=>?_) λhc=>?_
 ·have hi:i.i<l.length:=tD<|wi hc
  have hel:=hl.2 _ (Qw hi);refine wC 8 I<|QA (Q3 (n:=n) i.i tM rfl rfl YG JF O)<|QA (JA (n:=n) ((i.i)*1) tM O rfl JF (XT (f:=tx) (l:=l) O))<|QI I (λ_ _ f k=>QEm f O) λ_=>wD 3 I ?_
  refine QQ I (λhc=>?_) λhc=>?_
  ·refine wA 6 I ?_
   repeat first|refine Q6 ?_|refine Qv ?_
   exact wg I I (congrArg (ab .i64) (by have h:=i.hit hi (by simpa using hc);rw[h];have h2:MN (el l i.i)≠0:=(by simpa using hc);unfold MN at h2 ⊢;split at h2<;>simp_all)) tL
  refine QN<|Qj<|wE 3 I<|QA (Qu I I O)<|wB 2 I ?_
  exact Ql (i.next hi (by simpa using hc)) (by show l.length-(i.i+1)<l.length-i.i;omega) wm we tN
 have hi:l.length<=i.i:=tD<|wj hc
 refine Qx ?_
 repeat first|refine QY ?_|refine QO tH ?_
 refine QZ<|wE 7 I ?_
 exact wg I I (congrArg (ab .i64) (i.stop hi)) tL
def Uz(a:List UInt8)(d:Int):Bool:=decide ((a.length:Int)<=2*d+2)&&(Jp a==0&&(decide (((vB (numOf a)).length:Int)<=d)&&decide (((CS a).length:Int)<=d)))
def vX(a:List UInt8):(numOf a).length<=a.length:=by unfold numOf;rw[av];omega
def cx(d:Int)(p:List UInt8×List UInt8):Bool:=Uz p.1 d&&(Uz p.2 d&&!decide (Yw (Qz p.1) (Qz p.2)>0))
def QDC{a:List UInt8}{d:Int}(h:Uz a d=true):Jp a=0:=by
 simp only[Uz,eY,beq_iff_eq]at h;exact h.2.1
theorem QHR{a:List UInt8}{d:Int}(hF:Fits F w)(hl:a.length<=1000000)(hd:0<=d/\d<=1000000):Qf prog 57 [tx a,.int .i64 d] w F (.bool (Uz a d)):=by
 have hn:=vX a;refine QU.intro (G:=λF=>True) func57 rfl tH rfl rfl hF tL<|wa<|wZ rfl<|wb rfl<|QA (Xc rfl Bw)<|wW rfl<|QA (Mx rfl rfl O)<|QA (Qu rfl rfl O)<|QA (QT rfl rfl rfl)<|wW rfl ?_
 refine Qn (t:=11) rfl (λhb11=>?_) λhb11=>?_
 ·refine wB 3 I<|QI I (λ_ _ f k=>Ou f (hl)) λ_=>wB 4 I ?_
  refine Qn (t:=16) rfl (λhb16=>?_) λhb16=>?_
  ·refine wB 3 I<|QI I (λ_ _ f k=>QA6 f O) λ_=>QL I I<|QI I (λ_ _ f k=>gi f ) λ_=>QL I I<|QA (Xc I Bw)<|wB 6 I ?_
   refine Qn (t:=24) rfl (λhb24=>?_) λhb24=>?_
   ·refine wB 3 I<|QI I (λ_ _ f k=>QA9 f O) λ_=>QL I I<|QA (Xc I Bw)<|wD 9 I ?_
    exact wg I I ((congrArg ag (by have h1:=wi hb11;simp[Uz,h1];simp at hb16 hb24;simp[hb16,hb24]))) tL
   refine wD 10 I ?_;exact wg I I ((congrArg ag (by have h1:=wi hb11;simp[Uz,h1];simp at hb16 hb24;simp[hb16];intro g;omega))) tL
  refine wD 18 I ?_;exact wg I I ((congrArg ag (by have h1:=wi hb11;simp at hb16;simp[Uz,h1,hb16]))) tL
 refine wD 23 I ?_;exact wg I I ((congrArg ag (by simp[Uz,hb11]))) tL
section
open Go.RowKit Go.ChangeShapes Go.WideShapes Ig
section
variable{H:Type}{enc:TypeId×Value->H}{w:World}
set_option maxRecDepth 100000 in
theorem xF(n:Nat)(cs:List Value)(x:DataW H×List MemPlace)(h:bN enc prog w 0 (λ_=>true) true n 40 cs=some x):∃y:List UInt8×List UInt8,cs=NU y:=by
 obtain⟨yz0,y1,m,_,hl,h0,h1⟩:=trod_struct2 underlying40 h;have c2:prog.cellsOf 40=2:=tE;have c1:prog.cellsOf 22=1:=tE;rw[c2]at hl
 match cs,hl with
 |[a,b],_ =>
  dsimp only at h0 h1;rw[c1]at h0 h1;obtain⟨lo,rfl⟩:=LG jD (v:=a) h0;obtain⟨hi,rfl⟩:=LG jD (v:=b) h1;exact⟨(lo,hi),rfl⟩
end
end
@[reducible] def kh (a:Rat×Rat):Value:=.agg #[tx (JP a.1),tx (JP a.2)]
def Ux(k:Nat)(a:Rat×Rat):Prop:=JW a.1<=k/\JW a.2<=k
theorem gS{y:Rat}(hF:Fits F w)(hx:JW x<=100000)(hy:JW y<=100000):Qf prog 215 [tx (JP x),tx (JP y)] w F (tx (JP (Dv x y))):=by
 refine QU.intro (G:=λF=>True) func215 rfl tH rfl rfl hF tL<|wa<|wZ rfl<|QG<|wb rfl<|wW rfl<|QI rfl (λ_ _ f k=>QBB f (hx) (hy)) λ_=>QA (QT rfl rfl rfl)<|QE<|QC ?_
 refine QQ I (λhc=>?_) λhc=>?_
 ·refine wA 7 I ?_;exact wg I I (by unfold Dv;rw[if_pos (wi hc)]) tL
 refine wC 9 I ?_;exact wg I I (by unfold Dv;rw[if_neg (wj hc)]) tL
theorem C4{y:Rat}(hF:Fits F w)(hx:JW x<=100000)(hy:JW y<=100000):Qf prog 139 [tx (JP x),tx (JP y)] w F (tx (JP (Gx x y))):=by
 refine QU.intro (G:=λF=>True) func139 rfl tH rfl rfl hF tL<|wa<|wZ rfl<|QG<|wb rfl<|wW rfl<|QI rfl (λ_ _ f k=>QBB f (hx) (hy)) λ_=>QA (QT rfl rfl rfl)<|QE<|QC ?_
 refine QQ I (λhc=>?_) λhc=>?_
 ·refine wA 7 I ?_;exact wg I I (by unfold Gx;rw[if_pos (wi hc)]) tL
 refine wC 9 I ?_;exact wg I I (by unfold Gx;rw[if_neg (wj hc)]) tL
theorem uz{a b:Rat×Rat}(hF:Fits F w)(ha:Ux 100000 a)(hb:Ux 100000 b):Qf prog 127 [kh a,kh b] w F (kh (a.1+b.1,a.2+b.2)):=by
 obtain⟨ha1,ha2⟩:=ha;obtain⟨hb1,hb2⟩:=hb;refine QU.intro (G:=λF=>True) func127 rfl tH rfl rfl hF tL<|wa<|Qp rfl (vs:=[_,_]) rfl λb2=>Qp rfl (vs:=[_,_]) rfl λb3=>Qc Xa λb4=>wY<|QG<|JG (.cons _ tP) mixed tE<|QK (QH rfl V6 JF)<|QK (Qe rfl JF .u1 .h1)<|QK (QH rfl V6 JF)<|QK (Qe rfl JF .here .h1)<|QR rfl (λ_ _ f k=>xW f O O) λ_=>QK (QH rfl We JF)<|QK (Qe rfl JF .u1 (.skip .h1))<|QK (QH rfl We JF)<|QK (Qe rfl JF .here (.skip .h1))<|QR rfl (λ_ _ f k=>xW f O O) λ_=>QK (Q4 rfl Zb Xa (wV rfl rfl rfl))<|JV (vs:=[_,_]) rfl rfl rfl Jd rfl .here tP (λ_ h=>h.1.1) .h2 wm<|Q7<|QC<|QX ?_
 exact QP (()) I (.JX (c:=[_,_]) I Jd .here .nil) (rfl) tL
def QBe(a b:Rat×Rat):Rat×Rat:=(Dv (Dv (a.1*b.1) (a.1*b.2)) (Dv (a.2*b.1) (a.2*b.2)),Gx (Gx (a.1*b.1) (a.1*b.2)) (Gx (a.2*b.1) (a.2*b.2)))
theorem ur{a b:Rat×Rat}(hF:Fits F w)(ha:Ux 45000 a)(hb:Ux 45000 b):Qf prog 121 [kh a,kh b] w F (kh (QBe a b)):=by
 obtain⟨ha1,ha2⟩:=ha;obtain⟨hb1,hb2⟩:=hb;refine QU.intro (G:=λF=>True) func121 rfl tH rfl rfl hF tL<|wa<|Qp rfl (vs:=[_,_]) rfl λb2=>Qp rfl (vs:=[_,_]) rfl λb3=>Qc Xa λb4=>wY<|QG ?_
 have m1:=YN a.1 b.1;have m2:=YN a.1 b.2;have m3:=YN a.2 b.1;have m4:=YN a.2 b.2;refine JG we mixed tE<|QK (QH I V6 JF)<|QK (Qe I JF .u2 .h1)<|QK (QH I V6 JF)<|QK (Qe I JF .u1 .h1)<|QR I (λ_ _ f k=>C3 f O O) λ_=>QK (QH I V6 JF)<|QK (Qe I JF .u2 .h1)<|QK (QH I We JF)<|QK (Qe I JF .u1 (.skip .h1))<|QR I (λ_ _ f k=>C3 f O O) λ_=>QK (QH I We JF)<|QK (Qe I JF .u2 (.skip .h1))<|QK (QH I V6 JF)<|QK (Qe I JF .u1 .h1)<|QR I (λ_ _ f k=>C3 f O O) λ_=>QK (QH I We JF)<|QK (Qe I JF .u2 (.skip .h1))<|QK (QH I We JF)<|QK (Qe I JF .u1 (.skip .h1))<|QR I (λ_ _ f k=>C3 f O O) λ_=>QK (QF I)<|QK (QF I)<|QK (QF I)<|QK (QF I) ?_
 refine Q7<|wE 5 I<|QI I (λ_ _ f k=>gS f O O) λ_=>wB 2 I<|QI I (λ_ _ f k=>gS f O O) λ_=>QI I (λ_ _ f h=>gS f (D2 (k:=100000) O O) (D2 (k:=100000) O O)) λ_=>wB 2 I<|QI I (λ_ _ f k=>C4 f O O) λ_=>wB 2 I<|QI I (λ_ _ f k=>C4 f O O) λ_=>QI I (λ_ _ f h=>C4 f (DC (k:=100000) O O) (DC (k:=100000) O O)) λ_=>QA (Q4 I Zb Xa (wV I I I))<|QW (vs:=[_,_]) I I I Jd I .here .h2 wm<|wY<|QX ?_
 exact QP (()) I (.JX (c:=[_,_]) I Jd .here .nil) (rfl) tL
def LP(p:Rat×Rat):List Value:=[tx (JP p.1),tx (JP p.2)]
def uh(p:Rat×Rat):(LP p).length=2:=rfl
theorem Xak{lo hi:List UInt8}(hF:Fits F w)(hl:lo.length<=1000000/\hi.length<=1000000):Qf prog 122 [.agg #[tx lo,tx hi]] w F (.int .i64 (Qs [MN lo,MN hi])):=by
 refine QU.intro (G:=λF=>True) func122 rfl tH rfl rfl hF tL<|wa<|Qp rfl (vs:=[_,_]) rfl λb1=>wZ rfl<|wa<|QA (QH rfl V6 JF)<|QA (Qe rfl JF .here .h1)<|QA (QH rfl We JF)<|QA (Qe rfl JF .here (.skip .h1))<|Qb rfl (Q5 YG) JF Im rfl rfl λb7=>QI rfl (λw F hF ⟨hT,hs7⟩=>uv hF (n:=2) (l:=[lo,hi]) (Qy.of (n:=2) (sz:=1) hs7 rfl) (⟨rfl,λs hs=>by simp at hs;rcases hs with rfl | rfl;exact hl.1;exact hl.2⟩) O) λ_=>wD 4 I ?_
 exact wg I I (rfl) tL
section
variable[Dr][df:Df]{P:Program}{N:Nat}{m:Sl}{w0:World}{F0:Gs}{bs:List (Nat×Obj)}{G:Gs->Prop}
theorem Qy.cM{q:Option Addr}{sz:Nat}(h:Qy F q n sz cs)(e:q=none):n=0:=by
 rcases aA n with g | g
 ·exact g
 obtain⟨_,_,_,_,e2,_⟩:=h.2 g;rw[e]at e2;cases e2
end
section
open Go.RowKit Go.ChangeShapes Go.WideShapes Ig
section
variable{H:Type}{enc:TypeId×Value->H}{w:World}
theorem QDu(n:Nat)(cs:List Value)(x:DataW H×List MemPlace)(h:bN enc prog w 0 (λ_=>true) true n 3 cs=some x):∃y:Int,cs=[Jo y]/\True:=by
 obtain⟨z,rfl,_⟩:=DataW.trod_int QGy h;exact⟨z,rfl,trivial⟩
theorem QDz(l:List Int):(l.flatMap λy=>[Jo y])=l.map Jo:=by
 induction l with
 |nil=>rfl
 |cons a l ih=>rw[ee,ih];rfl
theorem QGf(l:List (List UInt8)):(l.flatMap λy=>[tx y])=l.map tx:=by
 induction l with
 |nil=>rfl
 |cons a l ih=>rw[ee,ih];rfl
end
end
section
open Go.RowKit Go.ChangeShapes Go.WideShapes Ig
def QGw(t:V0):Prop:=t.f.length<=9223372036854775807/\t.k.length<=9223372036854775807
section
variable{H:Type}{enc:TypeId×Value->H}{w:World}
theorem QGD{t:TypeId}{v:Value}{x:DataW H×List MemPlace}(ht:prog.underlying t=some .string)(h:bN enc prog w 0 (λ_=>true) true n t [v]=some x):∃l,v=tx l/\l.length<=9223372036854775807:=by
 obtain⟨s,e,_,hs⟩:=DataW.trod_string ht h;obtain⟨rfl⟩:=List.cons.inj e;exact⟨s.data.toList,by simp[tx],by unfold maxLen at hs;simpa using hs⟩
set_option maxRecDepth 100000 in
theorem ua(n:Nat)(cs:List Value)(x:DataW H×List MemPlace)(h:bN enc prog w 0 (λ_=>true) true n 108 cs=some x):∃y:V0,cs=VM y/\J8 (Vx w) y.r y.k/\QGw y:=by
 obtain⟨yz0,y1,m,_,hl,h0,h1⟩:=trod_struct2 underlying108 h;have c2:prog.cellsOf 108=2:=tE;have c1:prog.cellsOf 22=1:=tE;have c3:prog.cellsOf 106=1:=tE;rw[c2]at hl
 match cs,hl with
 |[a,b],_ =>
  dsimp only at h0 h1;rw[c1]at h0;rw[c3]at h1;obtain⟨f,rfl,hf⟩:=QGD jD (v:=a) h0;obtain⟨q,n,cap,l,e,hR,hn,hb,_,hc⟩:=Pe (cs:=[b]) (f:=λy=>[Jo y]) (Q:=λ_=>True) underlying106 (show prog.cellsOf 3=1 by kernel_rfl) tF (λ_=>rfl) QDu h1;obtain⟨rfl⟩:=(List.cons.injEq _ _ _ _ ▸ e:_/\_).1;rw[QDz]at hR;exact⟨⟨f,⟨q,n,cap⟩,l⟩,rfl,⟨hR,hn,hc⟩,hf,by rw[hn];exact hb⟩
end
end
structure QH9(a b:List Int) where
 i:Nat
 le:i<=a.length
 h:Ya a b=Ya (a.drop i) (b.drop i)
def QH9.step(s:QH9 a b)(h1:s.i<a.length)(h2:s.i<b.length):Ya a b=(decide (Qm b s.i<Qm a s.i)||(decide (Qm a s.i=Qm b s.i)&&Ya (a.drop (s.i+1)) (b.drop (s.i+1)))):=by
 rw[s.h,Xr h1,Xr h2];rfl
theorem Ss{r:Sr}(hF:Fits F w)(hR:J8 F r l)(hp:PW l):Qf prog 142 [r.v] w F (.int .i64 l.sum):=by
 obtain⟨q,n,c⟩:=r;have hln:=hR.2.1;dsimp only[Sr.v]at hln ⊢;have hl1:=hp.2;refine QU.intro (G:=λF=>J8 F ⟨q,n,c⟩ l) func142 rfl tH rfl rfl hF (λF' hF'=>hR.le hF')<|wa<|wZ rfl<|wa<|wZ rfl<|QG<|wa<|wZ rfl<|QV<|J9 (ι:={i:Nat // i<=l.length}) [(0,_)] (λi=>[(3,.int .i64 ((l.take i.1).sum)),(4,.int .i64 ((i.1:Nat):Int))]) (λi=>l.length-i.1) (⟨0,aE _⟩) wk wm λi=>?_
 simp only[ae,af];have hi:=i.2;have hs:=hp.sum i.1 hi;refine wA 5 I<|QA (Qg I Q2)<|wD 3 I ?_
 refine QQ I (λhc=>?_) λhc=>?_
 ·have hlt:i.1<l.length:=tD<|wi hc
  have he:=hp.el hlt;refine wC 8 I<|QA (Q3 (n:=n) (i.1) (λF hR=>(hR).1) rfl rfl Q2 JK O)<|QA (JA (n:=n) ((i.1)*1) (λF hR=>(hR).1) O rfl JK (Jz (o:=l) O))<|QA (Qu I I O)<|wB 2 I<|Qj<|wE 3 I<|QA (Qu I I O)<|wB 2 I ?_
  exact Ql (⟨i.1+1,hlt⟩) (by show l.length-(i.1+1)<l.length-i.1;omega) ⟨rfl,(congrArg (λz:Int=>some (ab .i64 z)) (Sh hlt).symm),rfl,trivial⟩ we tM
 have hge:i.1=l.length:=tD<|wj hc
 refine Qx ?_
 repeat first|refine QY ?_|refine QO tH ?_
 refine QZ<|wE 8 I ?_
 exact wg I I (congrArg (ab .i64) (by rw[ak O])) tL
theorem vO{q q2:Option Addr}{c n2 c2:Nat}(hF:Fits F w)(hA:J8 F ⟨q,n,c⟩ a)(hB:J8 F ⟨q2,n2,c2⟩ b)(pa:PW a)(pb:PW b)(hl:a.length=b.length):Qf prog 141 [.slice q n c,.slice q2 n2 c2] w F (.bool (before a b)):=by
 have na:=hA.2.1;have nb:=hB.2.1;dsimp only at na nb;have la:=pa.2;refine QU.intro (G:=λF=>J8 F ⟨q,n,c⟩ a/\J8 F ⟨q2,n2,c2⟩ b) func141 rfl tH rfl rfl hF (λF' hF'=>⟨hA.le hF',hB.le hF'⟩)<|wa<|wZ rfl<|QG<|wb rfl<|QI rfl (λ_ _ f k=>Ss f (r:=⟨q,n,c⟩) k.1 (pa)) λ_=>wW rfl<|QI rfl (λ_ _ f k=>Ss f (r:=⟨q2,n2,c2⟩) k.1.2 (pb)) λ_=>QA (QT rfl rfl rfl)<|QE<|QC ?_
 refine QQ I (λhc=>?_) λhc=>?_
 ·have hne:=bne_iff_ne.1 hc;refine wb I<|QI I (λ_ _ f k=>Ss f (r:=⟨q,n,c⟩) k.1.1.1 (pa)) λ_=>wW I<|QI I (λ_ _ f k=>Ss f (r:=⟨q2,n2,c2⟩) k.1.1.1.2 (pb)) λ_=>wD 5 I ?_
  exact wg I I (congrArg ag (by unfold before;rw[decide_eq_false hne,Bool.false_and,Bool.or_false])) tL
 have hne:=bne_eq_false_iff_eq.1 hc;refine wC 9 I<|J9 (ι:=QH9 a b) [(0,_),(1,_)] (λi=>[(5,.int .i64 ((i.i:Nat):Int))]) (λi=>a.length-i.i) (⟨0,aE _,rfl⟩) wm wk λi=>?_
 simp only[ae,af];have hi:=i.le;refine wA 5 I<|QA (Qg I Q2)<|wD 3 I ?_
 refine QQ I (λhc=>?_) λhc=>?_
 ·have hlt:i.i<a.length:=tD<|wi hc
  refine wC 5 I<|JG we mixed tE<|QK (QD I)<|QK (QD I)<|QK (Q3 (n:=n) i.i (λF h9=>(h9.1.1.1).1) rfl rfl Q2 JK O)<|QK (JA (n:=n) ((i.i)*1) (λF h9=>(h9.1.1.1).1) O rfl JK (Jz (o:=a) O))<|QK (QD I)<|QK (QD I)<|QK (Q3 (n:=n2) i.i (λF h9=>(h9.1.1.2).1) rfl rfl Q2 JK O)<|QK (JA (n:=n2) ((i.i)*1) (λF h9=>(h9.1.1.2).1) O rfl JK (Jz (o:=b) O))<|QK (QT I I I)<|Q7<|QC ?_
  refine QQ I (λhc=>?_) λhc=>?_
  ·have he:=bne_iff_ne.1 hc;refine QG<|JG we mixed tE<|QK (QD I)<|QK (QD I)<|QK (Q3 (n:=n) i.i (λF h9=>(h9.1.1.1).1) rfl rfl Q2 JK O)<|QK (JA (n:=n) ((i.i)*1) (λF h9=>(h9.1.1.1).1) O rfl JK (Jz (o:=a) O))<|QK (QD I)<|QK (QD I)<|QK (Q3 (n:=n2) i.i (λF h9=>(h9.1.1.2).1) rfl rfl Q2 JK O)<|QK (JA (n:=n2) ((i.i)*1) (λF h9=>(h9.1.1.2).1) O rfl JK (Jz (o:=b) O))<|QK (QT I I I)<|QK (QF I)<|Q7<|QC<|QX ?_
   repeat first|refine Q6 ?_|refine Qv ?_
   exact wg I I (congrArg ag (by unfold before;rw[i.step hlt O,decide_eq_false he,hne];simp)) tL
  have he:=bne_eq_false_iff_eq.1 hc;refine QN<|Qj<|wE 3 I<|QA (Qu I I O)<|wB 2 I ?_
  exact Ql (⟨i.i+1,hlt,by rw[i.step hlt O,he];simp⟩) (by show a.length-(i.i+1)<a.length-i.i;omega) wu we tM
 have hge:i.i=a.length:=tD<|wj hc
 refine Qx ?_
 repeat first|refine QY ?_|refine QO tH ?_
 refine QZ<|wE 7 I ?_
 exact wg I I (congrArg ag (by unfold before;rw[i.h,hge,bp (aq _),hne];simp[Ya])) tL
def QAu{f:List UInt8}{v:Int}(h1:(l.length:Int)=v+1)(h2:∀k∈l,0<=k):Y8 f l v=if decide (GI l>12)=true then 4 else Jp f:=by
 unfold Y8;rw[if_neg (λh=>h h1),if_neg (uB h2)];simp only[Qs];by_cases g:decide (GI l>12)=true
 ·rw[if_pos g,if_pos g,if_neg tF]
 rw[if_neg g,if_neg g,if_pos rfl];by_cases k:Jp f=0
 ·rw[k];rfl
 rw[if_neg k]
theorem kj{f:List UInt8}{q:Option Addr}{v:Int}(hF:Fits F w)(hGl:JE F)(hR:J8 F ⟨q,n,cap⟩ l)(hf:f.length<=9223372036854775807)(hl:l.length<=9223372036854775807)(hv : -1000000<=v/\v<=1000000):Qf prog 140 [.agg #[tx f,.slice q n cap],.int .i64 v] w F (.int .i64 (Y8 f l v)):=by
 have hln:l.length=n:=hR.2.1;refine QU.intro (G:=λF=>JE F/\J8 F ⟨q,n,cap⟩ l) func140 rfl tH rfl rfl hF (λF' hF'=>⟨hGl.le hF',hR.le hF'⟩)<|wa<|Qp rfl (vs:=[_,_]) rfl λb2=>wZ rfl<|QG<|wa<|QA (QH rfl Yh JM)<|QA (Qe rfl JM .here (.skip .h1))<|QA (Qg rfl Q2)<|wW rfl<|QA (Qu rfl rfl O)<|QA (QT rfl rfl rfl)<|QE<|QC ?_
 refine QQ I (λhc=>?_) λhc=>?_
 ·have hne:=bne_iff_ne.1 hc;refine wA 6 I ?_;exact wg I I (congrArg (ab .i64) (by unfold Y8;rw[if_pos (by rw[hln];exact hne)])) tL
 have heq:=bne_eq_false_iff_eq.1 hc;refine wC 14 I<|J9 (ι:=QGs l) [(2,_)] (λi=>[(5,.int .i64 (GI (l.take i.i))),(6,.int .i64 ((i.i:Nat):Int))]) (λi=>l.length-i.i) (⟨0,aE _,tJ⟩) wk wm λi=>?_
 simp only[ae,af];have hi:=i.le;have hb:=MY _ i.nn;rw[av]at hb;refine wA 4 I<|QA (QH I Yh JM)<|QA (Qe I JM .here (.skip .h1))<|QA (Qg I Q2)<|wD 3 I ?_
 refine QQ I (λhc=>?_) λhc=>?_
 ·have hlt:i.i<l.length:=tD<|wi hc
  refine wC 7 I<|QA (QH I Yh JM)<|QA (Qe I JM .here (.skip .h1))<|wW I<|QA (Q3 (n:=n) i.i (λF h9=>(h9.2).1) rfl rfl Q2 JK O)<|QA (JA (n:=n) ((i.i)*1) (λF h9=>(h9.2).1) O rfl JK (Jz (o:=l) O))<|wD 3 I ?_
  refine QQ I (λhc=>?_) λhc=>?_
  ·have hng:=wi hc;refine wA 6 I ?_
   repeat first|refine Q6 ?_|refine Qv ?_
   exact wg I I (congrArg (ab .i64) (by unfold Y8;rw[if_neg (by rw[hln];exact λh=>h heq),if_pos (jd hlt hng)])) tL
  have hng:=wj hc;refine wC 4 I<|QA (QH I Yh JM)<|QA (Qe I JM .here (.skip .h1))<|wW I<|QA (Q3 (n:=n) i.i (λF h9=>(h9.2).1) rfl rfl Q2 JK O)<|QA (JA (n:=n) ((i.i)*1) (λF h9=>(h9.2).1) O rfl JK (Jz (o:=l) O))<|QA (vR I I)<|QA (Qu I I O)<|wB 2 I<|Qj<|wE 3 I<|QA (Qu I I O)<|wB 2 I ?_
  exact Ql (⟨i.i+1,hlt,by intro k hk;rw[XE hlt]at hk;rcases List.mem_append.1 hk with hk | hk;exact i.nn k hk;rw[List.mem_singleton.1 hk,<-YW hlt];omega⟩) (by show l.length-(i.i+1)<l.length-i.i;omega) ⟨rfl,(congrArg (λz:Int=>some (ab .i64 z)) (Ik hlt).symm),rfl,trivial⟩ we tM
 have hge:i.i=l.length:=tD<|wj hc
 refine Qx ?_
 repeat first|refine QY ?_|refine QO tH ?_
 refine QZ<|wE 4 I ?_
 rw[hge,aG];have hnn:=i.nn;rw[hge,aG]at hnn;have hte:=QAu (f:=f) (v:=v) (by rw[hln];exact heq) hnn;refine wD 4 I ?_;refine QQ I (λhc=>?_) λhc=>?_
 ·have hbg:=hc;refine wA 6 I ?_;exact wg I I (congrArg (ab .i64) (by rw[hte,if_pos hbg])) tL
 have hbg:=hc;refine wC 4 I<|QA (QH I GM JF)<|QA (Qe I JF .here .h1)<|QI I (λ_ _ f k=>vN f (hf)) λ_=>wD 4 I ?_
 exact wg I I (congrArg (ab .i64) (by rw[hte,hbg];rfl)) tL
section
variable{ps:List V0}{v:Int}{i:Nat}
def QIw(h:i<ps.length)(he:Y8 (el ps i).f (el ps i).k v≠0):GH (ZX ps) v i=Y8 (el ps i).f (el ps i).k v:=by
 have e:Qs [Y8 (el ps i).f (el ps i).k v,if((el ps i).f==[48])=true then 6 else 0]=Y8 (el ps i).f (el ps i).k v:=by
  unfold Qs;rw[if_neg he]
 rw[step_eq h e,if_neg (λg=>he g.1)]
def QIv(h:i<ps.length)(he:Y8 (el ps i).f (el ps i).k v=0)(hz:((el ps i).f==[48])=true):GH (ZX ps) v i=6:=by
 have e:Qs [Y8 (el ps i).f (el ps i).k v,if((el ps i).f==[48])=true then 6 else 0]=6:=by
  rw[he,if_pos hz];rfl
 rw[step_eq h e,if_neg (λg=>tD g.1)]
def QEd(h:i<ps.length)(he:Y8 (el ps i).f (el ps i).k v=0)(hz:((el ps i).f==[48])=false):GH (ZX ps) v i=if 0<i/\before (el ps (i-1)).k (el ps i).k=false then 11 else 0:=by
 have e:Qs [Y8 (el ps i).f (el ps i).k v,if((el ps i).f==[48])=true then 6 else 0]=0:=by
  rw[he,hz];rfl
 rw[step_eq h e];have hb:(0<=Gj (el ps (i-1)).k (el ps i).k)↔before (el ps (i-1)).k (el ps i).k=false:=by
  rw[Bt,decide_eq_false_iff_not];omega
 by_cases g:0<i/\before (el ps (i-1)).k (el ps i).k=false
 ·rw[if_pos g,if_pos ⟨rfl,g.1,hb.2 g.2⟩]
 rw[if_neg g,if_neg (λh=>g ⟨h.2.1,hb.1 h.2.2⟩)]
end
theorem Iw{q:Option Addr}{ps:List V0}{v:Int}(hF:Fits F w)(hGl:JE F)(hR:Qy F q n 2 (ps.flatMap VM))(hP:Yy F ps)(hln:ps.length=n)(hf:∀t∈ps,t.f.length<=9223372036854775807/\t.k.length<=9223372036854775807)(hl:ps.length<=9223372036854775807)(hv:0<=v/\v<=24):Qf prog 49 [.slice q n cap,.int .i64 v] w F (.int .i64 (Zh (ZX ps) v)):=by
 have hal:(ZX ps).length=n:=by unfold ZX;rw[List.length_map];exact hln
 refine QU.intro (G:=λF=>JE F/\Qy F q n 2 (ps.flatMap VM)/\Yy F ps) func49 rfl tH rfl rfl hF (λF' hF'=>⟨hGl.le hF',hR.le hF',hP.le hF'⟩)<|wa<|wZ rfl<|QG<|wb rfl<|QA (Qg rfl Zg)<|QA (QT rfl rfl rfl)<|QE<|QC ?_
 refine QQ I (λhc=>?_) λhc=>?_
 ·have hbig:=hc;refine wA 6 I ?_;exact wg I I (congrArg (ab .i64) (by unfold Zh;rw[hal,if_pos hbig])) tL
 have hbig:=wj hc;refine wC 9 I<|J9 (ι:=jQ (ZX ps) v n) [(0,_),(1,_)] (λi=>[(5,.int .i64 ((i.i:Nat):Int))]) (λi=>n-i.i) (⟨0,aE _,λj hj=>absurd hj (Nat.not_lt_zero _)⟩) wm wk λi=>?_
 simp only[ae,af];have hi:=i.le;refine wA 5 I<|QA (Qg I Zg)<|wD 3 I ?_
 refine QQ I (λhc=>?_) λhc=>?_
 ·have hlt:i.i<n:=tD<|wi hc
  have htm:el ps i.i∈ps:=Qw O;refine wC 8 I<|QA (Q3 (n:=n) i.i (λF h9=>h9.2.1) rfl rfl Zg Xh O)<|QA (JZ (n:=n) (vs:=[tx (el ps i.i).f,.slice (el ps i.i).r.q (el ps i.i).r.n (el ps i.i).r.cap]) ((i.i)*2) (λF h9=>h9.2.1) O rfl Xh I λj v hv=>JN (f:=VM) (l:=ps) YR O hv)<|wW I<|QI I (λ_ _ g h=>kj g (h.1) (f:=(el ps i.i).f) (l:=(el ps i.i).k) (h.2.2 _ htm) ((hf _ htm).1) ((hf _ htm).2) O) λ_=>wD 10 I ?_
  refine QQ I (λhc=>?_) λhc=>?_
  ·have h23:=bne_iff_ne.1 hc;refine wA 7 I ?_
   repeat first|refine Q6 ?_|refine Qv ?_
   exact wg I I (congrArg (ab .i64) (DQ hal hbig i hlt (QIw O h23) h23)) tL
  have h23:=bne_eq_false_iff_eq.1 hc;refine wC 7 I<|QA (Q3 (n:=n) i.i (λF h9=>h9.1.2.1) rfl rfl Zg Xh O)<|QA (QH I GM JF)<|QA (JA (n:=n) ((i.i)*2+0) (λF h9=>h9.1.2.1) O rfl JF (JN (f:=VM) (l:=ps) YR O rfl))<|QI I (λ_ _ f k=>QCm f ) λ_=>QE<|QC ?_
  refine QQ I (λhc=>?_) λhc=>?_
  ·have h30:=hc;refine wA 6 I ?_
   repeat first|refine Q6 ?_|refine Qv ?_
   exact wg I I (congrArg (ab .i64) (DQ hal hbig i hlt (QIv O h23 h30) tF)) tL
  have h30:=hc;refine wC 3 I<|JG we mixed tE<|QK (QD I)<|QK (QT I I I)<|QK (QD I) ?_
  refine Gg (t:=33) rfl (λhb33=>?_) λhb33=>?_
  ·have hi0:0<i.i:=tD<|wi hb33
   have hz0:=(Pc (i.z (i.i-1) O)).1;rw[F9 (show i.i-1<ps.length by omega)]at hz0;have htm0:el ps (i.i-1)∈ps:=Qw O;refine XA I I<|QK (QD I)<|XA I I<|QK (QD I)<|XA I I<|QK (X3 I I O)<|XA I I<|QK (Q3 (n:=n) ((i.i-1)) (λF h9=>h9.1.1.2.1) rfl wS Zg Xh O)<|XA I I<|QK (QH I Yh JM)<|XA I I<|QK (JA (n:=n) (((i.i-1))*2+1) (λF h9=>h9.1.1.2.1) O rfl JM (JN (f:=VM) (l:=ps) YR O rfl))<|XA I I<|QK (QD I)<|XA I I<|QK (QD I)<|XA I I<|QK (Q3 (n:=n) i.i (λF h9=>h9.1.1.2.1) rfl rfl Zg Xh O)<|XA I I<|QK (QH I Yh JM)<|XA I I<|QK (JA (n:=n) ((i.i)*2+1) (λF h9=>h9.1.1.2.1) O rfl JM (JN (f:=VM) (l:=ps) YR O rfl))<|XA I I<|QR I (λ_ _ f h=>vO f (a:=(el ps (i.i-1)).k) (b:=(el ps i.i).k) (h.1.1.2.2 _ htm0) (h.1.1.2.2 _ htm) (GB hz0 hv.2) (GB h23 hv.2) (by have h1:=(Wv hz0).1;have h2:=(Wv h23).1;dsimp only at h1;omega)) λ_=>XA I I ?_
   refine QK (XL I)<|QK (Qh I I I)<|Q7<|QC ?_
   refine QQ I (λhc=>?_) λhc=>?_
   ·refine wA 6 I ?_
    repeat first|refine Q6 ?_|refine Qv ?_
    exact wg I I (congrArg (ab .i64) (DQ hal hbig i hlt (by rw[QEd O h23 h30,if_pos ⟨hi0,by simpa using hc⟩]) tF)) tL
   refine QN<|Qj<|wE 3 I<|QA (Qu I I O)<|wB 2 I ?_
   exact Ql (⟨i.i+1,hlt,λj hj=>by
    rcases aN j i.i with g | g
    ·exact i.z j g
    rw[show j=i.i from by omega];first | (rw[QEd O h23 h30,if_neg (λh=>tD<|wj hb33)]) | (rw[QEd O h23 h30,if_neg (λh=>by rw[h.2]at hc;cases hc)])⟩) (by show n-(i.i+1)<n-i.i;omega) wu we λF h=>h.1.1.1
  refine Jj I I I<|Jj I I I<|Jj I I I<|Jj I I I<|Jj I I I<|Jj I I I<|Jj I I I<|Jj I I I<|Jj I I I<|Jj I I I<|Jj I I I<|Jj I I I<|Jj I I I<|QK (Qd I I I)<|Q7<|QC<|Yj I<|QN<|Qj<|wE 3 I<|QA (Qu I I O)<|wB 2 I ?_
  exact Ql (⟨i.i+1,hlt,λj hj=>by
    rcases aN j i.i with g | g
    ·exact i.z j g
    rw[show j=i.i from by omega];first | (rw[QEd O h23 h30,if_neg (λh=>tD<|wj hb33)]) | (rw[QEd O h23 h30,if_neg (λh=>by rw[h.2]at hc;cases hc)])⟩) (by show n-(i.i+1)<n-i.i;omega) wu we λF h=>h.1.1
 have hge:n<=i.i:=tD<|wj hc
 refine Qx ?_
 repeat first|refine QY ?_|refine QO tH ?_
 refine QZ<|wE 7 I ?_
 exact wg I I (congrArg (ab .i64) (OZ hal hbig i hge)) tL
def QDF(a:List V0):(ZX a).length=a.length:=by simp[ZX]
section
variable{α:Type}[Inhabited α]{l:List α}{p:α->Bool}
def Me.hit(s:Me l p)(h:s.i<l.length)(e:p (el l s.i)=true):l.any p=true:=List.any_eq_true.2 ⟨_,Qw h,e⟩
end
def uA(ps:List V0)(q:List UInt8×List Int->Bool):(ZX ps).any q=ps.any λt=>q (t.f,t.k):=by unfold ZX;rw[List.any_map];rfl
def fpB(p:Pt)(v a b c:Int):Bool:=if(p.length:Int)>a\/Zh p v≠0 then false else !(p.any λx=>decide (x.2.sum>b)||!(Uz x.1 c))
theorem uw{q:Option Addr}{ps:List V0}{v a b:Int}(hF:Fits F w)(hGl:JE F)(hR:Qy F q n 2 (ps.flatMap VM))(hP:Yy F ps)(hln:ps.length=n)(hf:∀t∈ps,t.f.length<=9223372036854775807/\t.k.length<=9223372036854775807)(hl:ps.length<=9223372036854775807)(hv:0<=v/\v<=24)(hcd:0<=c/\c<=1000000):Qf prog 50 [.slice q n cap,.int .i64 v,.int .i64 a,.int .i64 b,.int .i64 c] w F (.bool (fpB (ZX ps) v a b c)):=by
 have hal:(ZX ps).length=n:=by rw[QDF];exact hln
 refine QU.intro (G:=λF=>JE F/\Qy F q n 2 (ps.flatMap VM)/\Yy F ps) func50 rfl tH rfl rfl hF (λF' hF'=>⟨hGl.le hF',hR.le hF',hP.le hF'⟩)<|wa<|wZ rfl<|QG<|wb rfl<|QA (Qg rfl Zg)<|wW rfl<|QA (QT rfl rfl rfl)<|wW rfl ?_
 refine Qn (t:=16) rfl (λhb16=>?_) λhb16=>?_
 ·have h16:=wi hb16;refine wD 7 I<|SG I<|wA 6 I ?_
  exact wg I I (congrArg ag (by unfold fpB;rw[hal,if_pos (Or.inl h16)])) tL
 have h16:=wj hb16;refine wB 5 I<|QI I (λ_ _ f k=>Iw f (k.1) (k.2.1) (k.2.2) (hln) (hf) (hl) (hv)) λ_=>wD 5 I ?_
 refine QQ I (λhc2=>?_) λhc2=>?_
 ·have h21:=bne_iff_ne.1 hc2;refine wA 6 I ?_;exact wg I I (congrArg ag (by unfold fpB;rw[if_pos (Or.inr h21)])) tL
 have h21:=bne_eq_false_iff_eq.1 hc2;have hok:=H4 h21;have hpw:∀t∈ps,PW t.k:=λt ht=>GB (hok.term (t.f,t.k) (List.mem_map.2 ⟨t,ht,rfl⟩)) hv.2;refine wC 9 I<|J9 (ι:=Me ps λt=>decide (t.k.sum>b)||!(Uz t.f c)) [(0,_),(3,_),(4,_)] (λi=>[(11,.int .i64 ((i.i:Nat):Int))]) (λi=>ps.length-i.i) (Me.start _ _) wu wk λi=>?_
 simp only[ae,af];have hi:=i.le;refine wA 5 I<|QA (Qg I Zg)<|wD 3 I ?_
 refine QQ I (λhc2=>?_) λhc2=>?_
 ·have hlt:i.i<ps.length:=tD<|wi hc2
  have htm:=Qw hlt;refine wC 8 I<|QA (Q3 (n:=n) i.i (λF h9=>h9.1.2.1) rfl rfl Zg Xh O)<|QA (QH I Yh JM)<|QA (JA (n:=n) ((i.i)*2+1) (λF h9=>h9.1.2.1) O rfl JM (JN (f:=VM) (l:=ps) YR O rfl))<|QI I (λ_ _ f k=>Ss f (r:=(el ps i.i).r) (k.1.2.2 _ htm) (hpw _ htm)) λ_=>wB 3 I ?_
  refine Qn (t:=36) rfl (λhb36=>?_) λhb36=>?_
  ·refine wD 11 I<|SG I<|wA 6 I ?_
   repeat first|refine Q6 ?_|refine Qv ?_
   exact wg I I (congrArg ag (by unfold fpB;rw[hal,if_neg (λh=>h.elim h16 λg=>g h21),uA,i.hit hlt (by rw[hb36];rfl)];rfl)) tL
  refine wB 5 I<|QA (Q3 (n:=n) i.i (λF h9=>h9.1.1.2.1) rfl rfl Zg Xh O)<|QL I I<|QA (QH I GM JF)<|QL I I<|QA (JA (n:=n) ((i.i)*2+0) (λF h9=>h9.1.1.2.1) O rfl JF (JN (f:=VM) (l:=ps) YR O rfl))<|wB 3 I<|QI I (λw F hF ⟨⟨⟨hGl,hR,hP⟩,_⟩,_⟩=>QHR hF (by have h8:Jp (el ps i.i).f=0:=(Wv (hok.term ((el ps i.i).f,(el ps i.i).k) (List.mem_map.2 ⟨el ps i.i,htm,rfl⟩))).2.2.2;have h9:=Ie (Qz (el ps i.i).f);rw[<-(XM h8).1]at h9;have h10:=KO h8;omega) (hcd)) λ_=>QL I I<|QA (XL I)<|wD 3 I ?_
  refine QQ I (λhc2=>?_) λhc2=>?_
  ·refine wA 6 I ?_
   repeat first|refine Q6 ?_|refine Qv ?_
   exact wg I I (congrArg ag (by unfold fpB;rw[hal,if_neg (λh=>h.elim h16 λg=>g h21),uA,i.hit hlt (by rw[hc2];simp)];rfl)) tL
  refine QN<|Qj<|wE 3 I<|QA (Qu I I O)<|wB 2 I ?_
  exact Ql (i.next hlt (by rw[hb36,Bool.false_or];exact hc2)) (by show ps.length-(i.i+1)<ps.length-i.i;omega) wv we λF h=>h.1.1
 have hge:ps.length<=i.i:=tD<|wj hc2
 refine Qx ?_
 repeat first|refine QY ?_|refine QO tH ?_
 refine QZ<|wE 7 I ?_
 exact wg I I (congrArg ag (by unfold fpB;rw[hal,if_neg (λh=>h.elim h16 λg=>g h21),uA];simp only[i.stop hge];rfl)) tL
def Xa0(w:List UInt8×List UInt8):Int:=Qs [MN w.1,MN w.2]
def QAM(z:Int):vB (Ze z)=au z.natAbs:=by
 have h:=Oc ((z:Int):Rat);rw[QC9,show((z:Int):Rat).num=z from by simp]at h;unfold vB;rw[h];unfold Dm;by_cases h0:z<0
 ·rw[if_pos h0,if_pos tF,Yo h0];rfl
 rw[if_neg h0,XJ O,if_neg (by split<;>decide)]
def QDj(x:Rat):MN (JP x)=if Jh x=true then 4 else 0:=by
 have hn:decide (600<(vB (numOf (JP x))).length)=Dp x.num:=by
  have e:numOf (JP x)=Ze x.num:=by
   unfold numOf;by_cases h:x.den=1
   ·obtain⟨h1,h2⟩:=LL h;rw[h2,aG,h1]
   exact(EB h).2.2.1
  rw[e,QAM];unfold Dp;exact decide_eq_decide.2 (UL _)
 have hd:decide (600<(CS (JP x)).length)=Dp x.den:=by
  unfold CS Dp;by_cases h:x.den=1
  ·rw[if_pos ((LM x).2 h),h];have h1:¬lim<=(((1:Nat):Int)).natAbs:=by
    exact Nat.not_le.2 (Nat.lt_of_le_of_lt Nat.one_le_two_pow CC)
   rw[decide_eq_false h1];simp
  rw[if_neg λe=>h ((LM x).1 e),(EB h).2.2.2];exact decide_eq_decide.2 (UL _)
 unfold MN Jh;rw[hn,hd]
theorem O9(x y:Rat):Dv x y=if x<=y then x else y:=by
 unfold Dv;by_cases h:x<=y
 ·rw[if_pos h,if_pos ((N8 x y).2 h)]
 rw[if_neg h,if_neg λk=>h ((N8 x y).1 k)]
theorem CA(x y:Rat):Gx x y=if y<=x then x else y:=by
 unfold Gx;by_cases h:y<=x
 ·rw[if_pos h,if_pos ((Uj x y).2 h)]
 rw[if_neg h,if_neg λk=>h ((Uj x y).1 k)]
theorem uY(s:Rat×Rat)(x:Rat):ZC s x=(Dv s.1 x,Gx s.2 x):=by
 unfold ZC;rw[O9,CA];congr 1
 ·by_cases h:s.1<=x
  ·rw[if_pos h,if_neg λk=>absurd ((V9 _ _).1 k) (Rat.not_lt.2 h)]
  rw[if_neg h,if_pos ((V9 _ _).2 (Rat.not_le.1 h))]
 by_cases h:x<=s.2
 ·rw[if_pos h,if_neg λk=>absurd ((K3 _ _).1 k) (Rat.not_lt.2 h)]
 rw[if_neg h,if_pos ((K3 _ _).2 (Rat.not_le.1 h))]
theorem QBh(x y z:Rat):Dv (Dv x y) z=Dv x (Dv y z):=by
 simp only[O9];grind
theorem QBi(x y z:Rat):Gx (Gx x y) z=Gx x (Gx y z):=by
 simp only[CA];grind
def jw(a b:Rat×Rat):Jg a b=QBe a b:=by
 unfold Jg QBe Yi;simp only[List.foldl_cons,List.foldl_nil,uY];rw[QBh (Dv _ _),QBi (Gx _ _)]
theorem Xey:Z5 prog 60=some (true,6):=tE
theorem Xdb:Yv prog 60 0=some (0,22):=tE
theorem Xda:Yv prog 60 1=some (1,22):=tE
theorem Xdn:Yv prog 60 2=some (2,36):=tE
theorem Xdm:Yv prog 60 3=some (3,36):=tE
theorem Xd9:Yv prog 60 4=some (4,3):=tE
end Go.Proofs.YtjcphjpkimmmjaaGreatDoor
