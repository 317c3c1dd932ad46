/- Steps of the proof of the theorem in the last file. -/
import Derived.Test.YtjcphjpkimmmjaaGreatDoorQ0
import Derived.IntWalk
import Derived.Test.YtjcphjpkimmmjaaGreatDoorProg
import Derived.KernelRfl
import Derived.Lib.ItoaNum
import Derived.Lib.Atoi
import Derived.Lib.Repeat
import Derived.Lib.IndexMore
import Derived.Laws.IdiomArrays
set_option linter.all false
set_option maxHeartbeats 4000000
open Go.Proofs.Tryz
open Go.Lib renaming trimPrefix → aa,hasPrefix → ao,decDigits → au,decDigits_length → aY
open List renaming cons_append → ab,nil_append → af,take_of_length_le → ai,eq_nil_of_length_eq_zero → ak,length_set → ar,length_take → av,length_append → aA,length_cons → aD,getElem?_toArray → aF,drop_drop → aG,take_length → aH,take_set_of_le → aI,length_singleton → aK,length_drop → aL,drop_eq_getElem_cons → aP,take_succ_eq_append_getElem → aQ,drop_set_of_lt → aU,replicate → aX,getElem?_eq_getElem → aZ,drop_zero → bm,drop_of_length_le → bp,drop_eq_nil_of_le → bw,length_nil → bP,foldl_cons → bQ,take_append_drop → bR,drop_set → bY,flatMap_cons → ep,length → ew,isPrefixOf → eB,takeWhile_cons_of_pos → eG,getElem?_append_right → eH,getElem?_append_left → eM,length_eq_zero_iff → eP,getElem?_eq_none → eT,takeWhile_cons → eZ,all_eq_true → fe,append_nil → fg,foldl_nil → fi,set_set → fl
open Go.Value renaming int → ae,bool → ag,slice → eU
open Int renaming mul_le_mul_of_nonneg_left → ah,mul_le_mul_of_nonneg_right → ax,mul_comm → aJ,pow_succ → aO,one_mul → aT,gcd → aV,natAbs_mul → aW,mul_ne_zero → bc,ediv_nonneg → bh,emod_add_mul_ediv → bA,ediv_le_self → bB,mul_sub → bD,mul_add → bF,lt_or_le → bG,sub_add_cancel → bH,mul_nonneg → bI,mul_le_mul → bJ,emod_lt_of_pos → bK,le_refl → bL,mul_assoc → bN,emod_nonneg → bS,ediv_lt_of_lt_mul → bU,sub_mul → bV,add_mul → bW,toNat_of_nonneg → bZ,toNat_natCast → er,mul_zero → eu,pow_add → eC,mul_one → eD,natAbs_tdiv → eF,mul_lt_mul_of_pos_right → eI,lt_of_mul_lt_mul_left → eN,eq_of_mul_eq_mul_left → eO,mul_ediv_cancel_left → eQ,gcd_dvd_left → fh,ofNat_tmod → fj,ofNat_tdiv → fk,add_assoc → fm,zero_mul → fw,zero_add → fy,lt_trans → fz,emod_def → fA,mul_neg → fI
open Rat renaming divInt → aj,neg_num → eY,neg_divInt_neg → fc,neg_den → fF
open Nat renaming le_refl → aq,eq_zero_or_pos → aB,mul_lt_mul_of_lt_of_lt → aC,zero_le → aE,lt_or_ge → aN,zero_add → aR,pow_le_pow_right → aS,gcd → ba,add_sub_cancel_left → bj,add_assoc → bM,le_trans → bO,pow_le_pow_left → bX,add_sub_cancel → ee,div_le_self → eE,mul_le_mul → eK,mod_lt → eL,add_zero → eR,zero_mul → fq,gcd_comm → fu,add_mul → fG
open Bool renaming eq_iff_iff → ay,or_eq_false_iff → eX,not_eq_false' → fb,and_eq_true → ff
open And renaming intro → aM
open Go.DataW renaming trod → bz
open List.Perm renaming refl → bC
open UInt8 renaming ofNat → bT
open List.cons renaming injEq → ei
open Go.IntWalk renaming i64_in → ey
open Or renaming inr → eV,inl → eW
open Go.Result renaming andThen_ok → fa
open Go.World renaming cell? → fp
open Go.Sem renaming run_pure → fB,run_bind → fC
open Go.Lib.decDigits renaming eq_1 → fD
open List.Sublist renaming refl → fH
namespace Go.Proofs.YtjcphjpkimmmjaaGreatDoor
variable{c f z zx:Int}{x:Rat}{y:Operand}{cap i k m n:Nat}{cs:List Value}{T yT:TypeId}{a b l o out u:List Int}{α:Type}{s:List UInt8}{w:World}{F:Gs}{ra rb:Sr}
open Go.RowKit
section
variable[Dr][df:Df]
section
variable{P:Program}{Q:Exit->Act->World->Prop}{N:Nat}{m:Sl}{E:Env}
theorem SG{c:Operand}{x y:Code}(hc:ev m c=some (.bool true))(h:J P x Q N m E):J P (.cond c x y) Q N m E:=QQ hc (λ_=>h) λh=>by cases h
variable{ops:Array Oper}{l:List Oper}{E0:Env}
variable{d:Nat}{o:Op}{ty:TypeId}{pos:String}{aft:Array Edge}{v:Value}
end
end
section
variable[Dr][df:Df]
section
variable{P:Program}{Q:Exit->Act->World->Prop}{N:Nat}{m:Sl}{E E0:Env}{ops:Array Oper}{l:List Oper}{w0:World}{F0:Gs}{bs:List (Nat×Obj)}{G:Gs->Prop}
section
variable{d:Nat}{ty:TypeId}{pos:String}{aft:Array Edge}
theorem Xnw{t e:TypeId}{sz:Nat}{z:List Value}{g:Bool}{parts:Array (Nat×Operand)}{ps:List (Nat×Value)}(hp:GC m parts.toList=some ps)(ht:P.underlying t=some (.slice e))(j:Z5 P e=some (g,sz))(hz:XI P e=some z)
  (hc:Kg sz 0 ps=some cs) (o:cs.length=n*sz) (k:∀b,JD P ops Q E0 l N ((d,.slice (some ⟨b,0,none⟩) n n)::m) ⟨w0,F0,(b,.cells cs.toArray e (0,0))::bs,G⟩) (c:Nat.ble (n*sz) 16777216=true:=by rfl) (hn:Nat.beq (n*sz) 0=false:=by rfl)
  (hu:Hi e=true:=by rfl) (hd:J5 N (some d)=true:=by rfl):JD P ops Q E0 (⟨some d,.buildSlice t n parts,ty,pos,aft,none⟩::l) N m ⟨w0,F0,bs,G⟩:=λs a w ha i=>by
 have f:=i.alloc (.cells cs.toArray e (0,0)) (ZN hu);have sub:∀w' b,St ⟨w0,F0,(b,.cells cs.toArray e (0,0))::bs,G⟩ w'->St E0 w':=λw' b h=>s w' (h.imp (List.sublist_cons_self _ _) λ_ h=>h);refine .inr ⟨rfl,?_⟩;rw[if_pos (by simp[Region.wanted])];exact upon_value (VA ha hp ht j hz hc o c hn) ⟨sub _ _ f,k _ (λw' h=>sub w' _ h) _ _ (ha.put hd _) f⟩
end
end
end
section
variable[Dr][df:Df]
section
variable{P:Program}{N:Nat}{m:Sl}{S:World->Prop}{ty:TypeId}{v:Value}
theorem SO{x:Operand}{a b:Int}(hx:ev m x=some (.int .i64 a))(hy:ev m y=some (.int .i64 b))(ha:0<=a)(c:a<=9223372036854775807)(hb:0<b):Qt P N m S (.binOp .quo T x y yT) ty (.int .i64 (a/b)):=by
 have:=vQ (P:=P) (N:=N) (m:=m) (S:=S) (ty:=ty) (T:=T) (yT:=yT) hx hy O;have e:a.tdiv b=a/b:=Int.tdiv_eq_ediv_of_nonneg ha;have h0:0<=a/b:=bh ha O;have h1:a/b<=a:=bB b ha;rw[e,ey _ ⟨O,O⟩]at this;exact this
theorem QDV{a b:TypeId}{x:Operand}{c:IntKind}{n:Int}(hx:ev m x=some (.int c n))(f:(P.underlying a).isSome=true)(hk:Nl P b=some .i64)(h : -9223372036854775808<=n/\n<=9223372036854775807):Qt P N m S (.convert a b x) ty (.int .i64 n):=by
 have:=Ib (P:=P) (N:=N) (m:=m) (S:=S) (ty:=ty) hx f hk;rw[CH h]at this;exact this
theorem QG3{T':TypeId}{x:Operand}{a b:Int}(hx:ev m x=some (.int .i64 a))(hy:ev m y=some (.int .i64 b)):Qt P N m S (.call ⟨.builtin .max,#[x,y],#[T,T']⟩) ty (.int .i64 (if b>a then b else a)):=λs w _ _ _ _ ha _=>by
 rw[YH];simp[builtin,ha.ev hx,ha.ev hy,Builtin.max_,Builtin.max2]
end
end
section
variable[Dr][df:Df]
section
variable{P:Program}{Q:Exit->Act->World->Prop}{N:Nat}{m:Sl}{E E0:Env}{ops:Array Oper}{l:List Oper}{w0:World}{F0:Gs}{bs:List (Nat×Obj)}{G:Gs->Prop}{ty:TypeId}{v:Value}{S:World->Prop}
theorem Ti(v:Value):∀n,Xg [v] n=aX n v
 |0=>rfl
 |n+1=>by rw[Xg,Ti v n];rfl
end
end
theorem R5:Z5 prog 4=some (false,1):=tE
theorem QIs:(prog.underlying 5).isSome=true:=tE
theorem Bw:BZ prog 22=true:=tE
theorem QCk:Gp prog 75=some 108:=tE
theorem kC:ZK prog 108=some 40:=tE
theorem XB:Z5 prog 147=some (true,2):=tE
theorem Wk:XI prog 147=some [.bool false,.slice none 0 0]:=tE
theorem QEw:Zx prog 147=some [(0,1),(1,1)]:=tE
theorem Ea:Yv prog 147 0=some (0,4):=tE
theorem K2:Yv prog 147 1=some (1,106):=tE
end Go.Proofs.YtjcphjpkimmmjaaGreatDoor
namespace Ig
def Vk(l:List Int):(Jf l).length<=l.length:=by
 obtain⟨n,hn⟩:=Sc l;have:=congrArg ew hn;simp at this;omega
end Ig
namespace Go.Proofs.YtjcphjpkimmmjaaGreatDoor
variable{c f z zx:Int}{x:Rat}{y:Operand}{cap i k m n:Nat}{cs:List Value}{T yT:TypeId}{a b l o out u:List Int}{α:Type}{s:List UInt8}{w:World}{F:Gs}{ra rb:Sr}
open Go
def cI{l:List UInt8}(h:l.length<=k):(Hq k l).length=k:=by
 unfold Hq;rw[Gh];simp;omega
section
open Go.RowKit Go.ChangeShapes Go.WideShapes Ig
theorem yV{f:α->List Value}{off:Nat}{c:Array Value}(a:∀x,(f x).length=k):∀(l:List α) (i0:Nat),(∀i x,l[i]?=some x->∀j,j<k->c[off+(i0+i)*k+j]?=(f x)[j]?)->∀p u,(l.flatMap f)[p]?=some u->c[off+i0*k+p]?=some u
 |[],_,_,p,u,e=>by simp at e
 |x::l,i0,h,p,u,e=>by
  rw[ep]at e;rcases aN p k with g | g
  ·rw[eM (by rw[a];exact g)]at e;have:=h 0 x rfl p g;rw[eR]at this;rw[this,e]
  rw[eH (by rw[a];exact g),a]at e;have:=yV a l (i0+1) (λi y hy j b=>by
   have:=h (i+1) y (by simpa using hy) j b
   rwa [show i0+(i+1)=i0+1+i by omega]at this) (p-k) u e
  rwa [show off+(i0+1)*k+(p-k)=off+i0*k+p by rw[fG,Nat.one_mul];omega]at this
def QAL{b off:Nat}:(⟨b,off,none⟩:Addr).add n=⟨b,off+n,none⟩:=by
 unfold Addr.add;split
 ·rename_i h;rw[h,eR]
 rfl
section
variable{H:Type}{enc:TypeId×Value->H}{w:World}
def vf{a:Addr}(h:w.cells? 0 a n=some cs):cs.length=n/\∀i,i<n->w.cell? (a.add i)=cs[i]?:=by
 unfold World.cells? at h;rw[if_pos (aE _)]at h;exact⟨by simpa using mapM_some_length h,λi hi=>by simpa using mapM_some_get h i i (by simp[hi])⟩
theorem Pe{fuel:Nat}{cs:List Value}{x:DataW H×List MemPlace}{t e:TypeId}{sz:Nat}{f:α->List Value}{Q:α->Prop}(ht:prog.underlying t=some (.slice e))(hc:prog.cellsOf e=sz)(h0:0<sz)(hf:∀x,(f x).length=sz)
  (hel:∀(n:Nat) (cs:List Value) (x:DataW H×List MemPlace),bz enc prog w 0 (λ_=>true) true n e cs=some x->∃y,cs=f y/\Q y)
  (hh:bz enc prog w 0 (λ_=>true) true fuel t cs=some x) :
  ∃(q:Option Addr) (n cap:Nat) (l:List α),cs=[.slice q n cap]/\Qy (Vx w) q n sz (l.flatMap f)/\l.length=n/\n<=9223372036854775807/\(∀y∈l,Q y)/\n<=cap:=by
 rcases DataW.trod_slice ht hh with ⟨e0,_⟩ | ⟨a',len,cap,elems,rest,n,_,e0,_,_,h1,h2,hlen,hg,_,_⟩
 ·exact⟨none,0,0,[],e0,Qy.nil _ _ _,rfl,aE _,λy hy=>(by cases hy),aq _⟩
 subst e0;rw[hc]at hg;have key:∀i,i<len->∃y:α,w.cells? 0 (a'.add (i*sz)) sz=some (f y)/\Q y:=λi hi=>by
  have e:=hg i hi;rw[aZ O,Option.bind_eq_some_iff]at e;obtain⟨cs,hcs,htr⟩:=e;obtain⟨y,rfl,hq⟩:=hel _ _ _ htr;exact⟨y,hcs,hq⟩
 have hm:len<=9223372036854775807:=by have:=h2;unfold maxLen at this;omega
 have build:∀m,m<=len->∃l:List α,l.length=m/\(∀i x,l[i]?=some x->w.cells? 0 (a'.add (i*sz)) sz=some (f x))/\∀y∈l,Q y:=by
  intro m
  induction m with
  |zero=>exact λ_=>⟨[],rfl,λi x e=>by simp at e,λy hy=>by cases hy⟩
  |succ m ih =>
   intro hm';obtain⟨l,hl,hx,hQ⟩:=ih O;obtain⟨y,hy,hq⟩:=key m O;refine⟨l++[y],by simp[hl],λi x e=>?_,λz hz=>by rcases List.mem_append.1 hz with hz | hz;exact hQ z hz;rw[List.mem_singleton.1 hz];exact hq⟩;rcases aN i m with g | g
   ·rw[eM O]at e;exact hx i x e
   have:i=m:=by
    have:=(List.getElem?_eq_some_iff.1 e).1;simp at this;omega
   subst this;rw[eH O,hl,Nat.sub_self]at e;simp only[List.getElem?_cons_zero,Option.some.injEq]at e;rw[<-e];exact hy
 obtain⟨l,hl,hx,hQ⟩:=build len (aq _);refine⟨some a',len,cap,l,rfl,⟨?_,λhn=>?_⟩,hl,hm,hQ,h1⟩
 ·rw[List.length_flatMap];have:∀l:List α,(l.map λx=>(f x).length).sum=l.length*sz:=λl=>by
   induction l with
   |nil=>simp
   |cons x l ih=>rw[List.map_cons,List.sum_cons,ih,hf,aD,fG];omega
  rw[this,hl]
 have c0:=hx 0 (l[0]' O) (aZ _);have g0:=(vf c0).2 0 h0;have hs:(f (l[0]' O))[0]?=some ((f (l[0]' O))[0]'(by rw[hf];exact h0)):=aZ _;rw[hs,fq]at g0;have ea:(a'.add 0).add 0=a':=rfl;rw[ea]at g0;obtain⟨b',off,spot⟩:=a';unfold fp at g0;split at g0
 ·rename_i c T fr hheap;split at g0
  ·cases g0
  rename_i hsp;have:spot=none:=by cases spot with
   |none=>rfl
   |some s=>simp at hsp
  subst this;refine⟨b',off,c,T,rfl,by unfold Vx;rw[hheap],λj u hu=>?_⟩;have:=yV (off:=off) (c:=c) hf l 0 (λi x e j hj=>?_) j u hu
  ·rwa [fq,eR]at this
  have:=(vf (hx i x e)).2 j hj;rw[QAL,QAL]at this;unfold fp at this;rw[hheap]at this;simpa using this
 cases g0
set_option maxRecDepth 100000 in
theorem QDZ{b:Nat}{v:Value}{d:DataW H}{p:List MemPlace}{t e:TypeId}{sz:Nat}{f:α->List Value}{Q:α->Prop}(ht:prog.underlying t=some (.slice e))(hc:prog.cellsOf e=sz)(h0:0<sz)(k:∀x,(f x).length=sz)
  (g:∀(n:Nat) (cs:List Value) (x:DataW H×List MemPlace),bz enc prog w 0 (λ_=>true) true n e cs=some x->∃y,cs=f y/\Q y)
  (i:Value.okWide prog w .any b t v) (h:DataW.Trod enc prog w 0 (λ_=>true) true t v d p) :
  ∃(q:Option Addr) (n cap:Nat) (l:List α),v = .slice q n cap/\Qy (Vx w) q n sz (l.flatMap f)/\l.length=n/\n<=9223372036854775807/\∀y∈l,Q y:=by
 obtain⟨a,len,cap,rfl⟩:=okWide_slice ht i;obtain⟨fuel,j⟩:=h;obtain⟨q,n,c,l,e0,h1,h2,h3,h4,_⟩:=Pe ht hc h0 k g j;have e0:[eU a len cap]=[.slice q n c]:=e0;simp only[ei,Value.slice.injEq,and_true]at e0;obtain⟨rfl,rfl,rfl⟩:=e0;exact⟨a,len,cap,l,rfl,h1,h2,h3,h4⟩
end
end
open Go.RowKit Ig
def QCw(a b:Rat×Rat):Rat×Rat:=(a.1+b.1,a.2+b.2)
def ahead(p:UInt8->Bool)(s:List UInt8):Nat:=(s.takeWhile λc=>!p c).length
def vj{p:UInt8->Bool}(hi:i<s.length)(h:(s.take i).all (λc=>!p c)=true)(hp:p s[i]=true):ahead p s=i:=by
 unfold ahead;have e:s=s.take i++s[i]::s.drop (i+1):=by rw[<-aP hi,bR]
 have a:(s.take i).length=i:=tK;rw[e,List.takeWhile_append_of_pos (by simpa using h),eZ];simp[hp];omega
def vm{p:UInt8->Bool}(h:s.all (λc=>!p c)=true):ahead p s=s.length:=by
 unfold ahead
 induction s with
 |nil=>rfl
 |cons c s ih =>
  simp only[List.all_cons,ff]at h;rw[eZ,if_pos h.1,aD,ih h.2,aD]
def I0{p:UInt8->Bool}(hi:i<s.length)(h:(s.take i).all p=true)(hp:p s[i]=true):(s.take (i+1)).all p=true:=by
 rw[aQ hi,List.all_append,h];simp[hp]
def Zw(c:UInt8):Bool:=c==47
def AF{c d:UInt8}(hz:z=(d.toNat:Int)):((c.toNat:Int)==z)=(c==d):=by
 rw[ay];simp only[beq_iff_eq];constructor
 ·intro h;apply UInt8.toNat.inj;omega
 rintro rfl;exact hz.symm
theorem Sn(b:Fits F w)(f:s.length<=9223372036854775807):Qf prog 95 [tx s] w F (.int .i64 (ahead Zw s)):=by
 refine QU.intro (G:=λ_=>True) func95 rfl tH rfl rfl b tL<|wa<|wZ rfl<|QG<|wa<|wZ rfl<|QV<|YB (ι:=Uv s.length λi=>(s.take i).all (λc=>!Zw c)=true) (λi=>[(0,tx s),(3,.int .i64 i.i)]) (λ_=>[]) (λ_ _=>True) (λi=>s.length-i.i) ⟨0,aE _,rfl⟩ wm we tL λi=>?_
 have a:=i.le;refine wA 5 I<|QA (Xc I Zm)<|wD 3 I ?_
 refine QQ I (λhc=>?_) λhc=>?_
 ·have hi:i.i<s.length:=by simp at hc;omega
  clear hc;refine wC 8 I<|QA (Hh I I Zm (hi))<|wD 3 I ?_
  refine QQ I (λhc=>?_) λhc=>?_
  ·refine wA 7 I ?_
   repeat first|refine Q6 ?_|refine Qv ?_
   exact QP () I (wT I) (congrArg (λn:Nat=>ae .i64 (n:Int)) (vj hi i.h (by unfold Zw;have:=hc;rw[AF (d:=47) (z:=47) rfl]at this;simpa using this))) tL
  refine QN<|Qj<|wE 3 I<|QA (Qu I I O)<|wB 2 I ?_
  exact Ql (⟨i.i+1,O,I0 hi i.h (by unfold Zw;have:=hc;rw[AF (d:=47) (z:=47) rfl]at this;simpa using this)⟩:Uv s.length λi=>(s.take i).all (λc=>!Zw c)=true) (by show s.length-(i.i+1)<s.length-i.i;omega) wm we tL
 refine Qx ?_
 repeat first|refine QY ?_|refine QO tH ?_
 refine QZ<|wE 4 I<|QA (Xc I Zm)<|wD 4 I ?_
 exact QP () I (wT I) (congrArg (λn:Nat=>ae .i64 (n:Int)) (vm (by have e:=i.h;rw[ai (by simp at hc;omega)]at e;exact e))) tL
theorem vL(c:Fits F w)(f:s.length<=9223372036854775807):Qf prog 188 [tx s] w F (.bool (ZJ s)):=by
 refine QU.intro (G:=λ_=>True) func188 rfl tH rfl rfl c tL<|wa<|wZ rfl<|QG<|wa<|wZ rfl<|QV<|YB (ι:=Uv s.length λi=>(s.take i).all Iq=true) (λi=>[(0,tx s),(3,.int .i64 i.i)]) (λ_=>[]) (λ_ _=>True) (λi=>s.length-i.i) ⟨0,aE _,rfl⟩ wm we tL λi=>?_
 have b:=i.le;refine wA 5 I<|QA (Xc I Zm)<|wD 3 I ?_
 refine QQ I (λhc=>?_) λhc=>?_
 ·have hi:i.i<s.length:=by simp at hc;omega
  clear hc;refine wC 8 I<|QA (Hh I I Zm (hi))<|wB 2 I ?_
  refine Qn (t:=14) rfl (λa=>?_) λa=>?_
  ·refine wD 7 I<|SG I<|wA 6 I ?_
   repeat first|refine Q6 ?_|refine Qv ?_
   exact QP () I (wT I) (congrArg ag (by rw[UA hi (by have h1:=wi a;cases hd:Iq s[i.i]with | false=>rfl | true=>(have:=Kh.1 hd;omega))])) tL
  refine wB 5 I<|QA (Hh I I Zm (hi))<|wD 5 I ?_
  refine QQ I (λhc=>?_) λhc=>?_
  ·refine wA 6 I ?_
   repeat first|refine Q6 ?_|refine Qv ?_
   exact QP () I (wT I) (congrArg ag (by rw[UA hi (by have h1:=wi hc;cases hd:Iq s[i.i]with | false=>rfl | true=>(have:=Kh.1 hd;omega))])) tL
  refine QN<|Qj<|wE 3 I<|QA (Qu I I O)<|wB 2 I ?_
  exact Ql (⟨i.i+1,O,I0 hi i.h (Kh.2 (by have h1:=wj a;have h2:=wj hc;constructor<;>omega))⟩:Uv s.length λi=>(s.take i).all Iq=true) (by show s.length-(i.i+1)<s.length-i.i;omega) wm we tL
 refine Qx ?_
 repeat first|refine QY ?_|refine QO tH ?_
 refine QZ<|wE 7 I ?_
 exact QP () I (wT I) (congrArg ag (by have e:=i.h;rw[ai (by simp at hc;omega)]at e;exact e)) tL
theorem QFN(h1:(1:Int)<(s.length:Int))(h:s[0]' O=48):Xv s=false:=by
 cases s with
 |nil=>simp at h1
 |cons c r =>
  have hc:c=48:=h;subst hc;have hr:r≠[]:=by intro e;subst e;simp at h1
  simp[Xv,hr]
theorem QDx(h1:(1:Int)<(s.length:Int))(h:¬s[0]' O=48):Xv s=ZJ s:=by
 cases s with
 |nil=>simp at h1
 |cons c r =>
  have hc:¬c=48:=h;simp[Xv,hc]
theorem QFM(h0:0<s.length)(h1:s.length<=1):Xv s=ZJ s:=by
 match s,h0,h1 with
 |[c],_,_ =>
  by_cases hc:c=48
  ·subst hc;rfl
  simp[Xv,hc]
theorem QCq(g:Fits F w)(c:s.length<=9223372036854775807):Qf prog 96 [tx s] w F (.bool (Xv s)):=by
 refine QU.intro (G:=λ_=>True) func96 rfl tH rfl rfl g tL<|wa<|wZ rfl<|QG<|wb rfl<|QA (Xc rfl Zm)<|QA (QT rfl rfl rfl)<|wW rfl ?_
 refine Qn (t:=6) rfl (λb=>?_) λb=>?_
 ·refine wB 4 I<|Jn I I<|Jn I I<|Jn I I<|wD 4 I<|SG I<|wA 6 I ?_
  exact QP () I (wT I) (congrArg ag (by have h0:s=[]:=(by simpa using b);subst h0;rfl)) tL
 refine wB 3 I<|QA (Xc I Zm)<|wB 4 I ?_
 refine Qn (t:=10) rfl (λa=>?_) λa=>?_
 ·refine wB 3 I<|QA (Hh (i:=0) rfl rfl Zm (tD<|wi a))<|wD 7 I ?_
  refine QQ I (λhc=>?_) λhc=>?_
  ·refine wA 6 I ?_;exact QP () I (wT I) (congrArg ag (QFN (wi a) (by have h:=hc;rw[AF (d:=48) (z:=48) rfl]at h;simpa using h))) tL
  refine wC 5 I<|QI I (λ_ _ f _=>vL f c) λ_=>wD 4 I ?_
  exact QP () I (wT I) (congrArg ag (QDx (wi a) (by have h:=hc;rw[AF (d:=48) (z:=48) rfl]at h;simpa using h))) tL
 refine wD 8 I<|Yj I<|wC 5 I<|QI I (λ_ _ f _=>vL f c) λ_=>wD 4 I ?_
 exact QP () I (wT I) (congrArg ag (QFM (List.length_pos_iff.2 (by simpa using b)) (by have h:=wj a;omega))) tL
def R8(s:List UInt8):Int:=if s=[48]then 0 else if ao s [45]=true then -1 else 1
def cP(s:List UInt8):List UInt8:=if R8 s<0 then s.drop 1 else if R8 s=0 then s else 45::s
def vB(s:List UInt8):List UInt8:=if R8 s<0 then s.drop 1 else s
def numOf(s:List UInt8):List UInt8:=s.take (ahead Zw s)
def CS(s:List UInt8):List UInt8:=if ahead Zw s=s.length then[49]else s.drop (ahead Zw s+1)
def Et(p:UInt8->Bool)(s:List UInt8):ahead p s<=s.length:=(List.takeWhile_sublist _).length_le
theorem EG(h:0<s.length):ao s [45]=(s[0]==45):=by
 cases s with
 |nil=>simp at h
 |cons c r =>
  have e:ao (c::r) [45]=(45==c):=by simp[ao,eB]
  rw[e,ay];simp only[List.getElem_cons_zero,beq_iff_eq];exact⟨λh=>h.symm,λh=>h.symm⟩
def Od(h:R8 s<0):0<s.length:=by
 cases s with
 |nil=>exact absurd h tF
 |cons=>simp
theorem Oo(c:Fits F w):Qf prog 19 [tx s] w F (.int .i64 (R8 s)):=by
 refine QU.intro (G:=λ_=>True) func19 rfl tH rfl rfl c tL<|wa<|wZ rfl<|QG<|wb rfl<|QA (VE rfl rfl)<|QE<|QC ?_
 refine QQ I (λb=>?_) λb=>?_
 ·refine wA 6 I ?_;exact QP () I (wT I) (congrArg (ae .i64) (by unfold R8;rw[if_pos (by simpa using b)])) tL
 refine wC 6 I<|QA (Xc I Bw)<|wB 2 I ?_
 refine Qn (t:=8) rfl (λa=>?_) λa=>?_
 ·refine wB 3 I<|QA (Hh (i:=0) rfl rfl Bw (tD<|wi a))<|wD 5 I ?_
  refine QQ I (λhc=>?_) λhc=>?_
  ·refine wA 6 I ?_;exact QP () I (wT I) (congrArg (ae .i64) (by unfold R8;rw[if_neg (by simpa using b),if_pos];rw[EG (tD<|wi a),<-AF (z:=45) rfl];exact hc)) tL
  refine wC 8 I ?_;exact QP () I (wT I) (congrArg (ae .i64) (by unfold R8;rw[if_neg (by simpa using b),if_neg];rw[EG (tD<|wi a),<-AF (z:=45) rfl,hc];decide)) tL
 refine wD 6 I<|Yj I<|wC 8 I ?_
 exact QP () I (wT I) (congrArg (ae .i64) (by have h0:s=[]:=(by have:=a;simp at this;exact this);subst h0;rfl)) tL
theorem QHO(c:Fits F w)(g:s.length<=1000000000):Qf prog 153 [tx s] w F (tx (cP s)):=by
 refine QU.intro (G:=λ_=>True) func153 rfl tH rfl rfl c tL<|wa<|wZ rfl<|QG<|wb rfl<|QI rfl (λ_ _ f _=>Oo f ) λ_=>QA (QT rfl rfl rfl)<|QE<|QC ?_
 refine QQ I (λa=>?_) λa=>?_
 ·refine wb I<|QA (GL 1 rfl rfl Bw I (Od (wi a)))<|wD 4 I ?_
  exact QP () I (wT I) (congrArg tx (by unfold cP;rw[if_pos (wi a)])) tL
 refine wC 6 I<|QI I (λ_ _ f k=>Oo f ) λ_=>wD 3 I ?_
 refine QQ I (λb=>?_) λb=>?_
 ·refine wA 7 I ?_;exact QP () I (wT I) (congrArg tx (by unfold cP;rw[if_neg (wj a),if_pos (by simpa using b)])) tL
 refine wC 5 I<|QA (Yf I I tK)<|wD 4 I ?_
 exact QP () I (wT I) (congrArg tx (by unfold cP;rw[if_neg (wj a),if_neg (by simpa using b)];rfl)) tL
theorem gi(a:Fits F w):Qf prog 150 [tx s] w F (tx (vB s)):=by
 refine QU.intro (G:=λ_=>True) func150 rfl tH rfl rfl a tL<|wa<|wZ rfl<|QG<|wb rfl<|QI rfl (λ_ _ f _=>Oo f ) λ_=>QA (QT rfl rfl rfl)<|QE<|QC ?_
 refine QQ I (λhc=>?_) λhc=>?_
 ·refine wb I<|QA (GL 1 rfl rfl Bw I (Od (wi hc)))<|wD 4 I ?_
  exact QP () I (wT I) (congrArg tx (by unfold vB;rw[if_pos (wi hc)])) tL
 refine wC 9 I ?_;exact QP () I (wT I) (congrArg tx (by unfold vB;rw[if_neg (wj hc)])) tL
theorem QCm(a:Fits F w):Qf prog 75 [tx s] w F (.bool (s==[48])):=by
 refine QU.intro (G:=λ_=>True) func75 rfl tH rfl rfl a tL<|wa<|wZ rfl<|wb rfl<|QA (VE rfl rfl)<|wZ rfl<|QX ?_
 exact QP () I (wT I) (rfl) tL
theorem QA6(b:Fits F w)(a:s.length<=1000000000):Qf prog 151 [tx s] w F (tx (numOf s)):=by
 refine QU.intro (G:=λ_=>True) func151 rfl tH rfl rfl b tL<|wa<|wZ rfl<|wb rfl<|wW rfl<|QI rfl (λ_ _ f _=>Sn f (bO a tF)) λ_=>QA (Mj (ahead Zw s) rfl rfl Bw rfl (Et _ _))<|wZ rfl<|QX ?_
 exact QP () I (wT I) (rfl) tL
theorem QA9(b:Fits F w)(a:s.length<=1000000000):Qf prog 152 [tx s] w F (tx (CS s)):=by
 refine QU.intro (G:=λ_=>True) func152 rfl tH rfl rfl b tL<|wa<|wZ rfl<|wb rfl<|QI rfl (λ_ _ f _=>Sn f (bO a tF)) λ_=>wZ rfl<|QG<|wb rfl<|wW rfl<|QA (Xc rfl Bw)<|QA (QT rfl rfl rfl)<|QE<|QC ?_
 refine QQ I (λhc=>?_) λhc=>?_
 ·refine wA 6 I ?_;exact QP () I (wT I) (congrArg tx (by unfold CS;rw[if_pos (by simp at hc;omega)])) tL
 refine wC 6 I<|QA (Qu I I (tD<|Et Zw s))<|QA (GL (ahead Zw s+1) rfl rfl Bw I (by have:=Et Zw s;simp at hc;omega))<|wD 4 I ?_
 exact QP () I (wT I) (congrArg tx (by unfold CS;rw[if_neg (by simp at hc;omega)])) tL
def jJ(hi:i<s.length):Jc (s.take (i+1))=Jc (s.take i)*10+(s[i].toNat-48):=by
 rw[aQ hi,Kb,Wq];simp
def QHu(hi:i<s.length)(h:ZJ s=true):48<=s[i].toNat/\s[i].toNat<=57:=by
 rw[ZJ,fe]at h;exact Kh.1 (h _ (List.getElem_mem hi))
theorem Ol(h:Fits F w)(a:ZJ s=true)(j:s.length<=18):Qf prog 191 [tx s] w F (.int .i64 (Jc s)):=by
 refine QU.intro (G:=λ_=>True) func191 rfl tH rfl rfl h tL<|wa<|wZ rfl<|wa<|wZ rfl<|QG<|wa<|wZ rfl<|QV<|YB (ι:=Uv s.length λ_=>True) (λi=>[(0,tx s),(3,.int .i64 (Jc (s.take i.i))),(4,.int .i64 i.i)]) (λ_=>[]) (λ_ _=>True) (λi=>s.length-i.i) ⟨0,aE _,trivial⟩ wu we tL λi=>?_
 have g:=i.le;have f:=Hb (MZ a i.i);have b:(10:Nat)^(s.take i.i).length<=10^18:=aS tF tK;refine wA 5 I<|QA (Xc I Zm)<|wD 3 I ?_
 refine QQ I (λhc=>?_) λhc=>?_
 ·have hi:i.i<s.length:=by simp at hc;omega
  have hd:=QHu hi a;have c:(10:Nat)^(s.take i.i).length<=10^17:=aS tF tK;refine wC 6 I<|QA (Mx I I O)<|wB 2 I<|QA (Hh I I Zm (hi))<|QA (QDV I QIs k_3 O)<|QA (Qu I I O)<|QA (X3 I I O)<|wB 2 I<|Qj<|wE 3 I<|QA (Qu I I O)<|wB 2 I ?_
  exact Ql (⟨i.i+1,O,trivial⟩:Uv s.length λ_=>True) (by show s.length-(i.i+1)<s.length-i.i;omega) ⟨rfl,(by show some (ae .i64 _)=some (ae .i64 _);rw[jJ hi];congr 2;omega),rfl,trivial⟩ we tL
 refine Qx ?_
 repeat first|refine QY ?_|refine QO tH ?_
 refine QZ<|wE 8 I ?_
 exact QP () I (wT I) (congrArg (ae .i64) (by rw[ai (by simp at hc;omega)])) tL
structure QIZ(a b:Nat) where
 x:Nat
 y:Nat
 h:ba x y=ba a b
 hx:x<=9223372036854775807
 hy:y<=9223372036854775807
theorem QHQ{a b:Nat}(f:Fits F w)(ha:a<=9223372036854775807)(hb:b<=9223372036854775807):Qf prog 103 [.int .i64 (a:Int),.int .i64 (b:Int)] w F (.int .i64 (ba a b:Nat)):=by
 refine QU.intro (G:=λ_=>True) func103 rfl tH rfl rfl f tL<|wa<|wZ rfl<|QG<|QV<|YB (ι:=QIZ a b) (λi=>[(0,.int .i64 (i.x:Int)),(1,.int .i64 (i.y:Int))]) (λ_=>[]) (λ_ _=>True) (λi=>i.y) ⟨a,b,rfl,ha,hb⟩ wm we tL λi=>?_
 have hx:=i.hx;have hy:=i.hy;refine wA 7 I ?_;refine QQ I (λhc=>?_) λhc=>?_
 ·have c:0<i.y:=by simp at hc;omega
  refine wC 3 I<|JG we mixed tE<|QK (QD I)<|QK (QD I)<|QK (QD I)<|QK (H9 I I O O)<|QK (QF I)<|QK (QF I)<|Q7<|Qj ?_
  exact Ql (⟨i.y,i.x%i.y,by rw[<-i.h,fu i.x,Nat.gcd_rec i.y i.x,fu],hy,tD<|eL i.x c⟩:QIZ a b) (eL i.x c) wm we tL
 refine Qx ?_
 repeat first|refine QY ?_|refine QO tH ?_
 refine QZ<|wE 8 I ?_
 exact QP () I (wT I) (congrArg (λn:Nat=>ae .i64 (n:Int)) (by have h0:i.y=0:=(by simp at hc;omega);rw[<-i.h,h0,Nat.gcd_zero_right])) tL
def qW(n least:Nat):List UInt8:=Hq least (hd n)
def QDA(h:0<n):hd n=hd (n/10)++[bT (48+n%10)]:=by
 unfold hd;rw[if_neg O];by_cases h0:n/10=0
 ·rw[if_pos h0,au,dif_pos O,Nat.mod_eq_of_lt O];rfl
 rw[if_neg h0,fD n,dif_neg O]
def QB8(h:n<=9223372036854775807):(hd n).length<=20:=by
 unfold hd;split
 ·simp
 rw[aY];exact Ke O tF
structure QEC(n least:Nat) where
 m:Nat
 t:List UInt8
 le:m<=n
 h:Hq (least-t.length) (hd m)++t=qW n least
 tl:t.length+(hd m).length<=least+20
def QEV{d:Nat}(h:d<10):(([48,49,50,51,52,53,54,55,56,57]:List UInt8).take (d+1)).drop d=[bT (48+d)]:=by
 match d,h with
 |0,_=>rfl
 |1,_=>rfl
 |2,_=>rfl
 |3,_=>rfl
 |4,_=>rfl
 |5,_=>rfl
 |6,_=>rfl
 |7,_=>rfl
 |8,_=>rfl
 |9,_=>rfl
def QFU{least:Nat}{t:List UInt8}(h:0<n\/t.length<least):Hq (least-(bT (48+n%10)::t).length) (hd (n/10))++(bT (48+n%10)::t)=Hq (least-t.length) (hd n)++t:=by
 rcases aB n with h0 | h0
 ·subst h0;have a:t.length<least:=O;have e:least-t.length=(least-(t.length+1))+1:=O;simp only[hd,Hq,aD,if_true,bP,Nat.sub_zero,fg,Nat.zero_div,Nat.zero_mod];rw[e,Gh,Gh,List.replicate_succ',List.append_assoc];rfl
 rw[QDA h0];unfold Hq;simp only[aA,aD,bP];rw[show least-(t.length+1)-(hd (n/10)).length=least-t.length-((hd (n/10)).length+(0+1)) by omega];simp
def QEC.next{n least:Nat}(i:QEC n least)(h:0<i.m\/i.t.length<least):QEC n least :=
 ⟨i.m/10,bT (48+i.m%10)::i.t,tD i.le,by rw[QFU h];exact i.h,by
  have:=i.tl;rcases aB i.m with h0 | h0
  ·have e:hd (i.m/10)=[]:=by rw[h0];rfl
   rw[e];have a:hd i.m=[]:=by rw[h0];rfl
   rw[a]at this;simp at this ⊢;omega
  have e:=congrArg ew (QDA h0);simp at e ⊢;omega⟩
theorem QBA{n least:Nat}(f:Fits F w)(hn:n<=9223372036854775807)(j:least<=1000):Qf prog 104 [.int .i64 (n:Int),.int .i64 (least:Int)] w F (tx (qW n least)):=by
 refine QU.intro (G:=λ_=>True) func104 rfl tH rfl rfl f tL<|wa<|wZ rfl<|wa<|wZ rfl<|QG<|QV<|YB (ι:=QEC n least) (λi=>[(0,.int .i64 (i.m:Int)),(1,.int .i64 (least:Int)),(5,tx i.t)]) (λ_=>[]) (λ_ _=>True) (λi=>i.m+(least-i.t.length)) ⟨n,[],aq _,by unfold qW;simp,by have:=QB8 hn;simp;omega⟩ wu we tL λi=>?_
 have c:=i.le;have b:=i.tl;refine wA 6 I ?_;refine Qn (t:=8) rfl (λa=>?_) λa=>?_
 ·refine wD 7 I<|SG I<|wC 6 I<|QA (H9 I I O O)<|wW I<|QA (H9 I I O O)<|QA (Qu I I O)<|QA (RA (i.m%10) (i.m%10+1) rfl rfl rfl Zm (.inr rfl) (.inr rfl) O (by show i.m%10+1<=10;omega)) ?_
  rw[QEV (eL _ tF)];refine wW I<|QA (Yf I I tK)<|wD 5 I<|QA (SO I I O O O)<|wB 2 I<|Qj ?_
  exact Ql (QEC.next i (eW (tD<|wi a):0<i.m\/i.t.length<least)) (by show i.m/10+(least-(i.t.length+1))<i.m+(least-i.t.length);rcases(eW (tD<|wi a):0<i.m\/i.t.length<least)with g | g<;>omega) wu we tL
 refine wB 3 I<|QA (Xc I Zm)<|wD 7 I ?_
 refine QQ I (λhc=>?_) λhc=>?_
 ·refine wC 6 I<|QA (H9 I I O O)<|wW I<|QA (H9 I I O O)<|QA (Qu I I O)<|QA (RA (i.m%10) (i.m%10+1) rfl rfl rfl Zm (.inr rfl) (.inr rfl) O (by show i.m%10+1<=10;omega)) ?_
  rw[QEV (eL _ tF)];refine wW I<|QA (Yf I I tK)<|wD 5 I<|QA (SO I I O O O)<|wB 2 I<|Qj ?_
  exact Ql (QEC.next i (eV (tD<|wi hc):0<i.m\/i.t.length<least)) (by show i.m/10+(least-(i.t.length+1))<i.m+(least-i.t.length);rcases(eV (tD<|wi hc):0<i.m\/i.t.length<least)with g | g<;>omega) wu we tL
 refine Qx ?_
 repeat first|refine QY ?_|refine QO tH ?_
 refine QZ<|wE 8 I ?_
 exact QP () I (wT I) (congrArg tx (by have h1:=wj a;have h2:=wj hc;have h0:i.m=0:=O;rw[<-i.h,h0];simp[hd,Hq,show least-i.t.length=0 by omega,Lib.repeatL])) tL
theorem Qy.take{q:Option Addr}(h:Qy F q n 1 (l.map Jo))(o:l.length=n)(hk:k<=n):Qy F q k 1 ((l.take k).map Jo):=by
 refine⟨tK,λh0=>?_⟩;obtain⟨b,off,a,T,m,i,f⟩:=h.2 O;refine⟨b,off,a,T,m,i,λj u hu=>f j u ?_⟩;rw[List.map_take]at hu;have c:j<k:=by
  rcases aN j k with g | g
  ·exact g
  rw[eT tK]at hu;cases hu
 rw[List.getElem?_take_of_lt c]at hu;exact hu
def QAk(hk:k<l.length)(h:Jf l=Jf (l.take (k+1)))(h0:l[k]=0):Jf l=Jf (l.take k):=by
 rw[h,aQ hk,h0,Kv]
def QAj(hk:k<l.length)(h:Jf l=Jf (l.take (k+1)))(h0:l[k]≠0):Jf l=l.take (k+1):=by
 rw[h,aQ hk,Hx _ h0]
structure QG5(l:List Int) where
 k:Nat
 le:k<=l.length
 h:Jf l=Jf (l.take k)
theorem Tx{r:Sr}(x:Fits F w)(j:J8 F r l)(A:l.length<=1000000000):QU prog 271 [r.v] w F (λ(_:Unit)=>.slice r.q (Jf l).length r.cap) (λ_ F=>J8 F ⟨r.q,(Jf l).length,r.cap⟩ (Jf l)):=by
 obtain⟨q,n,c⟩:=r;have hn:=j.2.1;have g:=j.2.2;dsimp only at hn g;refine QU.intro (G:=λF=>J8 F ⟨q,n,c⟩ l) func271 rfl tH rfl rfl x (λF' m=>j.le m)<|wa<|wZ rfl<|QG<|QV<|YB (ι:=QG5 l) (λi=>[(0,.slice q i.k c)]) (λ_=>[]) (λ_ F=>J8 F ⟨q,n,c⟩ l) (λi=>i.k) ⟨n,O,by rw[<-hn,aH]⟩ wk we tM λi=>?_
 have o:=i.le;refine wA 4 I<|QA (Qg I Q2)<|wB 2 I ?_
 refine Qn (t:=6) rfl (λb=>?_) λb=>?_
 ·have s:0<i.k:=tD<|wi b
  have a:i.k-1<l.length:=O;refine JQ _ (λ_ _ f h=>h.1.ptr (by dsimp only;omega)) (λhq=>?_);obtain⟨z,y,hq⟩:=hq;dsimp only at hq;subst hq;refine wB 5 I<|QA (Qg I Q2)<|QL I I<|QA (X3 I I O)<|QL I I<|QA (JL (i:=i.k-1) rfl wS Q2 JK O)<|QL I I<|QA (Yn (n:=n) (sz:=1) (cs:=l.map Jo) (u:=.int .i64 l[i.k-1]) I JK tN O (by simp[a,Jo]))<|wD 5 I ?_
  refine QQ I (λhc=>?_) λhc=>?_
  ·refine wC 6 I<|QA (Qg I Q2)<|QA (X3 I I O)<|QA (NV (i.k-1) rfl rfl wS Q2 JK O)<|wB 2 I<|Qj ?_
   exact Ql (⟨i.k-1,O,QAk a (by rw[show i.k-1+1=i.k by omega];exact i.h) (by simpa using hc)⟩:QG5 l) (by show i.k-1<i.k;omega) wk we tM
  refine Qx ?_
  repeat first|refine QY ?_|refine QO tH ?_
  refine QZ<|wE 8 I ?_
  exact QP () I (wT I) (congrArg (λk:Nat=>eU _ k c) (by have e:=QAj a (by rw[show i.k-1+1=i.k by omega];exact i.h) (by simpa using hc);rw[show i.k-1+1=i.k by omega]at e;rw[e];simp;omega)) λF h=>by have hz:(Jf l).length<=l.length:=Vk l;exact⟨(by have:=h.1.take hn (show(Jf l).length<=n by omega);rw[<-Pp]at this;exact this),rfl,(by show(Jf l).length<=c;omega)⟩
 refine wD 10 I<|Yj I<|Qx ?_
 repeat first|refine QY ?_|refine QO tH ?_
 refine QZ<|wE 8 I ?_
 exact QP () I (wT I) (congrArg (λk:Nat=>eU _ k c) (by have h0:i.k=0:=(tD<|wj b);have e:=i.h;rw[h0]at e;simp[IV]at e;rw[e,h0];rfl)) λF h=>by have hz:(Jf l).length<=l.length:=Vk l;exact⟨(by have:=h.1.take hn (show(Jf l).length<=n by omega);rw[<-Pp]at this;exact this),rfl,(by show(Jf l).length<=c;omega)⟩
theorem xV{r:Sr}{i:Nat}(j:Fits F w)(g:J8 F r l)(hi:i<=1000000000):Qf prog 299 [r.v,.int .i64 (i:Int)] w F (.int .i64 (l.getD i 0)):=by
 obtain⟨q,n,c⟩:=r;have hn:=g.2.1;dsimp only at hn;refine QU.intro (G:=λF=>J8 F ⟨q,n,c⟩ l) func299 rfl tH rfl rfl j (λF' b=>g.le b) ?_;dsimp only[Sr.v];refine wA 10 I<|QA (Qg I Q2)<|wD 3 I ?_
 refine QQ I (λhc=>?_) λhc=>?_
 ·have a:i<l.length:=tD<|wi hc
  refine XV _ (λ_ _ f h=>h.1.ptr (by dsimp only;omega)) (λhq=>?_);obtain⟨m,k,hq⟩:=hq;dsimp only at hq;subst hq;refine wA 4 I<|QA (JL (i:=i) rfl rfl Q2 JK O)<|QA (Yn (n:=n) (sz:=1) (cs:=l.map Jo) (u:=.int .i64 l[i]) I JK tN O (by simp[a,Jo]))<|wD 4 I ?_
  exact QP () I (wT I) (congrArg (ae .i64) (by simp[a])) tL
 refine wC 8 I ?_;exact QP () I (wT I) (congrArg (ae .i64) (by have:=wj hc;simp[show l.length<=i by omega])) tL
structure QIc(a b:List Int) where
 i:Nat
 out:List Int
 carry:Int
 v:Value
 ob:List (Nat×Obj)
 le:i<=max a.length b.length+1
 len:out.length=i
 dg:DG B9 out
 c0:0<=carry
 c1:carry<=1
 cz:max a.length b.length<i->carry=0
 h:dv B9 out+B9^i*carry=dv B9 (a.take i)+dv B9 (b.take i)
 hr:Q8 3 1 v out.length (out.map Jo) ob
def N7(B:Int)(l:List Int)(n:Nat):dv B (l.take (n+1))=dv B (l.take n)+B^n*l.getD n 0:=by
 rcases aN n l.length with h | h
 ·rw[Bo B l n h];simp[h]
 rw[ai O,ai h];simp[h]
def jZ(h:DG B9 l)(i:Nat):0<=l.getD i 0/\l.getD i 0<1000000000:=h.getD tF i
def vY(h:l.length<=i):l.getD i 0=0:=by simp[h]
def QIT{s:Int}(g:out.length=i)(h:dv B9 out+B9^i*c=dv B9 (a.take i)+dv B9 (b.take i))(f:s=a.getD i 0+b.getD i 0+c):
  dv B9 (out++[s%B9])+B9^(i+1)*(s/B9)=dv B9 (a.take (i+1))+dv B9 (b.take (i+1)):=by
 rw[X9,g,N7,N7,aO,bN];have e:s%B9+B9*(s/B9)=s:=bA s B9;have j:B9^i*(s%B9)+B9^i*(B9*(s/B9))=B9^i*s:=by rw[<-bF,e]
 rw[fm,j,f,bF,bF];omega
abbrev jB(P:Program)(f:FuncId)(args:List Value)(w:World)(F:Gs)(p:List Int->Prop):Prop:=QU P f args w F (λ(c:Sr×List Int)=>.slice c.1.q c.1.n c.1.cap) λc F=>J8 F c.1 c.2/\DG B9 c.2/\p c.2
theorem gh(P:Fits F w)(E:J8 F ra a)(D:J8 F rb b)(R:DG B9 a)(Q:DG B9 b)(la:a.length<=100000000)(lb:b.length<=100000000):
  jB prog 239 [ra.v,rb.v] w F (λl=>dv B9 l=dv B9 a+dv B9 b/\l.length<=max a.length b.length+1):=by
 have T:=E.2.1;have nb:=D.2.1;have h9:B9=1000000000:=rfl;refine QU.intro (G:=λF=>J8 F ra a/\J8 F rb b) func239 rfl tH rfl rfl P (λF' y=>⟨E.le y,D.le y⟩)<|wa<|wZ rfl<|wa<|wZ rfl<|wa<|wZ rfl<|QG<|wa<|wZ rfl<|QV ?_
 refine YB (ι:=QIc a b) (λi=>[(0,ra.v),(1,rb.v),(5,i.v),(6,.int .i64 i.carry),(7,.int .i64 (i.i:Int))]) (λi=>i.ob) (λ_ F=>J8 F ra a/\J8 F rb b) (λi=>max a.length b.length+1-i.i)
  ⟨0,[],0,.slice none 0 0,[],aE _,rfl,DG.nil _,tF,tF,λ_=>rfl,tJ,.nil⟩ wy tQ tM λi=>?_
 have L:=i.le;have c:=i.len;have N:=i.c0;have M:=i.c1;refine QG ?_;refine Ew 22 (.bool (decide ((i.i:Int)<ra.n)||decide ((i.i:Int)<rb.n)||decide (i.carry>0))) ?_ ?_
 ·refine wA 3 I<|QA (Qg I Q2)<|wB 2 I ?_
  refine Qn (t:=13) rfl (λx=>?_) λx=>?_
  ·refine wB 10 I ?_;exact ZU (exd 15 rfl rfl) (congrArg (λb=>some (ag b)) (by rw[ay];simp_all;try omega)) we tM
  refine wB 5 I<|QA (Qg I Q2)<|wB 4 I ?_
  refine Qn (t:=19) rfl (λs=>?_) λs=>?_
  ·refine wB 4 I ?_;exact ZU (exd 16 rfl rfl) (congrArg (λb=>some (ag b)) (by rw[ay];simp_all;try omega)) we tM
  refine wB 6 I ?_;exact ZU (exd 16 rfl rfl) (congrArg (λb=>some (ag b)) (by rw[ay];simp_all;try omega)) we tM
 refine QQ I (λhc=>?_) λhc=>?_
 ·have hi:i.i<=max a.length b.length:=by
   rcases aN (max a.length b.length) i.i with g | g
   ·have:=i.cz g;simp at hc;omega
   exact g
  have b1:=jZ R i.i;have b2:=jZ Q i.i;refine wC 8 I<|QI I (λ_ _ f k=>xV (r:=ra) (l:=a) f k.1 O) λ_=>wB 2 I<|QI I (λ_ _ f k=>xV (r:=rb) (l:=b) f k.1.2 O) λ_=>QA (Qu I I O)<|wW I<|QA (Qu I I O)<|wD 7 I<|QA (H9 I I O O)<|Qb I (Q5 Q2) JK R4 I I λS=>?_
  refine Z4 (bs1:=[]) (ob:=i.ob) (k:=1) (sz:=1) (news:=[.int .i64 ((a.getD i.i 0+b.getD i.i 0+i.carry)%1000000000)]) I I Q2 JK R4 I F6 i.hr (Src.row (off:=0) tO (λj v A=>by rw[aR];show([ae .i64 ((a.getD i.i 0+b.getD i.i 0+i.carry)%1000000000)].toArray)[j]?=some v;rw[aF];exact A) rfl) O O (λu hu=>by rw[List.mem_singleton.1 hu];rfl) (λH z B=>?_);refine wD 5 I<|QA (SO I I O O O)<|wB 2 I<|Qj<|wE 3 I<|QA (Qu I I O)<|wB 2 I ?_
  exact Ql (⟨i.i+1,i.out++[(a.getD i.i 0+b.getD i.i 0+i.carry)%B9],(a.getD i.i 0+b.getD i.i 0+i.carry)/B9,H,z,O,by simp[c],i.dg.append (DG.cons (by rw[h9];omega) (by rw[h9];omega) (DG.nil _)),by rw[h9];omega,by rw[h9];omega,λg=>by rw[vY (l:=a) O,vY (l:=b) O,h9];omega,QIT c i.h I,by simpa[Jo,h9]using B⟩:QIc a b) (by show max a.length b.length+1-(i.i+1)<max a.length b.length+1-i.i;omega) wy we λF h=>h.1.1.1
 refine Qx ?_
 repeat first|refine QY ?_|refine QO tH ?_
 refine QZ<|wE 8 I ?_
 obtain⟨r,A,m,K,o⟩:=Q8.fix (w0:=w) (F0:=F) (bs1:=[]) (G:=λF=>J8 F ra a/\J8 F rb b) i.hr;refine QDI o ?_;have C:max a.length b.length<=i.i/\i.carry=0:=by simp at hc;omega
 exact QP ((r,i.out):Sr×List Int) rfl (wT I) A.symm λF h=>⟨⟨by rw[m];exact h.2,m.symm,by show r.n<=r.cap;omega⟩,i.dg,by have e:=i.h;rw[C.2,ai O,ai O]at e;simpa using e,by show i.out.length<=_;omega⟩
structure QIb(a b:List Int) where
 k:Nat
 le:k<=a.length
 h:a.drop k=b.drop k
def QD0(ha:k<a.length)(hb:k<b.length)(h:a.drop (k+1)=b.drop (k+1))(e:a[k]=b[k]):a.drop k=b.drop k:=by
 rw[aP ha,aP hb,h,e]
theorem Su(U:Fits F w)(K:J8 F ra a)(H:J8 F rb b)(y:DG B9 a)(x:DG B9 b)(M:NZ a)(L:NZ b)(la:a.length<=100000000)(lb:b.length<=100000000):
  Qf prog 240 [ra.v,rb.v] w F (.int .i64 (YF (dv B9 a) (dv B9 b))):=by
 have o:(1:Int)<B9:=tF;have s:(0:Int)<B9:=tF;obtain⟨q,n,c⟩:=ra;obtain⟨A,l,E⟩:=rb;have Q:=K.2.1;have nb:=H.2.1;dsimp only at Q nb;refine QU.intro (G:=λF=>J8 F ⟨q,n,c⟩ a/\J8 F ⟨A,l,E⟩ b) func240 rfl tH rfl rfl U (λF' m=>⟨K.le m,H.le m⟩) ?_;dsimp only[Sr.v];refine wA 9 I<|QA (Qg I Q2)<|wW I<|QA (Qg I Q2)<|wD 3 I ?_
 refine QQ I (λhc=>?_) λhc=>?_
 ·refine wA 4 I<|QA (Qg I Q2)<|wW I<|QA (Qg I Q2)<|wD 3 I ?_
  refine QQ I (λhc=>?_) λD=>?_
  ·refine wA 6 I ?_;exact QP () I (wT I) (congrArg (ae .i64) (G7 (ZQ o y x L (by simp at hc;omega)))) tL
  refine wC 8 I ?_;exact QP () I (wT I) (congrArg (ae .i64) (Em (ZQ o x y M (by simp at hc D;omega)))) tL
 refine wC 6 I<|QA (Qg I Q2)<|QA (X3 I I O)<|wD 3 I ?_
 have T:n=l:=by simp at hc;omega
 refine QV<|YB (ι:=QIb a b) (λi=>[(0,.slice q n c),(1,.slice A l E),(5,.int .i64 ((i.k:Int)-1))]) (λ_=>[]) (λ_ F=>J8 F ⟨q,n,c⟩ a/\J8 F ⟨A,l,E⟩ b) (λi=>i.k) ⟨n,O,by rw[bw O,bw O]⟩ wu we tM λi=>?_
 have R:=i.le;refine wA 7 I ?_;refine QQ I (λhc=>?_) λhc=>?_
 ·refine wC 6 I ?_;have S:0<i.k:=tD<|wi hc
  have j:i.k-1<a.length:=O;have g:i.k-1<b.length:=O;refine XV _ (λ_ _ f h=>h.1.1.ptr (by dsimp only;omega)) (λhq=>?_);obtain⟨X,V,hq⟩:=hq;dsimp only at hq;subst hq;refine XV _ (λ_ _ f h=>h.2.1.ptr (by dsimp only;omega)) (λhq=>?_);obtain⟨P,N,hq⟩:=hq;dsimp only at hq;subst hq;refine JG we mixed tE<|QK (QD I)<|QK (QD I)<|QK (JL (i:=i.k-1) rfl wS Q2 JK O)<|QK (Yn (n:=n) (sz:=1) (cs:=a.map Jo) (u:=.int .i64 a[i.k-1]) I JK (λF h=>h.1.1) O (by simp[j,Jo]))<|QK (QD I)<|QK (QD I)<|QK (JL (i:=i.k-1) rfl wS Q2 JK O)<|QK (Yn (n:=l) (sz:=1) (cs:=b.map Jo) (u:=.int .i64 b[i.k-1]) I JK (λF h=>h.2.1) O (by simp[g,Jo]))<|QK (QT I I I)<|Q7<|QC ?_
  refine QQ I (λhc=>?_) λC=>?_
  ·refine wA 6 I ?_
   repeat first|refine Q6 ?_|refine Qv ?_
   exact QP () I (wT I) (congrArg (ae .i64) (G7 (L8 s y x O (i.k-1) j (by rw[show i.k-1+1=i.k by omega];exact i.h) (wi hc)))) tL
  refine wC 3 I<|JG we mixed tE<|QK (QD I)<|QK (QD I)<|QK (JL (i:=i.k-1) rfl wS Q2 JK O)<|QK (Yn (n:=n) (sz:=1) (cs:=a.map Jo) (u:=.int .i64 a[i.k-1]) I JK (λF h=>h.1.1) O (by simp[j,Jo]))<|QK (QD I)<|QK (QD I)<|QK (JL (i:=i.k-1) rfl wS Q2 JK O)<|QK (Yn (n:=l) (sz:=1) (cs:=b.map Jo) (u:=.int .i64 b[i.k-1]) I JK (λF h=>h.2.1) O (by simp[g,Jo]))<|QK (QT I I I)<|Q7<|QC ?_
  refine QQ I (λhc=>?_) λB=>?_
  ·refine wA 6 I ?_
   repeat first|refine Q6 ?_|refine Qv ?_
   exact QP () I (wT I) (congrArg (ae .i64) (Em (L8 s x y O (i.k-1) g (by rw[show i.k-1+1=i.k by omega];exact i.h.symm) (wi hc)))) tL
  refine QN<|Qj<|wE 3 I<|QA (X3 I I O)<|wB 2 I ?_
  exact Ql (⟨i.k-1,O,QD0 j g (by rw[show i.k-1+1=i.k by omega];exact i.h) (by simp at C B;omega)⟩:QIb a b) (by show i.k-1<i.k;omega) ⟨rfl,rfl,congrArg (λz:Int=>some (ae .i64 z)) (by dsimp only;omega),trivial⟩ we tM
 refine Qx ?_
 repeat first|refine QY ?_|refine QO tH ?_
 refine QZ<|wE 7 I ?_
 exact QP () I (wT I) (congrArg (ae .i64) (by have h0:i.k=0:=(tD<|wj hc);have e:=i.h;rw[h0]at e;simp at e;rw[e];exact SE _)) tL
def QGz{f d:Int}(g:out.length=i)(h:dv B9 out+dv B9 (b.take i)=dv B9 (a.take i)+B9^i*c)(hd:d=a.getD i 0-b.getD i 0-c+B9*f):
  dv B9 (out++[d])+dv B9 (b.take (i+1))=dv B9 (a.take (i+1))+B9^(i+1)*f:=by
 rw[X9,g,N7,N7,aO,bN,hd,bF,bD,bD];omega
structure QHy(a b:List Int) where
 i:Nat
 out:List Int
 borrow:Int
 v:Value
 ob:List (Nat×Obj)
 le:i<=a.length
 len:out.length=i
 dg:DG B9 out
 c0:0<=borrow
 c1:borrow<=1
 h:dv B9 out+dv B9 (b.take i)=dv B9 (a.take i)+B9^i*borrow
 hr:Q8 3 1 v out.length (out.map Jo) ob
def QGB(j:DG B9 out)(i:out.length=a.length)(hb:b.length<=a.length)(h:dv B9 out+dv B9 (b.take a.length)=dv B9 (a.take a.length)+B9^a.length*c)(h0:0<=c)(h1:c<=1)(g:dv B9 b<=dv B9 a):dv B9 out=dv B9 a-dv B9 b:=by
 rw[aH,ai hb]at h;have f:=Kl (b:=B9) tF j;rw[i]at f;have hc:c=0\/c=1:=O;rcases hc with rfl | rfl
 ·rw[eu]at h;omega
 rw[eD]at h;omega
theorem Om(T:Fits F w)(P:J8 F ra a)(N:J8 F rb b)(V:DG B9 a)(U:DG B9 b)(la:a.length<=100000000)(lb:b.length<=a.length)(D:dv B9 b<=dv B9 a):
  jB prog 241 [ra.v,rb.v] w F (λl=>dv B9 l=dv B9 a-dv B9 b/\NZ l/\l.length<=a.length):=by
 obtain⟨q,n,c⟩:=ra;have Q:=P.2.1;have nb:=N.2.1;dsimp only at Q;have h9:B9=1000000000:=rfl;refine QU.intro (G:=λF=>J8 F ⟨q,n,c⟩ a/\J8 F rb b) func241 rfl tH rfl rfl T (λF' B=>⟨P.le B,N.le B⟩) ?_;dsimp only[Sr.v];refine wA 22 I ?_;refine YB (ι:=QHy a b) (λi=>[(0,.slice q n c),(1,.slice rb.q rb.n rb.cap),(5,i.v),(6,.int .i64 i.borrow),(7,.int .i64 (i.i:Int))]) (λi=>i.ob) (λ_ F=>J8 F ⟨q,n,c⟩ a/\J8 F rb b) (λi=>a.length-i.i)
  ⟨0,[],0,.slice none 0 0,[],aE _,rfl,DG.nil _,tF,tF,tJ,.nil⟩ wy tQ tM λi=>?_
 have M:=i.le;have g:=i.len;have K:=i.c0;have H:=i.c1;refine wA 5 I<|QA (Qg I Q2)<|wD 3 I ?_
 refine QQ I (λhc=>?_) λhc=>?_
 ·have hi:i.i<n:=tD<|wi hc
  have z:i.i<a.length:=O;have b1:=jZ V i.i;have b2:=jZ U i.i;have e1:a[i.i]=a.getD i.i 0:=by simp[z]
  refine XV _ (λ_ _ f h=>h.1.1.ptr (by dsimp only;omega)) (λhq=>?_);obtain⟨Z,Y,hq⟩:=hq;dsimp only at hq;subst hq;refine wC 5 I<|JG we mixed tE<|QK (QD I)<|QK (QD I)<|QK (JL (i:=i.i) rfl rfl Q2 JK O)<|QK (Yn (n:=n) (sz:=1) (cs:=a.map Jo) (u:=.int .i64 (a.getD i.i 0)) I JK (λF h=>h.1.1) O (by simp[z,Jo]))<|QK (QD I)<|QK (QD I)<|QR I (λ_ _ f k=>xV (r:=rb) (l:=b) f k.2 O) λ_=>QK (X3 I I O)<|QK (QD I)<|QK (X3 I I O)<|QK (QF I)<|Q7<|wE 7 I ?_
  refine wA 6 I ?_;refine QQ I (λx=>?_) λx=>?_
  ·refine wb I<|QA (Qu I I O)<|wD 4 I<|wD 6 I<|Qb I (Q5 Q2) JK R4 I I λL=>?_
   refine Z4 (bs1:=[]) (ob:=i.ob) (k:=1) (sz:=1) (news:=[.int .i64 ((a.getD i.i 0-b.getD i.i 0-i.borrow)+1000000000)]) I I Q2 JK R4 I F6 i.hr (Src.row (off:=0) tO (λj v s=>by rw[aR];show([ae .i64 ((a.getD i.i 0-b.getD i.i 0-i.borrow)+1000000000)].toArray)[j]?=some v;rw[aF];exact s) rfl) O O (λu hu=>by rw[List.mem_singleton.1 hu];rfl) (λC m o=>?_);refine wB 2 I<|Qj<|wE 3 I<|QA (Qu I I O)<|wB 2 I ?_
   exact Ql (⟨i.i+1,i.out++[((a.getD i.i 0-b.getD i.i 0-i.borrow)+1000000000)],1,C,m,O,by simp[g],i.dg.append (DG.cons (tD<|wi x) (by have:=wi x;rw[h9];omega) (DG.nil _)),tF,tF,QGz g i.h (by rw[h9];omega),by simpa[Jo]using o⟩:QHy a b) (by show a.length-(i.i+1)<a.length-i.i;omega) wy we λF h=>h.1.1
  refine wC 5 I<|Qb I (Q5 Q2) JK R4 I I λL=>?_
  refine Z4 (bs1:=[]) (ob:=i.ob) (k:=1) (sz:=1) (news:=[.int .i64 (a.getD i.i 0-b.getD i.i 0-i.borrow)]) I I Q2 JK R4 I F6 i.hr (Src.row (off:=0) tO (λj v s=>by rw[aR];show([ae .i64 (a.getD i.i 0-b.getD i.i 0-i.borrow)].toArray)[j]?=some v;rw[aF];exact s) rfl) O O (λu hu=>by rw[List.mem_singleton.1 hu];rfl) (λC m o=>?_);refine wB 2 I<|Qj<|wE 3 I<|QA (Qu I I O)<|wB 2 I ?_
  exact Ql (⟨i.i+1,i.out++[(a.getD i.i 0-b.getD i.i 0-i.borrow)],0,C,m,O,by simp[g],i.dg.append (DG.cons (tD<|wj x) (by have:=wj x;rw[h9];omega) (DG.nil _)),tF,tF,QGz g i.h (by rw[h9];omega),by simpa[Jo]using o⟩:QHy a b) (by show a.length-(i.i+1)<a.length-i.i;omega) wy we λF h=>h.1.1
 refine Qx ?_
 repeat first|refine QY ?_|refine QO tH ?_
 refine QZ<|QC<|QG ?_
 obtain⟨r,s,y,R,A⟩:=Q8.fix (w0:=w) (F0:=F) (bs1:=[]) (G:=λF=>J8 F ⟨q,n,c⟩ a/\J8 F rb b) i.hr;have E:i.i=a.length:=tD<|wj hc
 have S:=Vk i.out;refine jH A ?_;rw[s];refine wA 2 I<|QI I (λ_ _ f k=>Tx (r:=r) (l:=i.out) f ⟨by rw[y];exact k.2,y.symm,O⟩ O) λX=>wD 4 I ?_
 exact QP ((⟨r.q,(Jf i.out).length,r.cap⟩,Jf i.out):Sr×List Int) rfl (wT I) rfl λF h=>⟨h.2,i.dg.Jf,by show dv B9 (Jf i.out)=_;rw[ZH];exact QGB i.dg O lb (by have e:=i.h;rw[E]at e;exact e) K H D,Zu _,by show(Jf i.out).length<=_;omega⟩
def IH(la lb:List Int)(i j:Nat)(x:Int)(o:List Int)(c:Int):Prop :=
 o.length=la.length+lb.length/\DG B9 o/\(∀p,i+lb.length<=p->Qm o p=0)/\(0<=c/\c<B9) /\
  dv B9 o+B9^(i+j)*c=dv B9 (la.take i)*dv B9 lb+B9^i*(x*dv B9 (lb.take j))
def XY:(0:Int)<B9:=tF
theorem QC5{x y o:Int}(hx:0<=x/\x<B9)(hy:0<=y/\y<B9)(a:0<=o/\o<B9)(hc:0<=c/\c<B9):0<=x*y/\x*y<=999999998000000001/\0<=o+x*y+c/\(o+x*y+c)/B9<B9:=by
 have h9:B9=1000000000:=rfl;have h0:=bI hx.1 hy.1;have h1:x*y<=(B9-1)*(B9-1):=bJ O O hy.1 O;generalize x*y=m at *
 have q:=h9 ▸ hx.2;generalize b:B9=B at *
 subst h9;omega
theorem IH.step{la lb:List Int}{j:Nat}{x s:Int}(h:IH la lb i j x o c)(hx:0<=x/\x<B9)(hb:DG B9 lb)(l:j<lb.length)(hi:i<la.length)(f:s=Qm o (i+j)+x*Qm lb j+c):
  IH la lb i (j+1) x (o.set (i+j) (s%B9)) (s/B9):=by
 obtain⟨h1,h2,h3,h4,h5⟩:=h;obtain⟨k,g,b,a⟩:=QC5 hx (hb.Qm XY j) (h2.Qm XY (i+j)) h4;rw[<-f]at b a;refine⟨by simpa using h1,h2.set _ (bS _ tF) (bK _ XY),?_,⟨bh b tF,a⟩,?_⟩
 ·intro p hp;rw[Br O,if_neg O];exact h3 p hp
 rw[Rk B9 O,Hk,<-bM,aO];have e0:s%B9+B9*(s/B9)=s:=bA s B9;generalize s%B9=lo at *
 generalize s/B9=hi at *
 have e:B9^(i+j)*(lo+B9*hi)=B9^(i+j)*(Qm o (i+j)+x*Qm lb j+c):=by rw[e0,f]
 rw[eC]at *
 generalize B9^i=u at *
 generalize B9^j=v at *
 generalize B9=B at *
 grind
theorem IH.row{la lb:List Int}{x:Int}(h:IH la lb i lb.length x o c)(hi:i<la.length)(hx:x=Qm la i):
  IH la lb (i+1) 0 0 (o.set (i+lb.length) c) 0:=by
 obtain⟨h1,h2,h3,h4,h5⟩:=h;refine⟨by simpa using h1,h2.set _ h4.1 h4.2,?_,⟨bL _,XY⟩,?_⟩
 ·intro p hp;rw[Br O,if_neg O];exact h3 p O
 rw[Rk B9 O,h3 _ (aq _),Hk,<-hx];rw[aH]at h5;simp only[eu,Int.add_zero,fw,Int.sub_zero];rw[h5];generalize B9^i=u at *
 generalize B9=B at *
 grind
def IH.start(la lb:List Int):IH la lb 0 0 0 (aX (la.length+lb.length) 0) 0:=by
 refine⟨tJ,DG.replicate XY _,?_,⟨bL _,XY⟩,by rw[TS];simp⟩;intro p _;unfold Qm;split<;>simp
def IH.next{la lb:List Int}(h:IH la lb i 0 0 o 0)(x:Int):IH la lb i 0 x o 0:=by
 obtain⟨h1,h2,h3,h4,h5⟩:=h;exact⟨h1,h2,h3,h4,by simpa using h5⟩
def IH.stop{la lb:List Int}(h:IH la lb i 0 0 o 0)(hi:la.length<=i):dv B9 o=dv B9 la*dv B9 lb:=by
 have e:=h.2.2.2.2;rw[ai hi]at e;simpa using e
structure QIX(a b:List Int) where
 i:Nat
 o:List Int
 le:i<=a.length
 h:IH a b i 0 0 o 0
structure QIW(a b:List Int)(i:Nat) where
 j:Nat
 o:List Int
 c:Int
 le:j<=b.length
 h:IH a b i j (Qm a i) o c
theorem Tz(hF:Fits F w)(Y:J8 F ra a)(X:J8 F rb b)(da:DG B9 a)(Z:DG B9 b)(la:a.length<=100000000)(lb:b.length<=100000000):
  jB prog 195 [ra.v,rb.v] w F (λl=>dv B9 l=dv B9 a*dv B9 b/\NZ l/\l.length<=a.length+b.length):=by
 obtain⟨q,n,c⟩:=ra;obtain⟨x,g,y⟩:=rb;have S:=Y.2.1;have nb:=X.2.1;dsimp only at S nb;have h9:B9=1000000000:=rfl;refine QU.intro (G:=λF=>J8 F ⟨q,n,c⟩ a/\J8 F ⟨x,g,y⟩ b) func195 rfl tH rfl rfl hF (λF' E=>⟨Y.le E,X.le E⟩) ?_;dsimp only[Sr.v];refine wA 8 I<|QA (Qg I Q2)<|wW I<|QA (Qg I Q2)<|QA (Qu I I O)<|Mm (n:=n+g) (bytes:=8) rfl rfl Q2 JK R4 I F6 O O λu=>?_
 rw[show Xg [ae .i64 0] (n+g)=(aX (a.length+b.length) (0:Int)).map Jo by rw[Ti,S,nb];simp[Jo]];refine wD 10 I ?_;refine YB (ι:=QIX a b) (λi=>[(0,.slice q n c),(1,.slice x g y),(5,.slice (some ⟨u,0,none⟩) (n+g) (n+g)),(6,.int .i64 (i.i:Int))]) (λi=>[(u,.cells (i.o.map Jo).toArray 3 (0,0))]) (λ_ F=>J8 F ⟨q,n,c⟩ a/\J8 F ⟨x,g,y⟩ b) (λi=>a.length-i.i)
  ⟨0,_,aE _,IH.start a b⟩ wv we tM λi=>?_
 have V:=i.le;refine wA 5 I<|QA (Qg I Q2)<|wD 3 I ?_
 refine QQ I (λhc=>?_) λhc=>?_
 ·have hi:i.i<n:=tD<|wi hc
  have s:i.i<a.length:=O;refine XV _ (λ_ _ f h=>h.1.1.ptr (by dsimp only;omega)) (λhq=>?_);obtain⟨R,Q,hq⟩:=hq;dsimp only at hq;subst hq;refine wC 16 I ?_;refine YB (ι:=QIW a b i.i) (λi2=>[(0,.slice (some ⟨R,Q,none⟩) n c),(1,.slice x g y),(5,.slice (some ⟨u,0,none⟩) (n+g) (n+g)),(6,.int .i64 (i.i:Int)),(7,.int .i64 i2.c),(8,.int .i64 (i2.j:Int))]) (λi2=>[(u,.cells (i2.o.map Jo).toArray 3 (0,0))]) (λ_ F=>J8 F ⟨some ⟨R,Q,none⟩,n,c⟩ a/\J8 F ⟨x,g,y⟩ b) (λi2=>b.length-i2.j)
   ⟨0,i.o,0,aE _,i.h.next _⟩ wz we tM λi2=>?_
  have U:=i2.le;have K:i2.o.length=a.length+b.length:=i2.h.1;have N:=i2.h.2.2.2.1;refine wA 5 I<|QA (Qg I Q2)<|wD 3 I ?_
  refine QQ I (λhc=>?_) λhc=>?_
  ·have hj:i2.j<g:=tD<|wi hc
   have C:i2.j<b.length:=O;have B:i.i+i2.j<i2.o.length:=O;have bx:=da.Qm XY i.i;have P:=Z.Qm XY i2.j;have bo:=i2.h.2.1.Qm XY (i.i+i2.j);have bd:=QC5 bx P bo N;have H:=i2.h.step bx Z C s rfl;refine XV _ (λ_ _ f h=>h.2.1.ptr (by dsimp only;omega)) (λhq=>?_);obtain⟨qb',qo',hq⟩:=hq;dsimp only at hq;subst hq;refine wC 5 I<|JG we mixed tE<|QK (QD I)<|QK (QD I)<|QK (QD I)<|QK (Qu I I O)<|QK (JL (i:=i.i+i2.j) rfl rfl Q2 JK O)<|QK (V1 (c:=i2.o.map Jo) (T':=3) rfl JK .here (TY B))<|QK (QD I)<|QK (QD I)<|QK (JL (i:=i.i) rfl rfl Q2 JK O)<|QK (Yn (n:=n) (sz:=1) (cs:=a.map Jo) rfl JK (λF h=>h.1.1) O (Jz s))<|QK (QD I)<|QK (QD I)<|QK (JL (i:=i2.j) rfl rfl Q2 JK O)<|QK (Yn (n:=g) (sz:=1) (cs:=b.map Jo) rfl JK (λF h=>h.2.1) O (Jz C))<|QK (Mx I I O)<|QK (Qu I I O)<|QK (QD I)<|QK (Qu I I O)<|QK (QF I) ?_
   refine Q7<|wE 6 I<|QA (Qu I I O)<|wW I<|QA (H9 I I O O)<|QA (JL (i:=i.i+i2.j) rfl rfl Q2 JK O)<|QW (vs:=[_]) I I I JK I .here (SC B _) wk<|wD 4 I<|QA (SO I I O O O)<|wB 2 I<|Qj<|wE 3 I<|QA (Qu I I O)<|wX I ?_
   refine QE ?_;exact Ql (⟨i2.j+1,i2.o.set (i.i+i2.j) _,_,O,H⟩:QIW a b i.i) (by show b.length-(i2.j+1)<b.length-i2.j;omega) wz we tM
  have L:i2.j=b.length:=tD<|wj hc
  have m:i.i+g<i2.o.length:=O;have z:IH a b (i.i+1) 0 0 (i2.o.set (i.i+g) i2.c) 0:=by
   have e:=i2.h;rw[L]at e;have:=e.row s rfl
   rwa [nb]at this
  have hz:Qm i2.o (i.i+g)=0:=i2.h.2.2.1 _ O;refine Qx ?_
  repeat first|refine QY ?_|refine QO tH ?_
  refine QZ<|wE 5 I<|QA (Qg I Q2)<|QA (Qu I I O)<|wB 3 I<|QA (Qg I Q2)<|QA (Qu I I O)<|QA (JL (i:=i.i+g) rfl rfl Q2 JK O)<|QA (V1 (c:=i2.o.map Jo) (T':=3) rfl JK .here (TY m))<|wW I<|QA (Qu I I O)<|QA (JL (i:=i.i+g) rfl rfl Q2 JK O)<|QW (vs:=[_]) I I I JK I .here (SC m _) wk<|QE<|Qj<|wE 3 I<|QA (Qu I I O) ?_
  refine wB 2 I ?_;exact Ql (⟨i.i+1,i2.o.set (i.i+g) i2.c,O,z⟩:QIX a b) (by show a.length-(i.i+1)<a.length-i.i;omega) wv (by rw[hz,fy];exact fH _) tM
 refine Qx ?_
 repeat first|refine QY ?_|refine QO tH ?_
 refine QZ<|QC<|QG ?_
 have M:a.length<=i.i:=tD<|wj hc
 have K:i.o.length=a.length+b.length:=i.h.1;have hr:Q8 3 1 (.slice (some ⟨u,0,none⟩) (n+g) (n+g)) (n+g) (i.o.map Jo) [(u,.cells (i.o.map Jo).toArray 3 (0,0))]:=by
  have:=Q8.some (T:=3) (sz:=1) (b:=u) (n:=n+g) (cap:=n+g) (l:=i.o.map Jo) (rest:=[]) tK tK (aq _) (bO (show n+g<=200000000 by omega) tF);simpa using this
 obtain⟨r,hv,A,hrc,D⟩:=Q8.fix (w0:=w) (F0:=F) (bs1:=[]) (G:=λF=>J8 F ⟨q,n,c⟩ a/\J8 F ⟨x,g,y⟩ b) hr;have hlz:=Vk i.o;refine jH D ?_;rw[hv];refine wA 2 I<|QI I (λ_ _ f k=>Tx (r:=r) (l:=i.o) f ⟨by rw[A];exact k.2,by rw[A];omega,O⟩ O) λc71=>wD 4 I ?_
 exact QP ((⟨r.q,(Jf i.o).length,r.cap⟩,Jf i.o):Sr×List Int) rfl (wT I) rfl λF h=>⟨h.2,i.h.2.1.Jf,by show dv B9 (Jf i.o)=_;rw[ZH];exact i.h.stop M,Zu _,by show(Jf i.o).length<=_;omega⟩
structure QIa(a:List Int)(d:Int) where
 k:Nat
 o:List Int
 r:Int
 le:k<=a.length
 len:o.length=a.length
 dg:DG B9 o
 r0:0<=r
 r1:r<d
 h:dv B9 (a.drop k)=d*dv B9 (o.drop k)+r
def set_drop{p:Nat}(h:p<o.length)(v:Int):(o.set p v).drop p=v::o.drop (p+1):=by
 rw[aP (by simpa using h)];congr 1
 ·simp
 rw[aU O]
def QGj{r d x:Int}(a:0<=r)(b:r<d)(hd:d<B9)(hx:0<=x/\x<B9):0<=r*B9+x/\0<=(r*B9+x)/d/\(r*B9+x)/d<B9/\0<=(r*B9+x)%d/\(r*B9+x)%d<d:=by
 have h0:0<=r*B9:=bI a tF;refine⟨O,bh O O,bU O ?_,bS _ O,bK _ O⟩;have h1:(r+1)*B9<=d*B9:=ax O tF;rw[bW,aT]at h1;rw[aJ B9 d];omega
theorem QHo{d r s:Int}{p:Nat}(hp:p<a.length)(b:p<o.length)(h:dv B9 (a.drop (p+1))=d*dv B9 (o.drop (p+1))+r)(c:s=r*B9+Qm a p):
  dv B9 (a.drop p)=d*dv B9 ((o.set p (s/d)).drop p)+s%d:=by
 rw[set_drop b,aP hp,<-Z9 hp];simp only[dv];rw[h];have e:s%d+d*(s/d)=s:=bA s d;generalize s/d=u at *
 generalize s%d=v at *
 generalize B9=B at *
 grind
theorem jF{d:Int}(U:Fits F w)(N:J8 F ra a)(V:DG B9 a)(la:a.length<=100000000)(Y:0<d)(X:d<B9):
  QU prog 270 [ra.v,.int .i64 d] w F (λ(c:(Sr×List Int)×Int)=>.tuple [.slice c.1.1.q c.1.1.n c.1.1.cap,.int .i64 c.2].toArray) (λc F=>J8 F c.1.1 c.1.2/\DG B9 c.1.2/\NZ c.1.2/\0<=c.2/\c.2<d/\dv B9 a=d*dv B9 c.1.2+c.2/\c.1.2.length<=a.length):=by
 obtain⟨q,n,c⟩:=ra;have L:=N.2.1;dsimp only at L;have h9:B9=1000000000:=rfl;refine QU.intro (G:=λF=>J8 F ⟨q,n,c⟩ a) func270 rfl tH rfl rfl U (λF' K=>N.le K) ?_;dsimp only[Sr.v];refine wA 9 I<|QA (Qg I Q2)<|Mm (n:=n) (bytes:=8) rfl rfl Q2 JK R4 I F6 O O λB=>?_
 rw[show Xg [ae .i64 0] n=(aX a.length (0:Int)).map Jo by rw[Ti,L];simp[Jo]];refine wD 12 I<|QA (Qg I Q2)<|QA (X3 I I O)<|wD 4 I ?_
 refine YB (ι:=QIa a d) (λi=>[(0,.slice q n c),(1,.int .i64 d),(6,.slice (some ⟨B,0,none⟩) n n),(7,.int .i64 i.r),(8,.int .i64 ((i.k:Int)-1))]) (λi=>[(B,.cells (i.o.map Jo).toArray 3 (0,0))]) (λ_ F=>J8 F ⟨q,n,c⟩ a) (λi=>i.k)
  ⟨n,aX a.length 0,0,O,tJ,DG.replicate XY _,bL _,Y,by rw[bw O,bw tK];simp[dv]⟩ wy we tM λi=>?_
 have M:=i.le;have E:=i.len;have u:=i.r0;have m:=i.r1;refine wA 7 I ?_;refine QQ I (λhc=>?_) λhc=>?_
 ·have S:0<i.k:=tD<|wi hc
  have y:i.k-1<a.length:=O;have x:i.k-1<i.o.length:=O;have bx:=V.Qm XY (i.k-1);have C:=QGj u m X bx;rw[h9]at C;have D:=QHo (d:=d) (r:=i.r) (s:=i.r*1000000000+Qm a (i.k-1)) y x (by rw[show i.k-1+1=i.k by omega];exact i.h) rfl;refine XV _ (λ_ _ f h=>h.1.ptr (by dsimp only;omega)) (λhq=>?_);obtain⟨qb,qo,hq⟩:=hq;dsimp only at hq;subst hq;refine wC 7 I<|QA (Mx I I O)<|wB 2 I<|QA (JL (i:=i.k-1) rfl wS Q2 JK O)<|QA (Yn (n:=n) (sz:=1) (cs:=a.map Jo) rfl JK tN O (Jz y))<|QA (Qu I I O)<|wD 9 I<|QA (SO I I O O O)<|QA (JL (i:=i.k-1) rfl wS Q2 JK O)<|QW (vs:=[_]) I I I JK I .here (SC x _) wk ?_
  refine wD 5 I<|QA (H9 I I O O)<|wB 2 I<|Qj<|wE 3 I<|QA (X3 I I O)<|wB 2 I ?_
  exact Ql (⟨i.k-1,i.o.set (i.k-1) ((i.r*1000000000+Qm a (i.k-1))/d),(i.r*1000000000+Qm a (i.k-1))%d,O,by simpa using E,i.dg.set _ C.2.1 C.2.2.1,C.2.2.2.1,C.2.2.2.2,D⟩:QIa a d) (by show i.k-1<i.k;omega) ⟨rfl,rfl,rfl,rfl,congrArg (λz:Int=>some (ae .i64 z)) (by dsimp only;omega),trivial⟩ we tM
 refine Qx ?_
 repeat first|refine QY ?_|refine QO tH ?_
 refine QZ<|QC<|QG ?_
 have H:i.k=0:=tD<|wj hc
 have hr:Q8 3 1 (.slice (some ⟨B,0,none⟩) n n) n (i.o.map Jo) [(B,.cells (i.o.map Jo).toArray 3 (0,0))]:=by
  have:=Q8.some (T:=3) (sz:=1) (b:=B) (n:=n) (cap:=n) (l:=i.o.map Jo) (rest:=[]) tK tK (aq _) (bO (show n<=200000000 by omega) tF);simpa using this
 obtain⟨r,P,j,Q,A⟩:=Q8.fix (w0:=w) (F0:=F) (bs1:=[]) (G:=λF=>J8 F ⟨q,n,c⟩ a) hr;have R:=Vk i.o;have g:=i.h;rw[H,bm,bm]at g;refine jH A ?_;rw[P];refine wA 2 I<|QI I (λ_ _ f k=>Tx (r:=r) (l:=i.o) f ⟨by rw[j];exact k.2,by rw[j];omega,O⟩ O) λZ=>wD 6 I ?_
 exact Je (((⟨r.q,(Jf i.o).length,r.cap⟩,Jf i.o),i.r):(Sr×List Int)×Int) rfl (wU I I) rfl λF h=>⟨h.2,i.dg.Jf,Zu _,u,m,by show _=d*dv B9 (Jf i.o)+i.r;rw[ZH];exact g,by show(Jf i.o).length<=_;omega⟩
theorem QHm{v:List Int}{t r:Int}(h:Hp B9 u v n)(t0:0<=t)(e:t*Qm v (n+1)+r=Qm u (n+2)*B9+Qm u (n+1))(hc:r*B9+Qm u n<t*Qm v n):dv B9 u<t*dv B9 v:=by
 obtain⟨a,a2,a3⟩:=Kx (b:=B9) tF h.hu h.lu;obtain⟨b1,b2,b3⟩:=Wr (b:=B9) tF h.hv h.lv;rw[a,b1];refine FR b2 a3 (pow_pos XY n) t0 ?_;rw[<-e];generalize B9=B at *
 grind
theorem QIQ{v:List Int}{t:Int}(h:Hp B9 u v n)(ht:B9<=t):dv B9 u<t*dv B9 v:=by
 have h0:=JJ (b:=B9) tF h.hv;have h1:B9*dv B9 v<=t*dv B9 v:=ax ht h0;have:=h.lt;omega
theorem QGc{v:List Int}{t:Int}(h:Hp B9 u v n)(t0:0<=t)(ht:Qm u (n+2)*B9+Qm u (n+1)<(t+1)*Qm v (n+1)):dv B9 u<(t+1)*dv B9 v:=by
 obtain⟨c,a2,a3⟩:=Kx (b:=B9) tF h.hu h.lu;obtain⟨b1,b2,b3⟩:=Wr (b:=B9) tF h.hv h.lv;rw[c,b1];refine FR b2 a3 (pow_pos XY n) O ?_;have i:=h.hu.Qm XY n;have a:=h.hv.Qm XY n;have g:0<=(t+1)*Qm v n:=bI O a.1;have f:(Qm u (n+2)*B9+Qm u (n+1)+1)*B9<=(t+1)*Qm v (n+1)*B9:=ax O tF;generalize B9=B at *
 generalize Qm u (n+2)=u0 at *
 generalize Qm u (n+1)=u1 at *
 generalize Qm u n=u2 at *
 generalize Qm v (n+1)=v1 at *
 generalize Qm v n=v2 at *
 grind
theorem QG4{v:List Int}{t r:Int}(h:Hp B9 u v n)(t0:0<=t)(c:t<B9)(e:t*Qm v (n+1)+r=Qm u (n+2)*B9+Qm u (n+1))(hc:t*Qm v n<=r*B9+Qm u n):(t-1)*dv B9 v<=dv B9 u:=by
 obtain⟨a,a2,a3⟩:=Kx (b:=B9) tF h.hu h.lu;obtain⟨b1,b2,b3⟩:=Wr (b:=B9) tF h.hv h.lv;rw[a,b1];have g:=h.hv.Qm XY n;have f:1*B9<=Qm v (n+1)*B9:=ax (tD h.nz) tF;refine CF (pow_pos XY n) b3 a2 t0 ?_ O b2;rw[<-e];generalize B9=B at *
 grind
def QDH(u v:List Int)(t:Int):Prop:=0<=t/\t<B9/\(t-1)*dv B9 v<=dv B9 u/\dv B9 u<(t+1)*dv B9 v
structure GuI(u v:List Int)(m:Nat) where
 t:Int
 r:Int
 t0:0<=t
 r0:0<=r
 r1:r<B9
 t2:t<=1000000000000000000
 e:t*Qm v (m+1)+r=Qm u (m+2)*B9+Qm u (m+1)
 h:dv B9 u<(t+1)*dv B9 v
def yo{U:List Int}{j:Nat}(h:k<m):Qm ((U.drop j).take m) k=Qm U (j+k):=by
 by_cases g:j+k<U.length
 ·rw[Z9 tK,Z9 g];simp
 rw[MX tK,MX O]
def QDB{v:List Int}{t r:Int}(h:Hp B9 u v n)(t0:0<=t)(e:t*Qm v (n+1)+r=Qm u (n+2)*B9+Qm u (n+1))(hr:B9<=r)(hu:dv B9 u<(t+1)*dv B9 v):QDH u v t:=by
 have ht:=h.top tF;have k:=h.hu.Qm XY n;have j:=h.hu.Qm XY (n+1);have c:=h.hv.Qm XY n;have hn:=h.nz;have i:Qm u (n+2)*B9<=Qm v (n+1)*B9:=ax ht tF;have a:t<B9:=by
  refine Int.not_le.1 λhc=>?_;have b:B9*Qm v (n+1)<=t*Qm v (n+1):=ax hc O;rw[aJ]at b;omega
 refine⟨t0,a,QG4 h t0 a e ?_,hu⟩;have g:t*Qm v n<=B9*B9:=bJ O O c.1 tF;have f:B9*B9<=r*B9:=ax hr tF;omega
theorem vZ{v:List Int}{t:Int}(hu:DG B9 u)(t0:0<=t)(h:dv B9 u<t*dv B9 v):0<=t-1:=by
 have:=JJ (b:=B9) tF hu;rcases bG 0 t with g | g
 ·omega
 have e:t=0:=O;subst e;rw[fw]at h;omega
theorem QEn{rest:List Value}{w0:World}{F0:Gs}{G:Gs->Prop}{bs:List (Nat×Obj)}{o l u j:Nat}{rv:Sr}{U v:List Int}(L:U.length=l)(K:j+m+3<=l)(hn:l<=1000000000)(hG:∀F,G F->J8 F rv v)(b:Hp B9 ((U.drop j).take (m+3)) v m):
  XN prog 272 [.slice (some ⟨o,0,none⟩) l u,rv.v,.int .i64 (j:Int)] ⟨w0,F0,(o,.cells (U.map Jo++rest).toArray 3 (0,0))::bs,G⟩ (λt:Int=>.int .i64 t) (λt=>⟨w0,F0,(o,.cells (U.map Jo++rest).toArray 3 (0,0))::bs,λF=>G F/\QDH ((U.drop j).take (m+3)) v t⟩):=by
 obtain⟨q,n,c⟩:=rv;have B:=b.lv;have h9:B9=1000000000:=rfl;have u2:Qm ((U.drop j).take (m+3)) (m+2)=Qm U (j+(m+2)):=yo O;have u1:Qm ((U.drop j).take (m+3)) (m+1)=Qm U (j+(m+1)):=yo O;have y:Qm ((U.drop j).take (m+3)) m=Qm U (j+m):=yo O;have b2:=b.hu.Qm XY (m+2);have b1:=b.hu.Qm XY (m+1);have M:=b.hu.Qm XY m;have c1:=b.hv.Qm XY (m+1);have x:=b.hv.Qm XY m;have nz:=b.nz;refine XN.intro func272 rfl rfl rfl rfl ?_;dsimp only[Sr.v];refine XV _ (λ_ F f h=>(hG F h).2.1) (λs=>?_);dsimp only at s;obtain rfl:n=m+2:=O;refine XV _ (λ_ F f h=>(hG F h).1.ptr (by dsimp only;omega)) (λhq=>?_);obtain⟨A,z,hq⟩:=hq;dsimp only at hq;subst hq;refine wA 8 I<|QA (Qg I Q2)<|wD 4 I<|JG we mixed tE<|QK (QD I)<|QK (QD I)<|QK (QD I)<|QK (Qu I I O)<|QK (JL (i:=j+(m+2)) I wS Q2 JK O)<|QK (V1 (v:=.int .i64 (Qm ((U.drop j).take (m+3)) (m+2))) (c:=U.map Jo++rest) (T':=3) rfl JK .here (by rw[u2];exact WR O))<|QK (Mx I I O)<|QK (QD I)<|QK (QD I)<|QK (QD I)<|QK (Qu I I O) ?_
 refine QK (X3 I I O)<|QK (JL (i:=j+(m+1)) I wS Q2 JK O)<|QK (V1 (v:=.int .i64 (Qm ((U.drop j).take (m+3)) (m+1))) (c:=U.map Jo++rest) (T':=3) rfl JK .here (by rw[u1];exact WR O))<|QK (Qu I I O)<|QK (QF I)<|Q7<|QC<|QG<|JG we mixed tE<|QK (QD I)<|QK (QD I)<|QK (QD I)<|QK (X3 I I O)<|QK (JL (i:=m+1) rfl wS Q2 JK O)<|QK (Yn (n:=m+2) (sz:=1) (cs:=v.map Jo) rfl JK (λF h=>(hG F h).1) O (Jz (show m+1<v.length by omega)))<|QK (SO I I O O O)<|QK (QD I)<|QK (QD I)<|QK (QD I)<|QK (X3 I I O)<|QK (JL (i:=m+1) rfl wS Q2 JK O)<|QK (Yn (n:=m+2) (sz:=1) (cs:=v.map Jo) rfl JK (λF h=>(hG F h).1) O (Jz (show m+1<v.length by omega)))<|QK (H9 I I O O)<|QK (QF I)<|QK (QF I) ?_
 refine Q7<|wE 3 I ?_
 refine YB (ι:=GuI ((U.drop j).take (m+3)) v m) (λi=>[(0,.slice (some ⟨o,0,none⟩) l u),(1,.slice (some ⟨A,z,none⟩) (m+2) c),(2,.int .i64 (j:Int)),(7,.int .i64 ((m+2:Nat):Int)),(9,.int .i64 i.t),(10,.int .i64 i.r)]) (λ_=>(o,.cells (U.map Jo++rest).toArray 3 (0,0))::bs) (λ_=>G) (λi=>i.t.toNat)
  ⟨(Qm ((U.drop j).take (m+3)) (m+2)*1000000000+Qm ((U.drop j).take (m+3)) (m+1))/Qm v (m+1),(Qm ((U.drop j).take (m+3)) (m+2)*1000000000+Qm ((U.drop j).take (m+3)) (m+1))%Qm v (m+1),bh O O,bS _ O,fz (bK _ nz) c1.2,Int.le_trans (bB (a:=(Qm ((U.drop j).take (m+3)) (m+2)*1000000000+Qm ((U.drop j).take (m+3)) (m+1))) _ O) O,by rw[aJ,Int.add_comm];exact bA _ _,QGc b (bh O O) (Int.lt_ediv_add_one_mul_self _ nz)⟩ wz we tM λi=>?_
 have t0:=i.t0;have D:=i.r0;have C:=i.r1;have t2:=i.t2;refine QG<|QG<|JG we mixed tE<|QK (QD I)<|QK (QT I I I)<|QK (QD I) ?_
 refine Gg (t:=44) rfl (λk=>?_) λk=>?_
 ·refine Jj I I I<|Jj I I I<|Jj I I I<|Jj I I I<|Jj I I I<|Jj I I I<|Jj I I I<|Jj I I I<|Jj I I I<|Jj I I I<|Jj I I I<|Jj I I I<|Jj I I I<|Jj I I I<|Jj I I I<|Jj I I I<|Jj I I I<|Jj I I I<|QK (Qh I I I)<|Q7<|QC<|SG I ?_
  have g:dv B9 ((U.drop j).take (m+3))<i.t*dv B9 v:=QIQ b (tD<|wi k);refine wC 6 I<|QA (X3 I I O)<|wD 8 I<|QA (X3 I I O)<|QA (JL (i:=m+1) rfl wS Q2 JK O)<|QA (Yn (n:=m+2) (sz:=1) (cs:=v.map Jo) rfl JK (λF h=>(hG F h).1) O (Jz (show m+1<v.length by omega)))<|QA (Qu I I O)<|wD 6 I ?_
  refine wD 3 I ?_;refine QQ I (λhc=>?_) λhc=>?_
  ·refine wA 7 I ?_
   repeat first|refine Q6 ?_|refine Qv ?_
   exact Y3 (i.t-1) rfl (wT I) rfl λw h=>h.imp we λF h=>⟨h,QDB (r:=i.r+Qm v (m+1)) b (vZ b.hu t0 g) (by rw[bV,aT,<-i.e];omega) (tD<|wi hc) (by rw[bH];exact g)⟩
  refine QN<|Qj ?_
  exact Ql (⟨i.t-1,i.r+Qm v (m+1),(vZ b.hu t0 g),O,tD<|wj hc,O,(by rw[bV,aT,<-i.e];omega),(by rw[bH];exact g)⟩:GuI ((U.drop j).take (m+3)) v m) (by show(i.t-1).toNat<i.t.toNat;have:=(vZ b.hu t0 g);omega) wz we tM
 have tb:i.t<B9:=tD<|wj k
 have H:0<=i.t*Qm v m:=bI t0 x.1;have E:i.t*Qm v m<=1000000000*1000000000:=bJ O O x.1 tF;refine XA I I<|QK (QD I)<|XA I I<|QK (QD I)<|XA I I<|QK (QD I)<|XA I I<|QK (X3 I I O)<|XA I I<|QK (JL (i:=m) rfl wS Q2 JK O)<|XA I I<|QK (Yn (n:=m+2) (sz:=1) (cs:=v.map Jo) rfl JK (λF h=>(hG F h).1) O (Jz (show m<v.length by omega)))<|XA I I<|QK (Mx I I O)<|XA I I<|QK (QD I)<|XA I I<|QK (Mx I I O)<|XA I I<|QK (QD I)<|XA I I<|QK (QD I)<|XA I I<|QK (QD I)<|XA I I ?_
 refine QK (Qu I I O)<|XA I I<|QK (X3 I I O)<|XA I I<|QK (JL (i:=j+m) rfl wS Q2 JK O)<|XA I I<|QK (V1 (v:=.int .i64 (Qm ((U.drop j).take (m+3)) (m))) (c:=U.map Jo++rest) (T':=3) rfl JK .here (by rw[y];exact WR O))<|XA I I<|QK (Qu I I O)<|XA I I<|QK (QT I I I)<|QK (Qd I I I)<|Q7<|QC ?_
 refine QQ I (λhc=>?_) λhc=>?_
 ·have g:dv B9 ((U.drop j).take (m+3))<i.t*dv B9 v:=QHm b t0 i.e (by have:=wi hc;rw[h9];omega);refine wC 6 I<|QA (X3 I I O)<|wD 8 I<|QA (X3 I I O)<|QA (JL (i:=m+1) rfl wS Q2 JK O)<|QA (Yn (n:=m+2) (sz:=1) (cs:=v.map Jo) rfl JK (λF h=>(hG F h).1) O (Jz (show m+1<v.length by omega)))<|QA (Qu I I O)<|wD 6 I ?_
  refine wD 3 I ?_;refine QQ I (λhc=>?_) λhc=>?_
  ·refine wA 7 I ?_
   repeat first|refine Q6 ?_|refine Qv ?_
   exact Y3 (i.t-1) rfl (wT I) rfl λw h=>h.imp we λF h=>⟨h,QDB (r:=i.r+Qm v (m+1)) b (vZ b.hu t0 g) (by rw[bV,aT,<-i.e];omega) (tD<|wi hc) (by rw[bH];exact g)⟩
  refine QN<|Qj ?_
  exact Ql (⟨i.t-1,i.r+Qm v (m+1),(vZ b.hu t0 g),O,tD<|wj hc,O,(by rw[bV,aT,<-i.e];omega),(by rw[bH];exact g)⟩:GuI ((U.drop j).take (m+3)) v m) (by show(i.t-1).toNat<i.t.toNat;have:=(vZ b.hu t0 g);omega) wz we tM
 refine Qx ?_
 repeat first|refine QY ?_|refine QO tH ?_
 refine QZ<|wE 8 I ?_
 exact Y3 (i.t) rfl (wT I) rfl λw h=>h.imp we λF h=>⟨h,⟨t0,tb,QG4 b t0 tb i.e (by have:=wj hc;rw[h9];omega),i.h⟩⟩
end Go.Proofs.YtjcphjpkimmmjaaGreatDoor
namespace Ig
structure vC(b:Int)(U v:List Int)(j:Nat)(t:Int)(i:Nat)(U':List Int)(br:Int):Prop where
 len:U'.length=U.length
 dg:DG b U'
 lo:U'.take j=U.take j
 hi:U'.drop (j+i)=U.drop (j+i)
 br0:0<=br
 br1:br<=b
 h:dv b U'+b^j*(t*dv b (v.take i))=dv b U+b^(j+i)*br
def vC.start{b:Int}(hb:0<=b){U v:List Int}(a:DG b U)(j:Nat)(t:Int):vC b U v j t 0 U 0 :=
 ⟨rfl,a,rfl,rfl,bL _,hb,tJ⟩
def QFR{l:List Int}{p k:Nat}:Qm (l.drop p) k=Qm l (p+k):=by
 by_cases g:p+k<l.length
 ·rw[Z9 tK,Z9 g];simp
 rw[MX tK,MX O]
def Gi{l m:List Int}{p q:Nat}(h:l.drop p=m.drop p)(hq:p<=q):Qm l q=Qm m q:=by
 have:=congrArg (λx=>Qm x (q-p)) h;simp only[QFR]at this;rw[show p+(q-p)=q by omega]at this;exact this
def QGC{b t x a:Int}(hb:1<b)(ht:0<=t/\t<b)(hx:0<=x/\x<b)(h:0<=a/\a<=b):0<=t*x/\t*x<=(b-1)*(b-1)/\0<=(t*x+a)/b/\(t*x+a)/b<b:=by
 have h0:=bI ht.1 hx.1;have h1:t*x<=(b-1)*(b-1):=bJ O O hx.1 O;refine⟨h0,h1,bh O O,bU O ?_⟩;have e:(b-1)*(b-1)=b*b-2*b+1:=by grind
 omega
def vC.step{b:Int}{U v g:List Int}{j i:Nat}{t f x a:Int}(h:vC b U v j t i g f)(k:j+i<U.length)
  (hx:0<=x/\x<b) (c:a<=b/\0<=a) (e:x-b*a=Qm U (j+i)-(t*Qm v i+f)):vC b U v j t (i+1) (g.set (j+i) x) a:=by
 obtain⟨h1,h2,h3,h4,h5,h6,h7⟩:=h;have hd:Qm g (j+i)=Qm U (j+i):=Gi h4 (aq _);refine⟨by simpa using h1,h2.set _ hx.1 hx.2,?_,?_,c.2,c.1,?_⟩
 ·rw[aI O];exact h3
 ·rw[aU O,<-bM,<-aG,h4,aG]
 rw[Rk b O,hd,Hk,<-bM,aO];have l:b^(j+i)*(x-b*a)=b^(j+i)*(Qm U (j+i)-(t*Qm v i+f)):=by rw[e]
 rw[eC]at *
 generalize b^i=p at *
 generalize b^j=q at *
 grind
structure uL(b:Int)(U v:List Int)(j n:Nat)(t:Int)(U':List Int)(top:Int):Prop where
 len:U'.length=U.length
 dg:DG b (U'.set (j+n) 0)
 lo:U'.take j=U.take j
 hi:U'.drop (j+n+1)=U.drop (j+n+1)
 tp:Qm U' (j+n)=top
 h:dv b U'=dv b U-b^j*(t*dv b v)
def vC.stop{b:Int}(hb:1<b){U v c:List Int}{j n:Nat}{t a:Int}(h:vC b U v j t n c a)(hn:v.length=n)(f:j+n<U.length):uL b U v j n t (c.set (j+n) (Qm U (j+n)-a)) (Qm U (j+n)-a):=by
 obtain⟨h1,h2,h3,h4,h5,h6,h7⟩:=h;have hd:Qm c (j+n)=Qm U (j+n):=Gi h4 (aq _);refine⟨by simpa using h1,?_,?_,?_,?_,?_⟩
 ·rw[fl];exact h2.set _ (bL _) O
 ·rw[aI O];exact h3
 ·rw[aU O,<-aG,h4,aG]
 ·rw[Br O,if_pos rfl]
 rw[Rk b O,hd];rw[ai O]at h7;generalize b^(j+n)=p at *
 generalize b^j=q at *
 grind
def Wz(b:Int)(l:List Int)(j:Nat):dv b l=dv b (l.take j)+b^j*dv b (l.drop j):=by
 by_cases h:j<=l.length
 ·exact Vy b l j h
 rw[ai O,bp O];simp
def uL.part{b:Int}(hb:0<b){U v a:List Int}{j n:Nat}{t top:Int}(h:uL b U v j n t a top):dv b (a.drop j)=dv b (U.drop j)-t*dv b v:=by
 have e:=h.h;rw[Wz b a j,Wz b U j,h.lo]at e;have hp:=pow_pos hb j;have c:b^j*dv b (a.drop j)=b^j*(dv b (U.drop j)-t*dv b v):=by
  rw[bD];generalize b^j*dv b (a.drop j)=x at *;generalize b^j*dv b (U.drop j)=y at *;omega
 exact eO O c
def jE{l:List Int}{j n:Nat}(h:j+n<l.length):l.drop j=(l.drop j).take n++Qm l (j+n)::l.drop (j+n+1):=by
 have e:(l.drop j).drop n=Qm l (j+n)::l.drop (j+n+1):=by
  rw[aG,Xr h]
 rw[<-e,bR]
def QDv{b:Int}(hb:1<b){U:List Int}{k n:Nat}(a:DG b U)(h:dv b (U.drop k)<b^n):dv b (U.drop (k+n))=0:=by
 have e:=Wz b (U.drop k) n;rw[aG]at e;have h1:=JJ (b:=b) O ((a.drop k).take n);have h2:=JJ (b:=b) O (a.drop (k+n));have hp:=pow_pos (b:=b) O n;rcases bG 0 (dv b (U.drop (k+n)))with g | g
 ·have:b^n*1<=b^n*dv b (U.drop (k+n)):=ah O O;rw[eD]at this;omega
 omega
def uL.sign{b:Int}(hb:1<b){U v a:List Int}{j n:Nat}{t top:Int}(h:uL b U v j n t a top)(hz:dv b (U.drop (j+n+1))=0)(g:j+n<U.length):
  ∃lo,0<=lo/\lo<b^n/\dv b (a.drop j)=lo+b^n*top:=by
 have c:=h.len;have f:=jE (l:=a) (j:=j) (n:=n) O;refine⟨dv b ((a.drop j).take n),?_,?_,?_⟩
 ·have:DG b ((a.drop j).take n):=by
   have:=((h.dg.drop j).take n);rw[bY,if_neg O,bj,aI (aq _)]at this;exact this
  exact JJ O this
 ·have:DG b ((a.drop j).take n):=by
   have:=((h.dg.drop j).take n);rw[bY,if_neg O,bj,aI (aq _)]at this;exact this
  have h2:=Kl (by omega:0<b) this;rw[show((a.drop j).take n).length=n by simp;omega]at h2;exact h2
 have e:=congrArg (dv b) f;rw[YD,Vi,h.hi,hz,h.tp,show((a.drop j).take n).length=n by simp;omega]at e;simpa using e
def uL.QHn{b:Int}(hb:1<b){U v a:List Int}{j n:Nat}{t top:Int}(h:uL b U v j n t a top)(c:j+n<U.length)(h0:0<=top)(ht:top<b)
  (g:dv b (U.drop j)<(t+1)*dv b v):DG b a/\dv b (a.drop j)<dv b v/\dv b a=dv b U-b^j*(t*dv b v):=by
 have hp:=h.part O;refine⟨?_,?_,h.h⟩
 ·have e:a=(a.set (j+n) 0).set (j+n) top:=by
   rw[fl];have:=h.tp;rw[Z9 (by rw[h.len];exact c)]at this;rw[<-this,List.set_getElem_self]
  rw[e];exact h.dg.set _ h0 ht
 rw[hp];rw[bW,aT]at g;omega
def IU.start{b:Int}{U v:List Int}{j n:Nat}(a:DG b (U.set (j+n) 0)):IU b U v j n 0 U 0 :=
 ⟨rfl,a,rfl,rfl,bL _,O,tJ⟩
def IU.step{b:Int}{U v f:List Int}{j n i:Nat}{c x a:Int}(h:IU b U v j n i f c)(hi:i<n)(g:j+n<U.length)
  (hx:0<=x/\x<b) (hc:0<=a/\a<=1) (e:x+b*a=Qm U (j+i)+Qm v i+c):IU b U v j n (i+1) (f.set (j+i) x) a:=by
 obtain⟨h1,h2,h3,h4,h5,h6,h7⟩:=h;have hd:Qm f (j+i)=Qm U (j+i):=Gi h4 (aq _);refine⟨by simpa using h1,?_,?_,?_,hc.1,hc.2,?_⟩
 ·rw[List.set_comm _ _ O];exact h2.set _ hx.1 hx.2
 ·rw[aI O];exact h3
 ·rw[aU O,<-bM,<-aG,h4,aG]
 rw[Rk b O,hd,Hk,<-bM,aO];have k:b^(j+i)*(x+b*a)=b^(j+i)*(Qm U (j+i)+Qm v i+c):=by rw[e]
 rw[eC]at *
 generalize b^i=p at *
 generalize b^j=q at *
 grind
def IU.Qm{b:Int}(hb:1<b){U v a:List Int}{j n i:Nat}{c:Int}(h:IU b U v j n i a c)(hi:i<n):0<=Qm a (j+i)/\Qm a (j+i)<b:=by
 have:=h.dg.Qm O (j+i);by_cases g:j+n<a.length
 ·rw[Br g,if_neg O]at this;exact this
 rw[List.set_eq_of_length_le O]at this;exact this
def IU.QHn{b:Int}(hb:1<b){U v D a:List Int}{j n:Nat}{t top c:Int}(h:IU b D v j n n a c)(k:uL b U v j n t D top)(M:DG b U)(F:DG b v)(hn:v.length=n)(hz:dv b (U.drop (j+n+1))=0)(L:j+n<U.length)(h0:top<0)
  (g:(t-1)*dv b v<=dv b (U.drop j)):DG b (a.set (j+n) (top+c))/\dv b ((a.set (j+n) (top+c)).drop j)<dv b v/\dv b (a.set (j+n) (top+c))=dv b U-b^j*((t-1)*dv b v)/\0<=t-1/\(a.set (j+n) (top+c)).length=U.length:=by
 obtain⟨lo,X,V,K⟩:=k.sign hb hz L;have hp:=k.part O;have H:=k.len;obtain⟨a1,a2,a3,a4,a5,a6,Q⟩:=h;have hd:Ig.Qm a (j+n)=top:=by rw[Gi a4 (aq _),k.tp]
 rw[ai O]at Q;have u:=JJ (b:=b) O F;have s:=Kl (b:=b) O F;rw[hn]at s;have Y:=pow_pos (b:=b) O n;have E:dv b (a.set (j+n) (top+c))=dv b U-b^j*((t-1)*dv b v):=by
  rw[Rk b O,hd];have e:=k.h;generalize b^(j+n)=p at *
  generalize b^j=q at *
  grind
 have A:(a.set (j+n) (top+c)).take j=U.take j:=by
  rw[aI O,a3,k.lo]
 have f:dv b ((a.set (j+n) (top+c)).drop j)=dv b (U.drop j)-(t-1)*dv b v:=by
  have e:=E;rw[Wz b _ j,Wz b U j,A]at e;have hq:=pow_pos (b:=b) O j;have C:b^j*dv b ((a.set (j+n) (top+c)).drop j)=b^j*(dv b (U.drop j)-(t-1)*dv b v):=by
   rw[bD];generalize b^j*dv b ((a.set (j+n) (top+c)).drop j)=x at *;generalize b^j*dv b (U.drop j)=y at *;omega
  exact eO O C
 have G:dv b (D.drop j)<0:=by
  rw[K];have:b^n*top<=b^n*(-1):=ah O O;omega
 have m:dv b ((a.set (j+n) (top+c)).drop j)<dv b v:=by
  rw[f,bV,aT];omega
 have B:0<=dv b ((a.set (j+n) (top+c)).drop j):=by rw[f];omega
 have z:dv b ((a.set (j+n) (top+c)).drop j)=dv b ((a.drop j).take n)+b^n*(top+c):=by
  have i:=congrArg (dv b) (jE (l:=a.set (j+n) (top+c)) (j:=j) (n:=n) tK);have N:(a.set (j+n) (top+c)).drop (j+n+1)=a.drop (j+n+1):=aU O;rw[YD,Vi,Br (show j+n<a.length by omega),if_pos rfl,N]at i;have:dv b (a.drop (j+n+1))=0:=by
   rw[<-aG,a4,aG,k.hi];exact hz
  have C:((a.set (j+n) (top+c)).drop j).take n=(a.drop j).take n:=by
   rw[bY,if_neg O,bj,aI (aq _)]
  rw[this,C,show((a.drop j).take n).length=n by simp;omega]at i;simpa using i
 have o:DG b ((a.drop j).take n):=by
  have:=((a2.drop j).take n);rw[bY,if_neg O,bj,aI (aq _)]at this;exact this
 have Z:=JJ (b:=b) O o;have P:=Kl (b:=b) O o;rw[show((a.drop j).take n).length=n by simp;omega]at P;have w:top+c=0:=by
  rw[z]at m B;have T:¬1<=top+c:=λq=>by
   have:b^n*1<=b^n*(top+c):=ah q O;omega
  have S:¬top+c<=-1:=λq=>by
   have:b^n*(top+c)<=b^n*(-1):=ah q O;omega
  omega
 refine⟨?_,m,E,?_,tK⟩
 ·rw[w];exact a2
 rcases bG (t-1) 0 with q | q
 ·exfalso;have R:=JJ (b:=b) O (M.drop j);have:t*dv b v<=0:=Int.mul_nonpos_of_nonpos_of_nonneg O u;omega
 exact q
end Ig
namespace Go.Proofs.YtjcphjpkimmmjaaGreatDoor
variable{c f z zx:Int}{x:Rat}{y:Operand}{cap i k m n:Nat}{cs:List Value}{T yT:TypeId}{a b l o out u:List Int}{α:Type}{s:List UInt8}{w:World}{F:Gs}{ra rb:Sr}
open Go.RowKit Ig
def dJ(f:DG B9 b)(c:NZ b)(hn:b.length=n+1):1<=Qm b n/\1<=B9/(Qm b n+1)/\B9/(Qm b n+1)<B9/\B9/(Qm b n+1)*(Qm b n+1)<=B9:=by
 have hd:=f.Qm XY n;have h1:1<=Qm b n:=by
  have a:n<b.length:=O;have:Qm b n≠0:=by
   intro e;refine c ?_;rw[List.getLast?_eq_getElem?,hn,ee,aZ a];rw[Z9 a]at e;rw[e]
  omega
 have h9:B9=1000000000:=rfl;refine⟨h1,?_,?_,Int.ediv_mul_le _ O⟩
 ·exact(Int.le_ediv_iff_mul_le O).2 O
 exact bU O (by rw[bF];have:B9*1<=B9*Qm b n:=ah h1 O;omega)
def QE7{v:List Int}(i:DG B9 b)(k:NZ b)(hn:b.length=n+1)(a:DG B9 v)(j:NZ v)(h:dv B9 v=dv B9 b*f)(h1:1<=f)(h2:f*(Qm b n+1)<=B9):v.length=n+1:=by
 have o:n<b.length:=O;have w:dv B9 b=dv B9 (b.take n)+B9^n*Qm b n:=by
  have:=Hk B9 b n;rw[ai O]at this;exact this
 have u:=Kl XY (i.take n);rw[show(b.take n).length=n by simp;omega]at u;have s:B9^n<=dv B9 b:=by
  have:=Rm XY i k (by intro e;rw[e]at hn;simp at hn);rw[hn,ee]at this;exact this
 have hp:=pow_pos XY n;have c:dv B9 b<B9^n*(Qm b n+1):=by rw[bF,eD];omega
 have l:dv B9 v<B9^(n+1):=by
  rw[h,aO];have:dv B9 b*f<B9^n*(Qm b n+1)*f:=eI c O;have q:B9^n*(Qm b n+1)*f<=B9^n*B9:=by
   rw[bN,aJ (Qm b n+1)];exact ah h2 O
  omega
 have m:B9^n<=dv B9 v:=by
  rw[h];have:dv B9 b*1<=dv B9 b*f:=ah h1 O;omega
 rcases Nat.lt_trichotomy v.length (n+1)with g | g | g
 ·have h3:=Kl XY a;have h4:=Ig.X0 (b:=B9) tF (show v.length<=n by omega);omega
 ·exact g
 have h3:=Rm XY a j (by intro e;rw[e]at g;simp at g);have h4:=Ig.X0 (b:=B9) tF (show n+1<=v.length-1 by omega);omega
def QHj{b:Int}(hb:0<b){U:List Int}{k:Nat}(a:DG b U):b^k*dv b (U.drop k)<=dv b U:=by
 rw[Wz b U k];have:=JJ hb (a.take k);omega
structure Ce(a v:List Int)(f:Int)(n:Nat) where
 k:Nat
 U:List Int
 Q:List Int
 le:k+n<=a.length+1
 lu:U.length=a.length+1
 lq:Q.length=a.length+1-n
 du:DG B9 U
 dq:DG B9 Q
 lt:dv B9 (U.drop k)<dv B9 v
 h:dv B9 a*f=dv B9 v*(B9^k*dv B9 (Q.drop k))+dv B9 U
def Ce.start{a b v U:List Int}{f:Int}{n:Nat}(m:DG B9 a)(l:DG B9 b)(i:NZ b)(hn:b.length=n+1)(j:dv B9 v=dv B9 b*f)(h1:1<=f)(du:DG B9 U)(lu:U.length=a.length+1)(g:dv B9 U=dv B9 a*f)(o:n+1<=a.length+1):Ce a v f (n+1) where
 k:=a.length+1-(n+1)
 U:=U
 Q:=aX (a.length+1-(n+1)) 0
 le:=O
 lu:=lu
 lq:=tJ
 du:=du
 dq:=DG.replicate XY _
 lt:=by
  have c:B9^n<=dv B9 b:=by
   have:=Rm XY l i (by intro e;rw[e]at hn;simp at hn);rw[hn,ee]at this;exact this
  have h2:=QHj XY (k:=a.length-n) du;have h3:=Kl XY m;have h4:dv B9 a*f<B9^a.length*f:=eI h3 O;have h5:B9^a.length*f=B9^(a.length-n)*(B9^n*f):=by rw[<-bN,<-eC];congr 2;omega
  rw[g]at h2;have h6:B9^(a.length-n)*dv B9 (U.drop (a.length-n))<B9^(a.length-n)*(B9^n*f):=O;have h7:dv B9 (U.drop (a.length-n))<B9^n*f:=eN h6 (tD<|pow_pos XY (a.length-n));have h8:B9^n*f<=dv B9 b*f:=ax c O;rw[show a.length+1-(n+1)=a.length-n by omega,j];omega
 h:=by
  rw[bp tJ,yi,eu,eu,fy,g]
def Ce.zero{v:List Int}(i:Ce a v f n)(b:DG B9 v)(c:v.length=n):dv B9 (i.U.drop (i.k+n))=0:=by
 have:=Kl XY b;rw[c]at this;exact QDv TL i.du (fz i.lt this)
def Ce.ue{v:List Int}(i:Ce a v f (m+2))(b:DG B9 v)(g:0<Qm v (m+1))(c:v.length=m+2)(hk:0<i.k):Hp B9 ((i.U.drop (i.k-1)).take (m+3)) v m/\dv B9 (i.U.drop (i.k-1))=dv B9 ((i.U.drop (i.k-1)).take (m+3)):=by
 have hz:=i.zero b c;have l:=i.le;have h:=i.lu;have e:dv B9 (i.U.drop (i.k-1))=dv B9 ((i.U.drop (i.k-1)).take (m+3)):=by
  have:=Wz B9 (i.U.drop (i.k-1)) (m+3);rw[aG,show i.k-1+(m+3)=i.k+(m+2) by omega,hz]at this;simpa using this
 refine⟨⟨(i.du.drop _).take _,b,tK,c,g,?_⟩,e⟩;rw[<-e,Xr O,Vi,show i.k-1+1=i.k by omega];have hd:=i.du.Qm XY (i.k-1);have j:=i.lt;have:B9*dv B9 (i.U.drop i.k)<=B9*(dv B9 v-1):=ah O tF;rw[bD,eD]at this;omega
def Ce.next{a v:List Int}{f:Int}{n:Nat}(i:Ce a v f n)(hk:0<i.k)(hn:0<n){b:List Int}{t:Int}(t0:0<=t)(c:t<B9)(h1:DG B9 b)(h2:dv B9 (b.drop (i.k-1))<dv B9 v)(h3:dv B9 b=dv B9 i.U-B9^(i.k-1)*(t*dv B9 v))(h4:b.length=i.U.length):Ce a v f n where
 k:=i.k-1
 U:=b
 Q:=i.Q.set (i.k-1) t
 le:=tD i.le
 lu:=by rw[h4,i.lu]
 lq:=by rw[ar,i.lq]
 du:=h1
 dq:=i.dq.set _ t0 c
 lt:=h2
 h:=by
  have j:=i.le;have g:=i.lq;rw[h3,Xr (l:=i.Q.set (i.k-1) t) (by rw[ar];omega),Vi,Br O,if_pos rfl,aU O,show i.k-1+1=i.k by omega,i.h];have e:B9^i.k=B9^(i.k-1)*B9:=by rw[<-aO];congr 1;omega
  rw[e];generalize B9^(i.k-1)=p;generalize dv B9 (i.Q.drop i.k)=q;generalize dv B9 i.U=u;generalize dv B9 v=y;generalize B9=B
  grind
theorem Ce.stop{v:List Int}(i:Ce a v f n)(hk:i.k=0)(x:DG B9 b)(y:DG B9 a)(l:dv B9 v=dv B9 b*f)(h1:1<=f)(hb:0<dv B9 b)(j:DG B9 v)(o:v.length=n):
  dv B9 i.Q=dv B9 a/dv B9 b/\dv B9 (i.U.take n)=f*(dv B9 a%dv B9 b):=by
 have h:=i.h;have lt:=i.lt;rw[hk,bm]at lt;have hz:=i.zero j o;rw[hk,aR]at hz;have e0:dv B9 (i.U.take n)=dv B9 i.U:=by
  rw[Wz B9 i.U n,hz];simp
 rw[hk,bm,Int.pow_zero,aT,l]at h;rw[l]at lt;have s:=JJ XY i.du;rw[e0];have m:dv B9 i.U=f*(dv B9 a-dv B9 b*dv B9 i.Q):=by rw[bD];grind
 have c:f*(dv B9 a-dv B9 b*dv B9 i.Q)<f*dv B9 b:=by rw[<-m,aJ f (dv B9 b)];exact lt
 have u:dv B9 a-dv B9 b*dv B9 i.Q<dv B9 b:=eN c O;have w:0<=dv B9 a-dv B9 b*dv B9 i.Q:=by
  rcases bG (dv B9 a-dv B9 b*dv B9 i.Q) 0 with g | g
  ·have:f*(dv B9 a-dv B9 b*dv B9 i.Q)<=f*(-1):=ah O O;omega
  exact g
 have q:dv B9 a/dv B9 b=dv B9 i.Q:=YE hb (by rw[aJ];omega) (by rw[bW,aT,aJ];omega);refine⟨q.symm,?_⟩;rw[m];have:=fA (dv B9 a) (dv B9 b);rw[this,q]
section
variable[Dr][df:Df]{P:Program}{Q:Exit->Act->World->Prop}{N:Nat}{m:Sl}{ops:Array Oper}{l:List Oper}{w0:World}{F0:Gs}{bs:List (Nat×Obj)}{G:Gs->Prop}{ty:TypeId}{pos:String}{aft:Array Edge}
theorem Q8.big{sz:Nat}{v:Value}{ob:List (Nat×Obj)}(hr:Q8 T sz v n cs ob)(hn:0<n):∃b cap rest,v = .slice (Option.some ⟨b,0,Option.none⟩) n cap/\ob=[(b,.cells (cs++rest).toArray T (0,0))]/\n<=cap:=by
 cases hr with
 |nil=>exact absurd hn (Nat.lt_irrefl 0)
 |some h1 h2 h3 h4=>exact⟨_,_,_,rfl,rfl,h3⟩
theorem Src.QI5{sz b off c:Nat}{news:List Value}(hr:∀F,G F->Qy F (some ⟨b,off,none⟩) k sz news)(hk:0<k)(g:news.length=k*sz):Src ⟨w0,F0,bs,G⟩ sz (.slice (.some ⟨b,off,none⟩) k c) k news :=
 ⟨g,.inr ⟨_,_,rfl,λw a j v f=>by rw[BP];exact W3 a hr hk f⟩⟩
end
theorem J8.own{b c:Nat}{rest:List Value}(h:F b=some ((l.map Jo++rest).toArray,T))(a:l.length=n)(hn:n<=c):J8 F ⟨some ⟨b,0,none⟩,n,c⟩ l:=by
 refine⟨⟨by simp[a],λ_=>⟨b,0,_,T,rfl,h,λj u hu=>?_⟩⟩,a,hn⟩;have f:j<(l.map Jo).length:=by rcases aN j (l.map Jo).length with g | g;exact g;rw[eT g]at hu;cases hu
 rw[aR,aF,List.getElem?_append,if_pos f];exact hu
def J8.QI8{b c:Nat}(h:F b=some ((l.map Jo).toArray,T))(a:l.length=n)(hn:n<=c):J8 F ⟨some ⟨b,0,none⟩,n,c⟩ l:=J8.own (rest:=[]) (by rw[fg];exact h) a hn
def J8.one{b:Nat}{x:Int}(h:F b=some (([ae .i64 x]:List Value).toArray,T)):J8 F ⟨some ⟨b,0,none⟩,1,1⟩ [x]:=⟨Qy.of h rfl,rfl,aq _⟩
def J8.take{q:Option Addr}{c:Nat}(h:J8 F ⟨q,n,c⟩ l)(hk:k<=n):J8 F ⟨q,k,c⟩ (l.take k):=by
 have hn:=h.2.1;have hc:=h.2.2;dsimp only at hn hc;exact⟨h.1.take hn hk,tK,by show k<=c;omega⟩
def RT{m:List Int}(b:DG B9 l)(hm:DG B9 m)(a:NZ l)(h:dv B9 l<=dv B9 m):l.length<=m.length:=by
 rcases aN m.length l.length with g | g
 ·have:=ZQ TL hm b a g;omega
 exact g
def QCE(x:Int):dv B9 [x]=x:=by simp[dv]
def QEp{x r t:Int}(a:0<f)(h:f*x=f*r+t)(h0:0<=t)(h1:t<f):r=x:=by
 have e:t=f*(x-r):=by rw[bD];omega
 rcases Int.lt_trichotomy (x-r) 0 with g | g | g
 ·have:f*(x-r)<=f*(-1):=ah O O;omega
 ·omega
 have:f*1<=f*(x-r):=ah O O;omega
def QG8(a b:List Int)(c:(Sr×List Int)×(Sr×List Int))(F:Gs):Prop :=
 (J8 F c.1.1 c.1.2/\DG B9 c.1.2/\NZ c.1.2/\dv B9 c.1.2=dv B9 a/dv B9 b)/\(J8 F c.2.1 c.2.2/\DG B9 c.2.2/\NZ c.2.2/\dv B9 c.2.2=dv B9 a%dv B9 b)
theorem QGQ(nb:b.length=1)(g:DG B9 b)(c:(Sr×List Int)×Int){k:Nat}
  (h:J8 F c.1.1 c.1.2/\DG B9 c.1.2/\NZ c.1.2/\0<=c.2/\c.2<Qm b 0/\dv B9 a=Qm b 0*dv B9 c.1.2+c.2/\c.1.2.length<=a.length) (f:J8 F ⟨some ⟨k,0,none⟩,(Jf [c.2]).length,1⟩ (Jf [c.2])) :
  QG8 a b ((c.1.1,c.1.2),(⟨some ⟨k,0,none⟩,(Jf [c.2]).length,1⟩,Jf [c.2])) F:=by
 obtain⟨h1,h2,h3,h4,h5,h6,_⟩:=h;have e:dv B9 b=Qm b 0:=by
  obtain⟨x,rfl⟩:=List.length_eq_one_iff.1 nb;simp[dv,Qm]
 have i:=g.Qm XY 0;refine⟨⟨h1,h2,h3,?_⟩,f,(DG.cons h4 O (DG.nil _)).Jf,Zu _,?_⟩
 ·show dv B9 c.1.2=_;rw[e];exact(YE O (by rw[aJ];omega) (by rw[bW,aT,aJ];omega)).symm
 show dv B9 (Jf [c.2])=_;rw[ZH,QCE,e,YQ (q:=dv B9 c.1.2) (by rw[aJ];omega) (by rw[bW,aT,aJ];omega),aJ];omega
structure QJT(a:List Int)(f:Int) where
 U:List Int
 v:Value
 ob:List (Nat×Obj)
 le:U.length<=a.length+1
 du:DG B9 U
 h:dv B9 U=dv B9 a*f
 hr:Q8 3 1 v U.length (U.map Jo) ob
structure QJO(U v:List Int)(j:Nat)(t:Int) where
 i:Nat
 U':List Int
 br:Int
 le:i<=v.length
 h:vC B9 U v j t i U' br
structure QJc(U v:List Int)(j n:Nat) where
 i:Nat
 U':List Int
 c:Int
 le:i<=n
 h:Ig.IU B9 U v j n i U' c
@[reducible] def QIt (c:(Sr×List Int)×(Sr×List Int)):Value:=.tuple #[.slice c.1.1.q c.1.1.n c.1.1.cap,.slice c.2.1.q c.2.1.n c.2.1.cap]
set_option maxHeartbeats 4000000 in
theorem T2(hF:Fits F w)(hA:J8 F ra a)(hB:J8 F rb b)(N:DG B9 a)(E:DG B9 b)(za:NZ a)(zb:NZ b)(hb:0<dv B9 b)(la:a.length<=10000000)(lb:b.length<=10000000):
  QU prog 190 [ra.v,rb.v] w F QIt (λc F=>QG8 a b c F):=by
 obtain⟨q,n,c⟩:=ra;obtain⟨q',P,c'⟩:=rb;have na:=hA.2.1;have nb:=hB.2.1;dsimp only at na nb;have h9:B9=1000000000:=rfl;have nb0:0<P:=by
  rcases aB P with g | g
  ·rw[g]at nb;rw[ak nb]at hb;simp at hb
  exact g
 dsimp only[Sr.v];refine QU.intro (G:=λF=>J8 F ⟨q,n,c⟩ a/\J8 F ⟨q',P,c'⟩ b) func190 rfl tH rfl rfl hF (λF' hF'=>⟨hA.le hF',hB.le hF'⟩)<|wa<|wX rfl<|wZ rfl<|QG<|wb rfl<|wW rfl<|QI rfl (λ_ _ f k=>Su f (ra:=⟨q,n,c⟩) (rb:=⟨q',P,c'⟩) k.1 (k.2) (N) (E) (za) (zb) O O) λ_=>QA (QT rfl rfl rfl)<|QE<|QC ?_
 refine QQ I (λhc=>?_) λhc=>?_
 ·have hlt:dv B9 a<dv B9 b:=by have:=wi hc;unfold YF at this;split at this;assumption;split at this<;>omega
  refine wA 8 I ?_;exact Je (((⟨none,0,0⟩,[]),(⟨q,n,c⟩,a)):(Sr×List Int)×(Sr×List Int)) I (wU I I) (rfl) λF h9=>⟨⟨⟨Qy.nil F _ _,rfl,aq _⟩,DG.nil _,by simp[NZ],by rw[yi];exact(Int.ediv_eq_zero_of_lt (JJ XY N) hlt).symm⟩,h9.1.1,N,za,(Int.emod_eq_of_lt (JJ XY N) hlt).symm⟩
 have hge:dv B9 b<=dv B9 a:=by have:=wj hc;unfold YF at this;split at this;exact absurd this tF;omega
 refine wC 6 I<|QA (Qg I Q2)<|wD 3 I ?_
 refine QQ I (λhc=>?_) λhc=>?_
 ·have hn1:P=1:=tD<|wi hc
  subst hn1;obtain⟨f1,_⟩:=dJ (n:=0) E zb nb;have bx:=E.Qm XY 0;have d0:=bx.2;refine wA 4 I<|QA (Q3 (n:=1) (0) (λF h9=>(h9.1.2).1) rfl wS Q2 JK O)<|QA (JA (n:=1) ((0)*1) (λF h9=>(h9.1.2).1) O rfl JK (Jz (o:=b) O))<|QI I (λ_ _ f k=>jF f (ra:=⟨q,n,c⟩) k.1.1 (N) O O (d0)) λH=>wD 8 I<|XV _ (λ_ _ f k=>k.2.2) λp37=>wA 3 I<|Qb I (Q5 Q2) JK R4 I I λb42=>QI I (λ_ _ f k=>Tx f (r:=⟨some ⟨b42,0,none⟩,1,1⟩) (J8.one k.2) tJ) λc43=>wD 4 I ?_
  refine QX ?_;exact Je (((H.1.1,H.1.2),(⟨some ⟨b42,0,none⟩,(Jf [H.2]).length,1⟩,Jf [H.2])):(Sr×List Int)×(Sr×List Int)) I (wU I I) (rfl) λF h9=>QGQ nb E H h9.1.1.2 h9.2
 have hn2:P≠1:=λe=>wj hc O;obtain⟨m,rfl⟩:∃m,P=m+2:=⟨P-2,O⟩;obtain⟨f1,f2,f3,f4⟩:=dJ (n:=m+1) E zb nb;have bx:=E.Qm XY (m+1);rw[h9]at bx f2 f3 f4;have d1f:DG B9 [1000000000/(Qm b (m+1)+1)]:=DG.cons O f3 (DG.nil _);refine wC 6 I<|QA (Qg I Q2)<|QA (X3 I I O)<|QA (Q3 (n:=(m+2)) (m+1) (λF h9=>(h9.1.2).1) rfl wS Q2 JK O)<|QA (JA (n:=(m+2)) ((m+1)*1) (λF h9=>(h9.1.2).1) O rfl JK (Jz (o:=b) O))<|QA (Qu I I O)<|QA (SO I I O O O)<|Qb I (Q5 Q2) JK R4 I I λb52=>wD 7 I ?_
 refine QI I (λ_ _ f k=>Tz f (ra:=⟨q',m+2,c'⟩) (rb:=⟨some ⟨b52,0,none⟩,1,1⟩) k.1.1.2 (J8.one k.2) (E) (d1f) O (by first | omega | (simp;done) | (simp;omega))) (λc55=>?_);rcases c55 with ⟨v55,s⟩;dsimp only;refine JQ _ (λw F hF ⟨⟨⟨⟨hA,hB⟩,_⟩,hs52⟩,⟨h55,S⟩⟩=>aM h55.2 S) (λp55=>wZ rfl<|QG ?_);obtain⟨⟨n55,c55⟩,A,M,z55,m55⟩:=p55;rw[QCE]at M;have y:s.length=m+2:=QE7 E zb nb A z55 M f2 f4;obtain⟨qv,nv,cv⟩:=v55;dsimp only at n55 c55 ⊢;obtain rfl:nv=m+2:=O;have zv:0<Qm s (m+1):=tD ((dJ (n:=m+1) A z55 y).1);have hlab:b.length<=a.length:=RT E N zb hge;refine wA 2 I<|QA (Qg I Q2)<|wD 5 I<|Gf (Q5 Q2) JK λb58=>wB 2 I ?_
 refine QI I (λ_ _ f k=>Tz f (ra:=⟨q,n,c⟩) (rb:=⟨some ⟨b52,0,none⟩,1,1⟩) k.1.1.1.1 (J8.one k.1.2) (N) (d1f) O (by first | omega | (simp;done) | (simp;omega))) (λc61=>?_);rcases c61 with ⟨v61,K⟩;dsimp only;refine JQ _ (λw F hF ⟨⟨⟨⟨⟨hA,hB⟩,_⟩,hs52⟩,⟨h55,S⟩⟩,⟨h61,h61p⟩⟩=>aM h61.2 h61p) (λp61=>?_);obtain⟨⟨n61,c61⟩,d61,Z,z61,m61⟩:=p61;rw[QCE]at Z;have hpos:0<K.length:=by
  rcases aB K.length with g | g
  ·rw[ak g,yi]at Z;have:0<dv B9 a*(1000000000/(Qm b (m+1)+1)):=Int.mul_pos O O;omega
  exact g
 obtain⟨qa,na',ca⟩:=v61;dsimp only at n61 c61 ⊢;refine JQ _ (λ_ _ f h=>h.2.1.1.ptr (by dsimp only;omega)) (λhq=>?_);obtain⟨qab,qao,hq⟩:=hq;dsimp only at hq;subst hq;simp only[aK]at m61;refine Z4 (bs1:=[]) (ob:=[(b58,.cells #[] 3 (0,0))]) (n:=0) (k:=na') (sz:=1) (olds:=[]) (news:=K.map Jo) rfl rfl Q2 JK R4 rfl F6 (Q8.some (l:=[]) (rest:=[]) rfl rfl (aq _) (aE _)) (Src.QI5 (λF h=>h.2.1.1) O tK) O O (λv hv=>by obtain⟨x,_,rfl⟩:=List.mem_map.1 hv;rfl) (λv62 ob62 hr62=>wD 5 I<|JU (ι:=QJT a (1000000000/(Qm b (m+1)+1))) [(0,_),(8,_),(9,_),(10,_)] (λi=>[(11,i.v)]) (λi=>i.ob) (λi F=>True) (λi=>a.length+1-i.U.length) (⟨K,v62,ob62,O,d61,Z,by rw[n61];simpa using hr62⟩) wv wk we tL λi=>?_);simp only[ab,af];have hle:=i.le;refine wA 4 I<|QA (Oz I i.hr Q2)<|wW I<|QA (Qg I Q2)<|QA (Qu I I O)<|wD 3 I ?_
 refine QQ I (λhc=>?_) λhc=>?_
 ·refine wC 5 I<|Qb I (Q5 Q2) JK R4 I I λb70=>?_
  refine Z4 (bs1:=[]) (ob:=i.ob) (k:=1) (sz:=1) (news:=[.int .i64 0]) I I Q2 JK R4 I F6 i.hr (Src.row (off:=0) tO (λj v hv=>by rw[aR];show([.int .i64 0].toArray)[j]?=some v;rw[aF];exact hv) rfl) O O (Kd wk) (λv71 ob71 hr71=>?_);refine wB 2 I<|Qj ?_
  exact Ql (⟨i.U++[0],v71,ob71,by have:=wi hc;simp;omega,i.du.append (DG.cons tF tF (DG.nil _)),by rw[X9,i.h];simp,by simpa[Jo]using hr71⟩) (by have:=wi hc;show a.length+1-(i.U++[0]).length<a.length+1-i.U.length;rw[aA,aK];omega) wy we λF h=>⟨h.1.1,trivial⟩
 refine Qx ?_
 repeat first|refine QY ?_|refine QO tH ?_
 refine QZ<|QC<|QG ?_
 have R:=i.le;have hU:i.U.length=a.length+1:=tD<|wj hc
 obtain⟨U0,vU,obU,R,du0,hU0,hr0⟩:=i;dsimp only at hU R hU0 ⊢;rw[hU]at hr0;obtain⟨bu,cu,rest,rfl,rfl,hcu⟩:=hr0.big O;refine wA 2 I<|QA (Qg I Q2)<|wW I<|QA (X3 I I O)<|Mm (n:=a.length+1-(m+2)) (bytes:=8) wS wS Q2 JK R4 I F6 O O λbq=>?_
 rw[show Xg [ae .i64 0] (a.length+1-(m+2))=(aX (a.length+1-(m+2)) (0:Int)).map Jo by rw[Ti];simp[Jo]];refine ZL (List.Perm.swap _ _ _)<|wD 7 I<|QA (Qg I Q2)<|wW I<|QA (X3 I I O)<|QA (X3 I I O)<|wD 4 I<|JU (ι:=Ce a s (1000000000/(Qm b (m+1)+1)) (m+2)) [(8,_),(9,_),(10,_),(11,_),(12,_)] (λi2=>[(13,.int .i64 ((i2.k:Int)-1))]) (λi2=>[(bu,.cells (i2.U.map Jo++rest).toArray 3 (0,0)),(bq,.cells (i2.Q.map Jo).toArray 3 (0,0))]) (λi2 F=>True) (λi2=>i2.k) (Ce.start N E zb nb M f2 du0 hU hU0 O) wy ⟨(congrArg (λz:Int=>some (ae .i64 z)) (by simp only[Ce.start];omega)),trivial⟩ we tL λi2=>?_
 simp only[ab,af];have hle2:=i2.le;have lu2:=i2.lu;have lq2:=i2.lq;refine wA 7 I ?_;refine QQ I (λhc=>?_) λhc=>?_
 ·have C:0<i2.k:=tD<|wi hc
  rw[show((i2.k:Int)-1)=((i2.k-1:Nat):Int) by omega];obtain⟨hst,hwe⟩:=i2.ue A zv y C;have hz0:=i2.zero A y;refine wC 9 I<|XX (bs1:=_) rfl (bC _) (QEn (rest:=rest) (U:=i2.U) (v:=s) (j:=(i2.k-1)) (m:=m) (rv:=⟨qv,m+2,cv⟩) lu2 O O (λF h9=>h9.1.1.1.2.1) hst) λu=>JQ _ (λ_ _ f h=>h.2) λg89=>?_
  obtain⟨t0,t1,t2,t3⟩:=g89;rw[<-hwe]at t2 t3;refine wD 15 I<|JU (ι:=QJO i2.U s (i2.k-1) u) [(8,_),(9,_),(10,_),(11,_),(12,_),(13,_),(14,_)] (λi3=>[(15,.int .i64 (i3.br)),(16,.int .i64 ((i3.i:Nat):Int))]) (λi3=>[(bu,.cells (i3.U'.map Jo++rest).toArray 3 (0,0)),(bq,.cells (i2.Q.map Jo).toArray 3 (0,0))]) (λi3 F=>True) (λi3=>s.length-i3.i) (⟨0,i2.U,0,aE _,vC.start tF i2.du _ _⟩) w6 wm we tL λi3=>?_
  simp only[ab,af];have hle3:=i3.le;have lU3:=i3.h.len;have br0:=i3.h.br0;have br1:=i3.h.br1;rw[h9]at br1;refine wA 8 I ?_;refine QQ I (λhc=>?_) λhc=>?_
  ·have hi3:i3.i<m+2:=tD<|wi hc
   have bd:=QGC TL ⟨t0,t1⟩ (A.Qm XY i3.i) ⟨i3.h.br0,i3.h.br1⟩;simp only[h9]at bd;have bu3:=i3.h.dg.Qm XY ((i2.k-1)+i3.i);rw[h9]at bu3;have D:Qm i3.U' ((i2.k-1)+i3.i)=Qm i2.U ((i2.k-1)+i3.i):=Gi i3.h.hi (aq _);refine wC 9 I<|QA (Q3 (n:=(m+2)) (i3.i) (λF h9=>(h9.1.1.1.1.1.2.1).1) rfl rfl Q2 JK O)<|QA (JA (n:=(m+2)) ((i3.i)*1) (λF h9=>(h9.1.1.1.1.1.2.1).1) O rfl JK (Jz (o:=s) O))<|QA (Mx I I O)<|wW I<|QA (Qu I I O)<|wD 8 I<|QA (Qu I I O)<|QA (JL (i:=(i2.k-1)+i3.i) rfl wS Q2 JK O)<|QA (V1 (c:=(i3.U').map Jo++rest) (T':=3) rfl JK .here (WR (by first | omega | (simp only[ar];omega)))) ?_
   refine wW I<|QA (H9 I I O O)<|QA (X3 I I O)<|wD 6 I<|QA (SO I I O O O)<|wD 10 I ?_
   refine QQ I (λhc=>?_) λhc=>?_
   ·have hx:=wi hc;refine wb I<|QA (Qu I I O)<|wD 5 I<|QA (Qu I I O)<|wD 7 I<|QA (Qu I I O)<|wW I<|QA (JL (i:=(i2.k-1)+i3.i) rfl wS Q2 JK O)<|QW (vs:=[_]) I I I JK I .here (BB (by first | omega | (simp only[ar];omega)) (((Qm (i3.U') ((i2.k-1)+i3.i)-(((u*Qm s (i3.i))+i3.br)%1000000000))+1000000000))) wk<|QE<|Qj<|QC<|QB ?_
    refine wW I<|QA (Qu I I O)<|wB 2 I ?_
    exact Ql (⟨i3.i+1,((i3.U').set ((i2.k-1)+i3.i) (((Qm (i3.U') ((i2.k-1)+i3.i)-(((u*Qm s (i3.i))+i3.br)%1000000000))+1000000000))),((((u*Qm s (i3.i))+i3.br)/1000000000)+1),O,i3.h.step O (by rw[h9];omega) (by rw[h9];omega) (by rw[h9,<-D];omega)⟩) (by show s.length-(i3.i+1)<s.length-i3.i;omega) w9 we λF h=>⟨h.1,trivial⟩
   have hx:=wj hc;refine wC 6 I<|QA (Qu I I O)<|wW I<|QA (JL (i:=(i2.k-1)+i3.i) rfl wS Q2 JK O)<|QW (vs:=[_]) I I I JK I .here (BB (by first | omega | (simp only[ar];omega)) ((Qm (i3.U') ((i2.k-1)+i3.i)-(((u*Qm s (i3.i))+i3.br)%1000000000)))) wk<|QE<|Qj<|wE 3 I<|QA (Qu I I O)<|wB 2 I ?_
   exact Ql (⟨i3.i+1,((i3.U').set ((i2.k-1)+i3.i) ((Qm (i3.U') ((i2.k-1)+i3.i)-(((u*Qm s (i3.i))+i3.br)%1000000000)))),(((u*Qm s (i3.i))+i3.br)/1000000000),O,i3.h.step O (by rw[h9];omega) (by rw[h9];omega) (by rw[h9,<-D];omega)⟩) (by show s.length-(i3.i+1)<s.length-i3.i;omega) w9 we λF h=>⟨h.1,trivial⟩
  have hi3:i3.i=m+2:=tD<|wj hc
  refine Qx ?_
  repeat first|refine QY ?_|refine QO tH ?_
  refine QZ<|QC<|QG ?_
  have hs3:vC B9 i2.U s (i2.k-1) u (m+2) i3.U' i3.br:=by have:=i3.h;rw[hi3]at this;exact this
  have D:Qm i3.U' ((i2.k-1)+(m+2))=Qm i2.U ((i2.k-1)+(m+2)):=Gi hs3.hi (aq _);have hS:=hs3.stop TL y O;rw[<-D]at hS;have bu4:=i2.du.Qm XY ((i2.k-1)+(m+2));rw[h9,<-D]at bu4;have X:=hS.tp;have hz1:dv B9 (i2.U.drop ((i2.k-1)+(m+2)+1))=0:=by rw[show(i2.k-1)+(m+2)+1=i2.k+(m+2) by omega];exact hz0
  refine wA 4 I<|QA (Qu I I O)<|wB 3 I<|QA (Qu I I O)<|QA (JL (i:=(i2.k-1)+(m+2)) I wS Q2 JK O)<|QA (V1 (c:=(i3.U').map Jo++rest) (T':=3) rfl JK .here (WR (by first | omega | (simp only[ar];omega))))<|wW I<|QA (X3 I I O)<|QA (JL (i:=(i2.k-1)+(m+2)) I wS Q2 JK O)<|QW (vs:=[_]) I I I JK I .here (BB (by first | omega | (simp only[ar];omega)) ((Qm (i3.U') ((i2.k-1)+(m+2))-i3.br))) wk<|wD 8 I<|QA (Qu I I O)<|QA (JL (i:=(i2.k-1)+(m+2)) I wS Q2 JK O) ?_
  refine QA (V1 (c:=(((i3.U').set ((i2.k-1)+(m+2)) ((Qm (i3.U') ((i2.k-1)+(m+2))-i3.br)))).map Jo++rest) (T':=3) rfl JK .here (WR (by first | omega | (simp only[ar];omega))))<|wD 3 I ?_
  refine QQ I (λhc=>?_) λhc=>?_
  ·have B:Qm i3.U' ((i2.k-1)+(m+2))-i3.br<0:=by have:=wi hc;rw[X]at this;exact this
   refine wb I<|QA (X3 I I O)<|wD 15 I<|JU (ι:=QJc (i3.U'.set ((i2.k-1)+(m+2)) (Qm i3.U' ((i2.k-1)+(m+2))-i3.br)) s (i2.k-1) (m+2)) [(8,_),(9,_),(10,_),(11,_),(12,_),(13,_),(14,_)] (λi4=>[(19,.int .i64 (i4.c)),(20,.int .i64 ((i4.i:Nat):Int))]) (λi4=>[(bu,.cells (i4.U'.map Jo++rest).toArray 3 (0,0)),(bq,.cells (i2.Q.map Jo).toArray 3 (0,0))]) (λi4 F=>True) (λi4=>m+2-i4.i) (⟨0,_,0,aE _,IU.start hS.dg⟩) w6 wm we tL λi4=>?_
   simp only[ab,af];have hle4:=i4.le;have V:=i4.h.len;rw[ar]at V;have c40:=i4.h.c0;have c41:=i4.h.c1;refine wA 8 I ?_;refine QQ I (λhc=>?_) λhc=>?_
   ·have L:i4.i<m+2:=tD<|wi hc
    have bu5:=i4.h.Qm TL L;have bv5:=A.Qm XY i4.i;rw[h9]at bu5 bv5;have hd4:=Gi i4.h.hi (aq _);refine wC 5 I<|JG we mixed tE<|QK (QD I)<|QK (QD I)<|QK (QD I)<|QK (Qu I I O)<|QK (JL (i:=(i2.k-1)+i4.i) rfl wS Q2 JK O)<|QK (V1 (c:=(i4.U').map Jo++rest) (T':=3) rfl JK .here (WR (by first | omega | (simp only[ar];omega))))<|QK (QD I)<|QK (QD I)<|QK (Q3 (n:=(m+2)) (i4.i) (λF h9=>(h9.1.1.1.1.1.1.2.1).1) rfl rfl Q2 JK O)<|QK (JA (n:=(m+2)) ((i4.i)*1) (λF h9=>(h9.1.1.1.1.1.1.2.1).1) O rfl JK (Jz (o:=s) O))<|QK (Qu I I O)<|QK (QD I)<|QK (Qu I I O)<|QK (QF I)<|Q7<|wE 4 I ?_
    refine wB 2 I<|QA (Qu I I O)<|wW I<|QA (H9 I I O O)<|QA (JL (i:=(i2.k-1)+i4.i) rfl wS Q2 JK O)<|QW (vs:=[_]) I I I JK I .here (BB (by first | omega | (simp only[ar];omega)) ((((Qm (i4.U') ((i2.k-1)+i4.i)+Qm s (i4.i))+i4.c)%1000000000))) wk<|wD 4 I<|QA (SO I I O O O)<|wB 2 I<|Qj<|wE 3 I<|QA (Qu I I O)<|wB 2 I ?_
    exact Ql (⟨i4.i+1,((i4.U').set ((i2.k-1)+i4.i) ((((Qm (i4.U') ((i2.k-1)+i4.i)+Qm s (i4.i))+i4.c)%1000000000))),(((Qm (i4.U') ((i2.k-1)+i4.i)+Qm s (i4.i))+i4.c)/1000000000),O,i4.h.step L (by rw[ar];omega) (by rw[h9];omega) O (by rw[h9,<-hd4];omega)⟩) (by show m+2-(i4.i+1)<m+2-i4.i;omega) w9 we λF h=>⟨h.1,trivial⟩
   have L:i4.i=m+2:=tD<|wj hc
   refine Qx ?_
   repeat first|refine QY ?_|refine QO tH ?_
   refine QZ<|QC ?_
   have hA4:Ig.IU B9 (i3.U'.set ((i2.k-1)+(m+2)) (Qm i3.U' ((i2.k-1)+(m+2))-i3.br)) s (i2.k-1) (m+2) (m+2) i4.U' i4.c:=by have:=i4.h;rw[L]at this;exact this
   have Y:Qm i4.U' ((i2.k-1)+(m+2))=Qm i3.U' ((i2.k-1)+(m+2))-i3.br:=by rw[Gi hA4.hi (aq _)];exact X
   have hS5:uL B9 i2.U s (i2.k-1) (m+2) u (i3.U'.set ((i2.k-1)+(m+2)) (Qm i3.U' ((i2.k-1)+(m+2))-i3.br)) (Qm i4.U' ((i2.k-1)+(m+2))):=by rw[Y];exact hS
   obtain⟨g1,g2,g3,g4,g5⟩:=hA4.QHn TL hS5 i2.du A y hz1 O (by rw[Y];exact B) t2;have V:=i4.h.len;rw[ar]at V;have b5:Qm i4.U' ((i2.k-1)+(m+2))=Qm i3.U' ((i2.k-1)+(m+2))-i3.br:=Y;refine wA 4 I<|QA (Qu I I O)<|wB 3 I<|QA (Qu I I O)<|QA (JL (i:=(i2.k-1)+(m+2)) I wS Q2 JK O)<|QA (V1 (c:=(i4.U').map Jo++rest) (T':=3) rfl JK .here (WR (by first | omega | (simp only[ar];omega))))<|wW I<|QA (Qu I I O)<|QA (JL (i:=(i2.k-1)+(m+2)) I wS Q2 JK O)<|QW (vs:=[_]) I I I JK I .here (BB (by first | omega | (simp only[ar];omega)) ((Qm (i4.U') ((i2.k-1)+(m+2))+i4.c))) wk<|wD 6 I<|QA (JL (i:=(i2.k-1)) I wS Q2 JK O)<|QW (vs:=[_]) I I I JK I .u1 (SC (by first | omega | (simp only[ar];omega)) ((u-1))) wk<|QE<|Qj ?_
   refine wE 3 I<|QA (X3 I I O)<|wB 2 I ?_
   exact Ql (i2.next C O (t:=u-1) g4 O g1 g2 g3 g5) (by show i2.k-1<i2.k;omega) wz we λF h=>⟨h.1.1.1.1,trivial⟩
  have B:0<=Qm i3.U' ((i2.k-1)+(m+2))-i3.br:=by have:=wj hc;rw[X]at this;omega
  obtain⟨g1,g2,g3⟩:=hS.QHn TL O B (by rw[h9];omega) t3;refine wC 6 I<|QA (JL (i:=(i2.k-1)) I wS Q2 JK O)<|QW (vs:=[_]) I I I JK I .u1 (SC (by first | omega | (simp only[ar];omega)) (u)) wk<|QE<|Qj<|wE 3 I<|QA (X3 I I O)<|wB 2 I ?_
  exact Ql (i2.next C O (t:=u) t0 t1 g1 g2 g3 hS.len) (by show i2.k-1<i2.k;omega) wz we λF h=>⟨h.1.1.1,trivial⟩
 have C:i2.k=0:=tD<|wj hc
 refine Qx ?_
 repeat first|refine QY ?_|refine QO tH ?_
 refine QZ<|QC<|QG ?_
 obtain⟨s1,s2⟩:=i2.stop C E N M f2 hb A y;have lt40:=Vk (i2.U.take (m+2));rw[av]at lt40;refine DP (b:=bu) .here<|DP (b:=bq) .here<|JG we mixed tE<|QK (QD I)<|QK (QD I)<|QK (NV (m+2) rfl rfl rfl Q2 JK O)<|QR I (λ_ _ f k=>Tx f (r:=⟨some ⟨bu,0,none⟩,m+2,cu⟩) ((J8.own k.1.2 i2.lu hcu).take O) (by rw[av];omega)) λc196=>QK (QD I)<|QK (Q3 (n:=1) (0) (λF h9=>(Qy.of (n:=1) (sz:=1) h9.1.1.1.1.1.1.2 I)) I wS Q2 JK O)<|QK (JA (n:=1) ((0)*1) (λF h9=>(Qy.of (n:=1) (sz:=1) h9.1.1.1.1.1.1.2 I)) O rfl JK I)<|QR I (λ_ _ f k=>jF f (a:=Jf (i2.U.take (m+2))) (ra:=⟨some ⟨bu,0,none⟩,(Jf (i2.U.take (m+2))).length,cu⟩) k.2 ((i2.du.take _).Jf) O (f2) (f3)) λT=>QK (QD I)<|QK (Qa I I)<|QK (Qa I I)<|QK (QF I)<|QK (QF I)<|Q7<|wE 4 I<|QI I (λ_ _ f k=>Tx f (r:=⟨some ⟨bq,0,none⟩,a.length+1-(m+2),a.length+1-(m+2)⟩) (J8.QI8 k.1.1.2 i2.lq (aq _)) O) λc204=>wB 3 I ?_
 refine wY<|QX ?_
 exact Je (((⟨some ⟨bq,0,none⟩,(Jf i2.Q).length,a.length+1-(m+2)⟩,Jf i2.Q),(T.1.1,T.1.2)):(Sr×List Int)×(Sr×List Int)) I (wU I I) (rfl) λF h9=>⟨⟨h9.2,i2.dq.Jf,Zu _,by show dv B9 (Jf i2.Q)=_;rw[ZH];exact s1⟩,h9.1.2.1,h9.1.2.2.1,h9.1.2.2.2.1,QEp O (by rw[<-s2,<-ZH];exact h9.1.2.2.2.2.2.2.1) h9.1.2.2.2.2.1 h9.1.2.2.2.2.2.1⟩
section
variable{P:Program}{N:Nat}{m:Sl}{S:World->Prop}{ty:TypeId}
def vg(P:Program)(T:TypeId):Bool:=match P.underlying T with
 |some .bool=>true
 |_=>false
def QGn(h:vg P T=true):P.underlying T=some .bool:=by
 unfold vg at h;split at h
 ·assumption
 cases h
theorem xO(c:vg P T=true)(a b:Bool)(w:World):(Op.equal T (.bool a) (.bool b)).run P w = .ok (a==b) w:=by
 have e:∃n,Op.maxDepth=n+1:=⟨Op.maxDepth-1,tF⟩;obtain⟨n,e⟩:=e;unfold Op.equal;rw[e];unfold Op.equalIn;simp[run_underlying (QGn c)]
theorem QHV{x:Operand}{a b:Bool}(c:vg P T=true)(hx:ev m x=some (.bool a))(hy:ev m y=some (.bool b)):Qt P N m S (.binOp .eql T x y yT) ty (.bool (a==b)):=λs w _ _ _ _ ha _=>by
 simp only[execOp,ha.ev hx,ha.ev hy,eqGuard,binOp,fC,fB,fa,xO c];rfl
theorem QHU{x:Operand}{a b:Bool}(c:vg P T=true)(hx:ev m x=some (.bool a))(hy:ev m y=some (.bool b)):Qt P N m S (.binOp .neq T x y yT) ty (.bool (!(a==b))):=λs w _ _ _ _ ha _=>by
 simp only[execOp,ha.ev hx,ha.ev hy,eqGuard,binOp,fC,fB,fa,xO c];rfl
end
structure Ri where
 neg:Bool
 r:Sr
 l:List Int
@[reducible] def Ri.v (x:Ri):Value:=.agg #[.bool x.neg,.slice x.r.q x.r.n x.r.cap]
def Iv(neg:Bool)(l:List Int):Int:=if neg=true then -dv B9 l else dv B9 l
def E4(F:Gs)(x:Ri)(z:Int):Prop:=J8 F x.r x.l/\DG B9 x.l/\NZ x.l/\z=Iv x.neg x.l/\(x.neg=true->0<dv B9 x.l)
def E4.le{a:Gs}{x:Ri}(h:E4 F x z)(k:Gs.le F a):E4 a x z:=⟨h.1.le k,h.2⟩
abbrev Il(P:Program)(f:FuncId)(args:List Value)(w:World)(F:Gs)(z:Int):Prop:=QU P f args w F Ri.v λx F=>E4 F x z
structure Ry(neg:Bool)(l:List Int)(z:Int):Prop where
 dg:DG B9 l
 nz:NZ l
 e:z=Iv neg l
 ng:neg=true->0<dv B9 l
def E4.p{x:Ri}(h:E4 F x z):Ry x.neg x.l z:=⟨h.2.1,h.2.2.1,h.2.2.2.1,h.2.2.2.2⟩
def Ry.v0{neg:Bool}(h:Ry neg l z):0<=dv B9 l:=JJ XY h.dg
def Ry.abs{neg:Bool}(h:Ry neg l z):(z.natAbs:Int)=dv B9 l:=by
 have:=h.v0;rw[h.e,Iv];split<;>omega
theorem QJC(h:DG B9 l)(z:NZ l):l.length<=sz (dv B9 l):=by
 rcases aB l.length with g | g
 ·omega
 have h1:=Rm XY h z (by intro e;rw[e]at g;simp at g);have h2:=E6 (dv B9 l);have h3:=JJ XY h;rcases aN (sz (dv B9 l)) l.length with q | q
 ·exfalso;have h4:(2:Int)^(l.length-1)<=B9^(l.length-1):=by
   have:∀n:Nat,(2:Int)^n<=B9^n:=by
    intro n
    induction n with
    |zero=>simp
    |succ n ih =>
     rw[aO,aO];exact bJ ih tF tF (Int.le_of_lt (pow_pos XY n))
   exact this _
  have h5:(2:Int)^sz (dv B9 l)<=2^(l.length-1):=Ig.X0 tF O;have h6:((dv B9 l).natAbs:Int)<((2^sz (dv B9 l):Nat):Int):=Int.ofNat_lt.2 h2;rw[Int.natCast_pow]at h6;have:((2:Nat):Int)=2:=rfl;rw[this]at h6;omega
 exact q
def Ry.len{neg:Bool}(h:Ry neg l z):l.length<=sz z:=by
 have:=QJC h.dg h.nz;have e:sz (dv B9 l)=sz z:=by
  rw[<-h.abs];unfold sz;simp
 omega
def Ry.neg{neg:Bool}(h:Ry neg l z):neg=decide (z<0):=by
 have h0:=h.v0;cases neg with
 |true=>have:=h.ng I;have e:=h.e;simp only[Iv,if_true]at e;symm;rw[decide_eq_true_eq];omega
 |false=>have e:=h.e;simp only[Iv]at e;symm;rw[decide_eq_false_iff_not];simp at e;omega
def Ry.zero{neg:Bool}(h:Ry neg l z):l=[]↔z=0:=by
 have:=GF TL h.dg h.nz;have e:=h.abs;rw[<-this];omega
def QES(h:DG B9 l):(0<(Jf l).length)↔0<dv B9 l:=by
 have h1:=GF TL h.Jf (Zu l);rw[ZH]at h1;have h2:=JJ XY h;rw[<-eP]at h1;omega
theorem Hg{r:Sr}{neg:Bool}(s:Fits F w)(a:J8 F r l)(dg:DG B9 l)(m:l.length<=1000000000):Il prog 194 [.bool neg,r.v] w F (Iv neg l):=by
 obtain⟨q,n,c⟩:=r;have hn:=a.2.1;dsimp only[Sr.v]at hn ⊢;have j:=Vk l;have i:=QES dg;have h:=JJ XY dg;refine QU.intro (G:=λF=>J8 F ⟨q,n,c⟩ l) func194 rfl tH rfl rfl s (λF' g=>a.le g)<|wa<|Qc Wk λb4=>wY<|wb rfl<|QI rfl (λ_ _ f k=>Tx f (r:=⟨q,n,c⟩) k (m)) λu=>wZ rfl<|wb rfl<|wW rfl ?_
 refine Qn (t:=8) rfl (λb=>?_) λb=>?_
 ·refine wB 3 I<|QA (Qg I Q2)<|wB 4 I<|QA (Q4 I QEw Wk (wV I I I))<|QW (vs:=[_,_]) I I I XB I .here .h2 wm<|wY<|QX ?_
  exact QP ((⟨decide ((((Jf l).length:Nat):Int)>0),⟨q,(Jf l).length,c⟩,Jf l⟩:Ri)) I (.JX (c:=[_,_]) I XB .here .nil) (rfl) λF ⟨a,h6⟩=>⟨h6,dg.Jf,Zu _,by show Iv neg l=Iv (decide ((((Jf l).length:Nat):Int)>0)) (Jf l);rw[Iv,Iv,ZH];cases neg<;>simp_all<;>omega,λo=>by show 0<dv B9 (Jf l);rw[ZH];simp_all⟩
 refine wB 5 I<|QA (Q4 I QEw Wk (wV I I I))<|QW (vs:=[_,_]) I I I XB I .here .h2 wm<|wY<|QX ?_
 exact QP ((⟨false,⟨q,(Jf l).length,c⟩,Jf l⟩:Ri)) I (.JX (c:=[_,_]) I XB .here .nil) (rfl) λF ⟨a,h6⟩=>⟨h6,dg.Jf,Zu _,by show Iv neg l=Iv false (Jf l);rw[Iv,Iv,ZH];cases neg<;>simp_all<;>omega,λo=>by show 0<dv B9 (Jf l);rw[ZH];simp_all⟩
theorem QDE:vg prog 4=true:=tE
def QGl{x y:Int}(h:YF x y>=0):y<=x:=by
 unfold YF at h;split at h
 ·omega
 split at h<;>omega
def QFW{x y:Int}(h:¬YF x y>=0):x<=y:=by
 unfold YF at h;split at h
 ·omega
 split at h<;>omega
theorem uu{x:Ri}(u:Fits F w)(hx:E4 F x zx)(hz:sz zx<=1000000):Il prog 192 [x.v] w F (-zx):=by
 obtain⟨b,⟨j,m,n⟩,g⟩:=x;have a:=hx.p;have o:=a.len;have s:=hx.1.2.1;have vx:=a.v0;dsimp only at a o s vx;dsimp only[Ri.v];have i : -zx=Iv (!b) g:=by rw[a.e];cases b<;>simp[Iv]
 refine QU.intro (G:=λF=>E4 F ⟨b,⟨j,m,n⟩,g⟩ zx) func192 rfl tH rfl rfl u (λF' h=>hx.le h)<|wa<|Qp rfl (vs:=[_,_]) rfl λb1=>Qc Wk λb2=>wY<|wa<|QA (QH rfl Ea R5)<|QA (Qe rfl R5 .u1 .h1)<|QA (XL rfl)<|QA (QH rfl K2 JM)<|QA (Qe rfl JM .u1 (.skip .h1))<|QI rfl (λ_ _ f k=>Hg f (r:=⟨j,m,n⟩) (l:=g) (neg:=!b) k.1 (a.dg) O) λy=>QW (vs:=[_,_]) rfl rfl rfl XB rfl .here .h2 wm<|wY<|QX ?_
 exact QP (y) rfl (.JX (c:=[_,_]) I XB .here .nil) (rfl) λF h9=>(by rw[i];exact h9.2)
theorem DF{x y:Ri}{i:Int}(T:Fits F w)(hx:E4 F x zx)(hy:E4 F y i)(hzx:sz zx<=1000000)(hzy:sz i<=1000000):Il prog 101 [x.v,y.v] w F (zx*i):=by
 obtain⟨z,⟨P,Q,S⟩,R⟩:=x;have m:=hx.p;have Y:=m.len;have kx:=hx.1.2.1;have vx:=m.v0;dsimp only at m Y kx vx;obtain⟨u,⟨K,L,N⟩,M⟩:=y;have j:=hy.p;have X:=j.len;have Z:=hy.1.2.1;have U:=j.v0;dsimp only at j X Z U;dsimp only[Ri.v];refine QU.intro (G:=λF=>E4 F ⟨z,⟨P,Q,S⟩,R⟩ zx/\E4 F ⟨u,⟨K,L,N⟩,M⟩ i) func101 rfl tH rfl rfl T (λF' o=>⟨hx.le o,hy.le o⟩)<|wa<|Qp rfl (vs:=[_,_]) rfl λb2=>Qp rfl (vs:=[_,_]) rfl λb3=>Qc Wk λb4=>wY<|QG<|JG (.cons _ tP) mixed tE<|QK (QH rfl Ea R5)<|QK (Qe rfl R5 .u1 .h1)<|QK (QH rfl Ea R5)<|QK (Qe rfl R5 .here .h1)<|QK (QHU QDE rfl rfl)<|QK (QH rfl K2 JM)<|QK (Qe rfl JM .u1 (.skip .h1))<|QK (QH rfl K2 JM)<|QK (Qe rfl JM .here (.skip .h1)) ?_
 refine QR I (λ_ _ f k=>Tz f (a:=R) (b:=M) (ra:=⟨P,Q,S⟩) (rb:=⟨K,L,N⟩) k.1.1 (k.2.1) (m.dg) (j.dg) O (by first | omega | (simp;done) | (simp;omega))) (λH=>?_);rcases H with ⟨A,n⟩;dsimp only;refine Yl _ (λw F T ⟨⟨hx,hy⟩,⟨B,s⟩⟩=>aM B.2 s) (λg=>?_);have C:zx*i=Iv (!(z==u)) n:=by
  have D:=g.2.2.1;rw[m.e,j.e];unfold Iv;rw[D];cases z<;>cases u<;>simp[fI,Int.neg_mul]
 have V:=g.2.2.2.2;refine QR I (λ_ _ f k=>Hg f (r:=A) (l:=n) (neg:=!(z==u)) k.2.1 (g.2.1) O) (λE=>JV (vs:=[_,_]) I I I XB I .here tP (λ_ h=>h.1.1) .h2 wm<|Q7<|QC<|QX ?_);exact QP (E) rfl (.JX (c:=[_,_]) I XB .here .nil) (rfl) λF h9=>(by rw[C];exact h9.2)
theorem QCo{x y:Ri}{u:Int}(X:Fits F w)(hx:E4 F x zx)(hy:E4 F y u)(hzx:sz zx<=1000000)(hzy:sz u<=1000000):Il prog 154 [x.v,y.v] w F (zx+u):=by
 obtain⟨s,⟨L,M,N⟩,A⟩:=x;have i:=hx.p;have lx:=i.len;have kx:=hx.1.2.1;have vx:=i.v0;dsimp only at i lx kx vx;obtain⟨n,⟨E,H,K⟩,z⟩:=y;have g:=hy.p;have ly:=g.len;have ky:=hy.1.2.1;have vy:=g.v0;dsimp only at g ly ky vy;dsimp only[Ri.v];refine QU.intro (G:=λF=>E4 F ⟨s,⟨L,M,N⟩,A⟩ zx/\E4 F ⟨n,⟨E,H,K⟩,z⟩ u) func154 rfl tH rfl rfl X (λF' S=>⟨hx.le S,hy.le S⟩)<|wa<|Qp rfl (vs:=[_,_]) rfl λb2=>Qp rfl (vs:=[_,_]) rfl λb3=>Qc Wk λb4=>wD 5 I<|QA (QH rfl Ea R5)<|QA (Qe rfl R5 .u2 .h1)<|QA (QH rfl Ea R5)<|QA (Qe rfl R5 .u1 .h1)<|QA (QHV QDE rfl rfl)<|QE<|QC ?_
 refine QQ I (λhc=>?_) λhc=>?_
 ·have o:s=n:=by simpa using hc
  refine QG<|JG (.cons _ tP) mixed tE<|QK (QH I Ea R5)<|QK (Qe I R5 .u1 .h1)<|QK (QH I K2 JM)<|QK (Qe I JM .u1 (.skip .h1))<|QK (QH I K2 JM)<|QK (Qe I JM .here (.skip .h1)) ?_
  refine QR I (λ_ _ f k=>gh f (a:=A) (b:=z) (ra:=⟨L,M,N⟩) (rb:=⟨E,H,K⟩) k.1.1 (k.2.1) (i.dg) (g.dg) O (by first | omega | (simp;done) | (simp;omega))) (λc16=>?_);rcases c16 with ⟨v16,R⟩;dsimp only;refine Yl _ (λw F X ⟨⟨hx,hy⟩,⟨h16,V⟩⟩=>aM h16.2 V) (λD=>?_);have m:zx+u=Iv s R:=by
   have e16:=D.2.2.1;rw[i.e,g.e,o];unfold Iv;rw[e16];cases n<;>simp<;>omega
  have m16:=D.2.2.2;refine QR I (λ_ _ f k=>Hg f (r:=v16) (l:=R) (neg:=s) k.2.1 (D.2.1) O) (λc17=>JV (vs:=[_,_]) I I I XB I .here tP (λ_ h=>h.1.1) .h2 wm<|Q7<|QC<|QX ?_);exact QP (c17) rfl (.JX (c:=[_,_]) I XB .here .nil) (rfl) λF h9=>(by rw[m];exact h9.2)
 have o:s=!n:=by cases s<;>cases n<;>simp_all
 refine wC 5 I<|QA (QH I K2 JM)<|QA (Qe I JM .u2 (.skip .h1))<|QA (QH I K2 JM)<|QA (Qe I JM .u1 (.skip .h1))<|QI I (λ_ _ f k=>Su f (a:=A) (b:=z) (ra:=⟨L,M,N⟩) (rb:=⟨E,H,K⟩) k.1.1 (k.2.1) (i.dg) (g.dg) (i.nz) (g.nz) O O) λ_=>wD 3 I ?_
 refine QQ I (λhc=>?_) λhc=>?_
 ·have j:dv B9 z<=dv B9 A:=QGl (wi hc);have hll:=RT g.dg i.dg g.nz j;refine QG<|JG (.cons _ tP) mixed tE<|QK (QH I Ea R5)<|QK (Qe I R5 .u1 .h1)<|QK (QH I K2 JM)<|QK (Qe I JM .u1 (.skip .h1))<|QK (QH I K2 JM)<|QK (Qe I JM .here (.skip .h1)) ?_
  refine QR I (λ_ _ f k=>Om f (a:=A) (b:=z) (ra:=⟨L,M,N⟩) (rb:=⟨E,H,K⟩) k.1.1.1 (k.1.2.1) (i.dg) (g.dg) O O (j)) (λc30=>?_);rcases c30 with ⟨Z,Q⟩;dsimp only;refine Yl _ (λw F X ⟨⟨⟨hx,hy⟩,_⟩,⟨h30,U⟩⟩=>aM h30.2 U) (λC=>?_);have m:zx+u=Iv s Q:=by
   have e30:=C.2.2.1;rw[i.e,g.e,o];unfold Iv;rw[e30];cases n<;>simp<;>omega
  have m30:=C.2.2.2;refine QR I (λ_ _ f k=>Hg f (r:=Z) (l:=Q) (neg:=s) k.2.1 (C.2.1) O) (λc31=>JV (vs:=[_,_]) I I I XB I .here tP (λ_ h=>h.1.1) .h2 wm<|Q7<|QC<|QX ?_);exact QP (c31) rfl (.JX (c:=[_,_]) I XB .here .nil) (rfl) λF h9=>(by rw[m];exact h9.2)
 have j:dv B9 A<=dv B9 z:=QFW (wj hc);have hll:=RT i.dg g.dg i.nz j;refine wC 3 I<|JG (.cons _ tP) mixed tE<|QK (QH I Ea R5)<|QK (Qe I R5 .here .h1)<|QK (QH I K2 JM)<|QK (Qe I JM .here (.skip .h1))<|QK (QH I K2 JM)<|QK (Qe I JM .u1 (.skip .h1)) ?_
 refine QR I (λ_ _ f k=>Om f (a:=z) (b:=A) (ra:=⟨E,H,K⟩) (rb:=⟨L,M,N⟩) k.1.2.1 (k.1.1.1) (g.dg) (i.dg) O O (j)) (λc38=>?_);rcases c38 with ⟨Y,P⟩;dsimp only;refine Yl _ (λw F X ⟨⟨⟨hx,hy⟩,_⟩,⟨h38,T⟩⟩=>aM h38.2 T) (λB=>?_);have m:zx+u=Iv n P:=by
  have e38:=B.2.2.1;rw[i.e,g.e,o];unfold Iv;rw[e38];cases n<;>simp<;>omega
 have m38:=B.2.2.2;refine QR I (λ_ _ f k=>Hg f (r:=Y) (l:=P) (neg:=n) k.2.1 (B.2.1) O) (λc39=>JV (vs:=[_,_]) I I I XB I .here tP (λ_ h=>h.1.1) .h2 wm<|Q7<|QC<|QX ?_);exact QP (c39) rfl (.JX (c:=[_,_]) I XB .here .nil) (rfl) λF h9=>(by rw[m];exact h9.2)
structure QJZ(A B:Int) where
 ra:Sr
 rb:Sr
 a:List Int
 b:List Int
 da:DG B9 a
 db:DG B9 b
 za:NZ a
 zb:NZ b
 la:a.length<=10000000
 lb:b.length<=10000000
 nb:b.length=rb.n
 h:aV (dv B9 a) (dv B9 b)=aV A B
def QDw(x y:Int):aV y (x%y)=aV x y:=by
 rw[Int.gcd_comm y,fA]
 first | rw[Int.gcd_sub_mul_left_left] | rw[Int.gcd_sub_mul_right_left] | rw[Int.gcd_sub_mul_left] | simp
theorem vM(D:Fits F w)(E:J8 F ra a)(s:J8 F rb b)(K:DG B9 a)(H:DG B9 b)(x:NZ a)(u:NZ b)(la:a.length<=10000000)(lb:b.length<=10000000):
  QU prog 98 [ra.v,rb.v] w F (λ(c:Sr×List Int)=>.slice c.1.q c.1.n c.1.cap) (λc F=>J8 F c.1 c.2/\DG B9 c.2/\NZ c.2/\dv B9 c.2=(aV (dv B9 a) (dv B9 b):Int)):=by
 refine QU.intro (G:=λF=>J8 F ra a/\J8 F rb b) func98 rfl tH rfl rfl D (λF' m=>⟨E.le m,s.le m⟩)<|wa<|wZ rfl<|QG<|QV<|JU (ι:=QJZ (dv B9 a) (dv B9 b)) [] (λi=>[(0,.slice i.ra.q i.ra.n i.ra.cap),(1,.slice i.rb.q i.rb.n i.rb.cap)]) (λi=>[]) (λi F=>J8 F i.ra i.a/\J8 F i.rb i.b) (λi=>(dv B9 i.b).toNat) (⟨ra,rb,a,b,K,H,x,u,la,lb,s.2.1,rfl⟩) trivial wm we tM λi=>?_
 simp only[ab,af];have C:=i.la;have B:=i.lb;have y:=i.nb;refine wA 4 I<|QA (Qg I Q2)<|wD 3 I ?_
 refine QQ I (λhc=>?_) λhc=>?_
 ·have j:0<dv B9 i.b:=by
   have h1:=GF TL i.db i.zb;have h2:=JJ XY i.db;rw[<-eP]at h1;have:=wi hc;omega
  have A:=bS (dv B9 i.a) (Int.ne_of_gt j);have z:=bK (dv B9 i.a) j;refine wC 3 I<|wb rfl<|wW rfl<|QI rfl (λ_ _ f k=>T2 f (a:=i.a) (b:=i.b) (ra:=i.ra) (rb:=i.rb) k.2.1 (k.2.2) (i.da) (i.db) (i.za) (i.zb) (j) O O) λl=>wW rfl<|QA (Qa rfl rfl)<|QA (Qa rfl rfl)<|wX rfl<|wZ rfl<|XV _ (λ_ _ f h=>aM h.2.2.2 h.2.2.1.2.1) λg=>?_
  obtain⟨g,o⟩:=g;refine wA 6 I<|Qj ?_
  exact Ql (⟨i.rb,l.2.1,i.b,l.2.2,i.db,g.1,i.zb,g.2.1,i.lb,by have:=RT g.1 i.db g.2.1 (by rw[g.2.2];omega);omega,o,by rw[g.2.2,QDw];exact i.h⟩) (by show(dv B9 l.2.2).toNat<(dv B9 i.b).toNat;rw[g.2.2];omega) wm we λF h9=>⟨⟨h9.1.1.1,h9.1.1.2⟩,⟨h9.1.2.2,h9.2.2.1⟩⟩
 have hz:i.b=[]:=by
  have:=wj hc;exact ak O
 refine Qx ?_
 repeat first|refine QY ?_|refine QO tH ?_
 refine QZ<|wE 8 I ?_
 exact QP ((i.ra,i.a):Sr×List Int) rfl (wT I) (rfl) λF h9=>⟨h9.2.1,i.da,i.za,by have e:=i.h;rw[hz,yi,Int.gcd_zero_right]at e;have:=JJ XY i.da;show dv B9 i.a=_;omega⟩
section
variable{P:Program}{N:Nat}{m:Sl}{S:World->Prop}{ty:TypeId}
def QEt{x:Operand}{a b:Int}(hx:ev m x=some (.int .i64 a))(hy:ev m y=some (.int .i64 b))(h:1<b)(h0 : -9223372036854775808<=a)(h1:a<=9223372036854775807):Qt P N m S (.binOp .quo T x y yT) ty (.int .i64 (a.tdiv b)):=by
 have:=vQ (P:=P) (N:=N) (m:=m) (S:=S) (ty:=ty) (T:=T) (yT:=yT) hx hy O;have e:=eF a b;have f:a.natAbs.div b.natAbs<=a.natAbs:=eE _ _;have c:a.natAbs.div b.natAbs<=a.natAbs/2:=Nat.div_le_div_left O tF;rw[ey _ O]at this;exact this
end
def gO(neg:Bool)(m:Nat):Int:=if neg=true then -(m:Int)else(m:Int)
def QGH(neg:Bool)(m:Nat):(gO neg m).tmod 1000000000=gO neg (m%1000000000):=by
 unfold gO;split
 ·rw[Int.neg_tmod];exact congrArg Neg.neg (fj m 1000000000).symm
 exact(fj m 1000000000).symm
def QCl(neg:Bool)(m:Nat):(gO neg m).tdiv 1000000000=gO neg (m/1000000000):=by
 unfold gO;split
 ·rw[Int.neg_tdiv];exact congrArg Neg.neg (fk m 1000000000).symm
 exact(fk m 1000000000).symm
def QEg(n:Int):n=gO (decide (n<0)) n.natAbs:=by
 unfold gO;by_cases h:n<0
 ·simp[h];omega
 simp[h];omega
def Cw(neg:Bool)(m:Nat):gO neg m=m\/gO neg m = -(m:Int):=by
 unfold gO;split
 ·exact .inr rfl
 exact .inl rfl
structure WhI(M:Nat) where
 m:Nat
 out:List Int
 v:Value
 ob:List (Nat×Obj)
 le:m<=M
 l3:out.length<=3
 dg:DG B9 out
 h:dv B9 out+B9^out.length*(m:Int)=M
 hr:Q8 3 1 v out.length (out.map Jo) ob
def WhI.two{M:Nat}(i:WhI M)(a:M<=9223372036854775808)(h0:0<i.m):i.out.length<=2:=by
 rcases aN 2 i.out.length with g | g
 ·exfalso;have e:i.out.length=3:=tD i.l3;have h:=i.h;have h1:=JJ XY i.dg;rw[e]at h;have h2:B9^3*1<=B9^3*(i.m:Int):=ah O tF;have h3:B9^3=1000000000000000000000000000:=tF;rw[h3]at h2 h;omega
 exact g
def QCc{m M:Nat}(h:dv B9 l+B9^l.length*(m:Int)=M):dv B9 (l++[((m%1000000000:Nat):Int)])+B9^(l++[((m%1000000000:Nat):Int)]).length*((m/1000000000:Nat):Int)=M:=by
 rw[X9,aA,aK,aO,bN,fm,<-bF,<-h];have e:((m%1000000000:Nat):Int)+B9*((m/1000000000:Nat):Int)=m:=by
  have h9:B9=1000000000:=rfl;rw[h9];omega
 rw[e]
theorem Sm{n:Int}(hF:Fits F w)(hn : -9223372036854775808<=n/\n<=9223372036854775807):Il prog 102 [.int .i64 n] w F n:=by
 refine QU.intro (G:=λF=>True) func102 rfl tH rfl rfl hF tL<|wa<|Qc Wk λb2=>wY<|wa<|wZ rfl<|wb rfl<|QA (QT rfl rfl rfl)<|wZ rfl<|QG<|QV<|JU (ι:=WhI n.natAbs) [(2,_),(4,_)] (λi=>[(0,.int .i64 (gO (decide (n<0)) i.m)),(3,i.v)]) (λi=>(b2,.cells [.bool false,.slice none 0 0].toArray 147 (0,0))::i.ob) (λi F=>True) (λi=>i.m) (⟨n.natAbs,[],.slice none 0 0,[],aq _,tJ,DG.nil _,tJ,.nil⟩) wm ⟨congrArg (λz:Int=>some (ae .i64 z)) (QEg n),rfl,trivial⟩ we tL λi=>?_
 simp only[ab,af];have hle:=i.le;have hM:n.natAbs<=9223372036854775808:=O;have hcs:=Cw (decide (n<0)) i.m;have hsr : -9223372036854775808<=gO (decide (n<0)) i.m/\gO (decide (n<0)) i.m<=9223372036854775807:=by unfold gO;split<;>rename_i g<;>simp at g<;>omega
 refine wA 7 I ?_;refine QQ I (λhc=>?_) λhc=>?_
 ·have h9:B9=1000000000:=rfl;have hm0:0<i.m:=by
   rcases aB i.m with g | g
   ·rw[g]at hc;cases hd:decide (n<0)<;>simp[gO,hd]at hc
   exact g
  have l2:=i.two hM hm0;refine wC 6 I<|QA (QCv I I tF) ?_
  rw[QGH];refine wD 10 I ?_;refine QQ I (λhc=>?_) λhc=>?_
  ·have e1:gO (decide (n<0)) (i.m%1000000000) = -(((i.m%1000000000):Nat):Int):=by
    have:=wi hc;rcases Cw (decide (n<0)) (i.m%1000000000)with g | g<;>omega
   rw[e1];refine wA 2 I<|QA (X3 I I O)<|wD 7 I<|Qb I (Q5 Q2) JK R4 I I λb18=>ZL (bs':=[(b2,.cells [.bool false,.slice none 0 0].toArray 147 (0,0))]++i.ob) (bC _) ?_
   refine Z4 (ob:=i.ob) (k:=1) (sz:=1) (news:=[.int .i64 (0 - -(((i.m%1000000000):Nat):Int))]) I I Q2 JK R4 I F6 i.hr (Src.row (off:=0) tO (λj v hv=>by rw[aR];show([.int .i64 (0 - -(((i.m%1000000000):Nat):Int))].toArray)[j]?=some v;rw[aF];exact hv) rfl) O O (Kd wk) (λv19 ob19 hr19=>?_);refine wD 5 I<|QA (QEt I I tF O O) ?_
   rw[QCl];refine wB 2 I<|Qj ?_
   exact Ql (⟨i.m/1000000000,i.out++[(((i.m%1000000000):Nat):Int)],v19,ob19,O,by rw[aA,aK];omega,i.dg.append (DG.cons O (by show _<B9;rw[h9];omega) (DG.nil _)),QCc i.h,by simpa[Jo]using hr19⟩) (by show i.m/1000000000<i.m;omega) wv we λF h=>⟨h.1.1,trivial⟩
  have e1:gO (decide (n<0)) (i.m%1000000000)=(((i.m%1000000000):Nat):Int):=by
   have:=wj hc;rcases Cw (decide (n<0)) (i.m%1000000000)with g | g<;>omega
  rw[e1];refine wC 6 I<|Qb I (Q5 Q2) JK R4 I I λb18=>ZL (bs':=[(b2,.cells [.bool false,.slice none 0 0].toArray 147 (0,0))]++i.ob) (bC _) ?_
  refine Z4 (ob:=i.ob) (k:=1) (sz:=1) (news:=[.int .i64 ((((i.m%1000000000):Nat):Int))]) I I Q2 JK R4 I F6 i.hr (Src.row (off:=0) tO (λj v hv=>by rw[aR];show([.int .i64 ((((i.m%1000000000):Nat):Int))].toArray)[j]?=some v;rw[aF];exact hv) rfl) O O (Kd wk) (λv19 ob19 hr19=>?_);refine wD 5 I<|QA (QEt I I tF O O) ?_
  rw[QCl];refine wB 2 I<|Qj ?_
  exact Ql (⟨i.m/1000000000,i.out++[(((i.m%1000000000):Nat):Int)],v19,ob19,O,by rw[aA,aK];omega,i.dg.append (DG.cons O (by show _<B9;rw[h9];omega) (DG.nil _)),QCc i.h,by simpa[Jo]using hr19⟩) (by show i.m/1000000000<i.m;omega) wv we λF h=>⟨h.1.1,trivial⟩
 have hm0:i.m=0:=by
  rcases hcs with g | g
  ·rw[g]at hc;simp at hc;exact hc
  rw[g]at hc;simp at hc;exact hc
 refine Qx ?_
 repeat first|refine QY ?_|refine QO tH ?_
 refine QZ<|QC<|QG ?_
 have hfin:=i.h;rw[hm0]at hfin;have l3:=i.l3;obtain⟨r,hv,hrn,hrc,hfix⟩:=Q8.fix (w0:=w) (F0:=F) (bs1:=[(b2,.cells [.bool false,.slice none 0 0].toArray 147 (0,0))]) (G:=λF=>True/\True) i.hr;refine jH hfix ?_;rw[hv];refine wA 3 I<|QI I (λ_ _ f k=>Hg f (r:=r) (l:=i.out) (neg:=decide (n<0)) ⟨by rw[hrn];exact k.2,by rw[hrn],O⟩ (i.dg) O) λc24=>QW (vs:=[_,_]) I I I XB I .here .h2 wm<|wY<|QX ?_
 have e:n=Iv (decide (n<0)) i.out:=by
  have e2:=QEg n;unfold Iv;unfold gO at e2;split at e2<;>rename_i hs<;>simp only[hs]<;>simp<;>omega
 exact QP (c24) rfl (.JX (c:=[_,_]) I XB .here .nil) (rfl) λF ⟨⟨⟨hT,_⟩,hX⟩,h24⟩=>(by rw[<-e]at h24;exact h24)
theorem SA{x:Int}{least:Nat}(b:Fits F w)(h0:0<=x)(hn:x<=9223372036854775807)(a:least<=1000):Qf prog 104 [.int .i64 x,.int .i64 (least:Int)] w F (tx (qW x.toNat least)):=by
 have:=QBA (n:=x.toNat) (least:=least) b O a;rw[bZ h0]at this;exact this
def yt(h:0<n):qW n 1=au n:=by
 have a:(au n).length≠0:=λe=>Kn n (ak e);unfold qW hd Hq;rw[if_neg O,show 1-(au n).length=0 by omega];rfl
def ve(n:Nat):qW n 9=Hq 9 (au n):=by
 unfold qW hd;split
 ·rename_i h;subst h;rw[YX];decide
 rfl
theorem Iy(h:n<1000000000):(qW n 9).length=9:=by
 rw[ve,cI];have:=Ke (u:=n) (k:=9) O tF;rw[aY];exact this
structure TxI(l:List Int) where
 k:Nat
 s:List UInt8
 le:k<l.length
 ps:0<dv B9 (l.drop k)
 sl:s.length<=20+9*(l.length-k)
 h:s=au (dv B9 (l.drop k)).toNat
theorem Ij(hd:DG B9 l)(hz:NZ l)(h0:0<l.length):dv B9 (l.drop (l.length-1))=Qm l (l.length-1)/\0<Qm l (l.length-1):=by
 have e:=Xr (l:=l) (k:=l.length-1) O;rw[bp (i:=l.length-1+1) O]at e;refine⟨by rw[e];simp[dv],?_⟩;obtain⟨h1,_⟩:=dJ (n:=l.length-1) hd hz O;omega
def TxI.start{l:List Int}(hd:DG B9 l)(hz:NZ l)(h0:0<l.length):TxI l:=⟨l.length-1,qW (Qm l (l.length-1)).toNat 1,O,by rw[(Ij hd hz h0).1];exact(Ij hd hz h0).2,by
  have b:=hd.Qm XY (l.length-1);have h9:B9=1000000000:=rfl;rw[yt (tD<|(Ij hd hz h0).2),aY];have:=Ke (u:=(Qm l (l.length-1)).toNat) (k:=9) (by rw[h9]at b;omega) tF;omega,by
  rw[yt (tD<|(Ij hd hz h0).2),(Ij hd hz h0).1]⟩
def TxI.add(i:TxI l)(hd:DG B9 l)(hk:0<i.k):dv B9 (l.drop (i.k-1))=Qm l (i.k-1)+B9*dv B9 (l.drop i.k):=by
 have a:=i.le;rw[Xr O,Vi,show i.k-1+1=i.k by omega]
def TxI.next{l:List Int}(i:TxI l)(hd:DG B9 l)(hk:0<i.k):TxI l:=⟨i.k-1,i.s++qW (Qm l (i.k-1)).toNat 9,tD i.le,by
  rw[i.add hd hk];have b:=hd.Qm XY (i.k-1);have p:=i.ps;have:B9*1<=B9*dv B9 (l.drop i.k):=ah O tF;have h9:B9=1000000000:=rfl;omega,by
  have b:=hd.Qm XY (i.k-1);have h9:B9=1000000000:=rfl;rw[h9]at b;have c:=i.le;have a:=i.sl;rw[aA,Iy O];omega,by
  have b:=hd.Qm XY (i.k-1);have h9:B9=1000000000:=rfl;rw[h9]at b;have p:=i.ps;have e:=Ws (q:=(dv B9 (l.drop i.k)).toNat) O 9 (Qm l (i.k-1)).toNat tF O;rw[ve,i.h,<-e,i.add hd hk];congr 1;generalize dv B9 (l.drop i.k)=D at *
  rw[h9];omega⟩
theorem jY{x:Ri}(M:Fits F w)(hx:E4 F x zx)(hz:sz zx<=1000000):Qf prog 193 [x.v] w F (tx (Ze zx)):=by
 obtain⟨C,⟨B,m,D⟩,b⟩:=x;have a:=hx.p;have E:=a.len;have H:=hx.1.2.1;have vx:=a.v0;dsimp only at a E H vx;dsimp only[Ri.v];have h9:B9=1000000000:=rfl;refine QU.intro (G:=λF=>E4 F ⟨C,⟨B,m,D⟩,b⟩ zx) func193 rfl tH rfl rfl M (λF' A=>hx.le A)<|wa<|Qp rfl (vs:=[_,_]) rfl λb1=>wZ rfl<|QG<|wa<|QA (QH rfl K2 JM)<|QA (Qe rfl JM .here (.skip .h1))<|QA (Qg rfl Q2)<|QA (QT rfl rfl rfl)<|QE<|QC ?_
 refine QQ I (λhc=>?_) λhc=>?_
 ·have y:zx=0:=(a.zero).1 (ak (by have:=hc;simp at this;omega));refine wA 6 I ?_;exact wg I I (by rw[y,XJ tF];exact congrArg (λl=>tx l) YX) tL
 have u:0<b.length:=by
  rcases aB m with g | g
  ·rw[g]at hc;simp at hc
  omega
 obtain⟨R,Q⟩:=Ij a.dg a.nz u;have N:=a.dg.Qm XY (b.length-1);rw[h9]at N;refine wC 4 I<|QA (QH I K2 JM)<|QA (Qe I JM .here (.skip .h1))<|QA (QH I K2 JM)<|QA (Qe I JM .here (.skip .h1))<|QA (Qg I Q2)<|QA (X3 I I O)<|QA (Q3 (n:=m) (b.length-1) (λF hx=>(hx.1).1) rfl wS Q2 JK O)<|QA (JA (n:=m) ((b.length-1)*1) (λF hx=>(hx.1).1) O rfl JK (Jz (o:=b) O))<|QI I (λ_ _ f k=>SA f (least:=1) O O O) λ_=>wD 6 I<|QA (QH I K2 JM)<|QA (Qe I JM .here (.skip .h1))<|QA (Qg I Q2)<|QA (X3 I I O)<|wB 2 I ?_
 refine QC<|QV<|J9 (ι:=TxI b) [(1,_)] (λi=>[(3,tx i.s),(4,.int .i64 ((i.k:Int)-1))]) (λi=>i.k) (TxI.start a.dg a.nz u) wk ⟨rfl,(congrArg (λz:Int=>some (ae .i64 z)) (by simp only[TxI.start];omega)),trivial⟩ λi=>?_
 simp only[ab,af];have L:=i.le;have K:=i.sl;refine wA 7 I ?_;refine QQ I (λhc=>?_) λhc=>?_
 ·have j:0<i.k:=tD<|wi hc
  have b1:=a.dg.Qm XY (i.k-1);rw[h9]at b1;have P:=Iy (n:=(Qm b (i.k-1)).toNat) O;refine wC 6 I<|QA (QH I K2 JM)<|QA (Qe I JM .here (.skip .h1))<|wW I<|QA (Q3 (n:=m) (i.k-1) (λF h9=>(h9.1.1).1) rfl wS Q2 JK O)<|QA (JA (n:=m) ((i.k-1)*1) (λF h9=>(h9.1.1).1) O rfl JK (Jz (o:=b) O))<|QI I (λ_ _ f k=>SA f (least:=9) O O O) λ_=>QA (Yf I I O)<|wB 2 I<|Qj<|wE 3 I<|QA (X3 I I O)<|wB 2 I ?_
  exact Ql (i.next a.dg j) (by show i.k-1<i.k;omega) ⟨rfl,rfl,(congrArg (λz:Int=>some (ae .i64 z)) (by simp only[TxI.next];omega)),trivial⟩ we tN
 have j:i.k=0:=tD<|wj hc
 have hi:=i.h;rw[j,bm]at hi;have ha:=a.abs;refine Qx ?_
 repeat first|refine QY ?_|refine QO tH ?_
 refine QZ<|wE 4 I<|QA (QH I Ea R5)<|QA (Qe I R5 .here .h1)<|QE<|QC ?_
 refine QQ I (λhc=>?_) λhc=>?_
 ·have c:zx<0:=by have:=a.neg;rw[hc]at this;exact wi this.symm
  refine wb I<|QA (Yf I I tK)<|wD 4 I ?_
  exact wg I I (by rw[Yo c,hi];exact congrArg (λn=>tx (45::au n)) O) tL
 have c:¬zx<0:=by have:=a.neg;rw[hc]at this;exact wj this.symm
 refine wC 9 I ?_;exact wg I I (by rw[XJ O,hi];exact congrArg (λn=>tx (au n)) O) tL
structure PaI(s:List UInt8) where
 s':List UInt8
 out:List Int
 v:Value
 ob:List (Nat×Obj)
 dg:DG B9 out
 al:ZJ s'=true
 ll:s'.length+9*out.length<=s.length
 h:(Jc s':Int)*B9^out.length+dv B9 out=Jc s
 hr:Q8 3 1 v out.length (out.map Jo) ob
def cO:((10^9:Nat):Int)=B9:=tF
theorem QGO{s:List UInt8}(h:(Jc s:Int)*B9^out.length+dv B9 out=z)(c:9<=s.length):(Jc (s.take (s.length-9)):Int)*B9^(out++[(Jc (s.drop (s.length-9)):Int)]).length+dv B9 (out++[(Jc (s.drop (s.length-9)):Int)])=z:=by
 have e:=Kb (s.take (s.length-9)) (s.drop (s.length-9));rw[bR,aL,show s.length-(s.length-9)=9 by omega]at e;rw[X9,aA,aK,aO,<-h,e,Int.natCast_add,Int.natCast_mul,cO];generalize B9^out.length=p;generalize ((Jc (s.take (s.length-9)):Nat):Int)=a;generalize ((Jc (s.drop (s.length-9)):Nat):Int)=b;generalize B9=B
 grind
def Ld(h:ao s [45]=true):1<=s.length:=by
 rcases aB s.length with g | g
 ·rw[ak g]at h;simp[ao]at h
 omega
def QHY{t:List UInt8}(h:(Jc t:Int)*B9^out.length+dv B9 out=Jc (aa s [45])):Iv (ao s [45]) (out++[(Jc t:Int)])=Y9 s:=by
 have e:dv B9 (out++[(Jc t:Int)])=Jc (aa s [45]):=by
  rw[X9,<-h,aJ];omega
 unfold Iv Y9;rw[e];unfold aa;cases ao s [45]<;>simp
def vK{s:List UInt8}(h:ZJ s=true)(a:s.length<=9):(Jc s:Int)<B9:=by
 have h1:=Hb h;have h2:10^s.length<=10^9:=aS tF a;have h3:=cO;omega
theorem Sq(B:Fits F w)(K:ZJ (aa s [45])=true)(S:s.length<=1000000):Il prog 189 [tx s] w F (Y9 s):=by
 refine QU.intro (G:=λF=>True) func189 rfl tH rfl rfl B tL<|wa<|Qc Wk λb2=>QE<|QC ?_
 refine ZZ [(0,_),(2,_)] [(3,.bool (ao s [45]))] wm ?_ ?_
 ·refine wA 2 I<|QA (Xc I Zm)<|wB 2 I ?_
  refine Qn (t:=8) rfl (λa=>?_) λa=>?_
  ·refine wB 3 I<|QA (Hh (i:=0) rfl rfl Zm (tD<|wi a))<|wB 5 I ?_
   exact JY ⟨rfl,rfl,(congrArg (λb=>some (ag b)) (by have h0:0<s.length:=(tD<|wi a);rw[EG h0];exact AF I)),trivial⟩ we tM
  refine wB 6 I ?_;exact JY ⟨rfl,rfl,(congrArg (λb=>some (ag b)) (by have h0:s.length=0:=(tD<|wj a);rw[ak h0];rfl)),trivial⟩ we tM
 simp only[ab,af];refine ZZ [(2,_),(3,_)] [(0,tx (aa s [45]))] wm ?_ ?_
 ·refine wA 5 I ?_;refine QQ I (λhc=>?_) λhc=>?_
  ·refine wA 2 I<|QA (GL (1) rfl rfl Zm I (Ld hc))<|wB 2 I ?_
   exact JY ⟨rfl,rfl,(congrArg (λl=>some (tx l)) (by unfold aa;rw[if_pos hc];rfl)),trivial⟩ we tM
  refine QN ?_;exact JY ⟨rfl,rfl,(congrArg (λl=>some (tx l)) (by unfold aa;rw[hc];rfl)),trivial⟩ we tM
 simp only[ab,af];have M:(aa s [45]).length<=s.length:=AK _ _;refine wA 7 I<|JU (ι:=PaI (aa s [45])) [(2,_),(3,_)] (λi=>[(0,tx i.s'),(4,i.v)]) (λi=>(b2,.cells [.bool false,.slice none 0 0].toArray 147 (0,0))::i.ob) (λi F=>True) (λi=>i.s'.length) (⟨aa s [45],[],.slice none 0 0,[],DG.nil _,K,tJ,tJ,.nil⟩) wm wm we tL λi=>?_
 simp only[ab,af];have N:=i.ll;refine wA 4 I<|QA (Xc I Zm)<|wD 3 I ?_
 refine QQ I (λhc=>?_) λhc=>?_
 ·have h9:9<i.s'.length:=tD<|wi hc
  refine wC 8 I<|QA (Xc I Zm)<|QA (X3 I I O)<|QA (GL (i.s'.length-9) rfl rfl Zm wS O)<|QI I (λ_ _ f k=>Ol f (Tc i.al _) (by rw[aL];omega)) λ_=>Qb I (Q5 Q2) JK R4 I I λR=>ZL (bs':=[(b2,.cells [.bool false,.slice none 0 0].toArray 147 (0,0))]++i.ob) (bC _) ?_
  refine Z4 (ob:=i.ob) (k:=1) (sz:=1) (news:=[.int .i64 ((Jc (i.s'.drop (i.s'.length-9)):Int))]) I I Q2 JK R4 I F6 i.hr (Src.row (off:=0) tO (λj v m=>by rw[aR];show([.int .i64 ((Jc (i.s'.drop (i.s'.length-9)):Int))].toArray)[j]?=some v;rw[aF];exact m) rfl) O O (Kd wk) (λA g x=>?_);refine wD 6 I<|QA (Xc I Zm)<|QA (X3 I I O)<|QA (Mj (i.s'.length-9) rfl rfl Zm wS O)<|wB 2 I<|Qj ?_
  exact Ql (⟨i.s'.take (i.s'.length-9),i.out++[(Jc (i.s'.drop (i.s'.length-9)):Int)],A,g,i.dg.append (DG.cons O (vK (Tc i.al _) (by rw[aL];omega)) (DG.nil _)),MZ i.al _,by rw[av,aA,aK];omega,QGO i.h O,by simpa[Jo]using x⟩) (by show(i.s'.take (i.s'.length-9)).length<i.s'.length;rw[av];omega) wv we λF h=>⟨h.1.1.1,trivial⟩
 have h9:i.s'.length<=9:=tD<|wj hc
 refine Qx ?_
 repeat first|refine QY ?_|refine QO tH ?_
 refine QZ<|wE 6 I<|QI I (λ_ _ f k=>Ol f (i.al) O) λ_=>Qb I (Q5 Q2) JK R4 I I λQ=>ZL (bs':=[(b2,.cells [.bool false,.slice none 0 0].toArray 147 (0,0))]++i.ob) (bC _) ?_
 refine Z4 (ob:=i.ob) (k:=1) (sz:=1) (news:=[.int .i64 ((Jc i.s':Int))]) I I Q2 JK R4 I F6 i.hr (Src.row (off:=0) tO (λj v m=>by rw[aR];show([.int .i64 ((Jc i.s':Int))].toArray)[j]?=some v;rw[aF];exact m) rfl) O O (Kd wk) (λH D u=>?_);obtain⟨r,m,o,L,y⟩:=Q8.fix (w0:=w) (F0:=F) (bs1:=[(b2,.cells [.bool false,.slice none 0 0].toArray 147 (0,0))]) (G:=_) u;refine Zj y ?_;rw[m];refine QI I (λw F B ⟨⟨⟨⟨P,_⟩,_⟩,n⟩,E⟩=>Hg B (r:=r) (l:=i.out++[(Jc i.s':Int)]) (neg:=ao s [45]) ⟨by rw[o];simpa[Jo]using E,by rw[o];simp,O⟩ (i.dg.append (DG.cons O (vK i.al h9) (DG.nil _))) (by first | omega | (simp;omega))) (λC=>QW (vs:=[_,_]) I I I XB I .here .h2 wm<|wY<|QX ?_);exact QP (C) rfl (.JX (c:=[_,_]) I XB .here .nil) (rfl) λF ⟨⟨⟨⟨⟨P,_⟩,_⟩,n⟩,E⟩,z⟩=>(by rw[QHY i.h]at z;exact z)
def Ih(z:Int):(Ze z).length<=sz z+2:=by
 have h:(au z.natAbs).length<=sz z+1:=by
  rw[aY];refine Ke ?_ O;have h1:=E6 z;have h2:2^sz z<=10^sz z:=bX tF _;have h3:10^sz z<=10^(sz z+1):=aS tF O;omega
 rcases bG z 0 with g | g
 ·rw[Yo g,aD];omega
 rw[XJ g];omega
def dW(n:Nat):(au n).length<=sz (n:Int)+1:=by
 rw[aY];refine Ke ?_ O;have h1:=E6 (n:Int);have h2:2^sz (n:Int)<=10^sz (n:Int):=bX tF _;have h3:10^sz (n:Int)<=10^(sz (n:Int)+1):=aS tF O;simp at h1;omega
def Ie(x:Rat):(JP x).length<=2*JW x+4:=by
 have h1:=Ih x.num;have h2:=dW x.den;have h3:=Jv x;have h4:=Jt x;unfold JP;split
 ·omega
 rw[aA,aD];omega
def vi{l:List UInt8}(h:l.contains 47=false):l.all (λc=>!Zw c)=true:=by
 rw[fe];intro c hc;have:c≠47:=by rintro rfl;simp[hc]at h
 simp[Zw,this]
def Pf(z:Int):(Ze z).contains 47=false:=Mk z tF tF
def LL(h:x.den=1):JP x=Ze x.num/\ahead Zw (JP x)=(JP x).length:=by
 have e:JP x=Ze x.num:=by unfold JP;rw[if_pos h]
 exact⟨e,by rw[e];exact vm (vi (Pf _))⟩
def EB(h:x.den≠1):ahead Zw (JP x)=(Ze x.num).length/\ahead Zw (JP x)<(JP x).length/\(JP x).take (ahead Zw (JP x))=Ze x.num/\(JP x).drop (ahead Zw (JP x)+1)=au x.den:=by
 have e:JP x=Ze x.num++47::au x.den:=by unfold JP;rw[if_neg h]
 have h1:ahead Zw (JP x)=(Ze x.num).length:=by
  refine vj (by rw[e];simp) ?_ ?_
  ·rw[e,List.take_append_of_le_length (aq _),aH];exact vi (Pf _)
  simp[e,Zw]
 rw[h1];refine⟨rfl,by rw[e];simp,?_,?_⟩
 ·rw[e];simp
 rw[e,List.drop_append];simp
def LM(x:Rat):(ahead Zw (JP x)=(JP x).length)↔x.den=1:=by
 constructor
 ·intro h;by_cases g:x.den=1
  ·exact g
  have:=(EB g).2.1;omega
 intro h;exact(LL h).2
def vW(z:Int):ZJ (aa (Ze z) [45])=true:=by rw[Hf];exact Jy _
def QD1(n:Nat):ZJ (aa (au n) [45])=true:=by rw[WM (Jy n)];exact Jy _
def QDU(n:Nat):Y9 (au n)=n:=by rw[YO (Jy n),Xi]
@[reducible] def Ri.v2 (c:Ri×Ri):Value:=.tuple #[c.1.v,c.2.v]
theorem Mu(z:Fits F w)(B:JW x<=100000):QU prog 97 [tx (JP x)] w F Ri.v2 (λc F=>E4 F c.1 x.num/\E4 F c.2 x.den):=by
 have o:=Ie x;refine QU.intro (G:=λF=>True) func97 rfl tH rfl rfl z tL<|wa<|Qc Wk λb2=>Qc Wk λb3=>wY<|wb rfl<|wZ rfl<|wb rfl<|QI rfl (λ_ _ f k=>Sn f O) λ_=>wZ rfl<|QG<|wb rfl<|wW rfl ?_
 refine QA (Xc I Zm)<|wD 3 I ?_
 refine QQ I (λhc=>?_) λhc=>?_
 ·have hd:x.den=1:=(LM x).1 (by have:(ahead Zw (JP x):Int)=((JP x).length:Int):=(by simpa using hc);omega);rw[(LL hd).1];refine wb I<|QI I (λ_ _ f k=>Sq f (vW _) (by have:=Ih x.num;have:=Jv x;omega)) λn=>QI I (λ_ _ f k=>Sm f tF) λm=>QW (vs:=[_,_]) I I I XB I .u1 .h2 wm<|QW (vs:=[_,_]) I I I XB I .here .h2 wm<|wY<|QX ?_
  exact Je ((n,m):Ri×Ri) rfl (.JX (c:=[_,_]) I XB .u1 (.JX (c:=[_,_]) I XB .here .nil)) (rfl) λF ⟨⟨⟨y,_⟩,b⟩,i⟩=>⟨by rw[Kt]at b;exact b,by have e:(x.den:Int)=1:=(by rw[hd];rfl);rw[e];exact i⟩
 have hd:¬x.den=1:=λg=>by have:=(LM x).2 g;rw[this]at hc;simp at hc
 obtain⟨A,k2,u,s⟩:=EB hd;refine wC 3 I<|JG (.cons _ (.cons _ .slnil)) mixed tE<|QK (QD I)<|QK (QD I)<|QK (Mj (ahead Zw (JP x)) I I Zm I O) ?_
 rw[u];refine QR I (λ_ _ f k=>Sq f (vW _) (by have:=Ih x.num;have:=Jv x;omega)) (λl=>QK (QD I)<|QK (QD I)<|QK (Qu I I O)<|QK (GL ((ahead Zw (JP x)+1)) I I Zm wS O) ?_);rw[s];refine QR I (λ_ _ f k=>Sq f (QD1 _) (by have:=dW x.den;have:=Jt x;omega)) (λj=>JV (vs:=[_,_]) I I I XB I .u1 (.cons _ .slnil) (λ_ h=>h.1.1) .h2 wm<|JV (vs:=[_,_]) I I I XB I .here (.cons _ .slnil) (λ_ h=>h.1.1) .h2 wm<|Q7<|QC<|QX ?_);exact Je ((l,j):Ri×Ri) rfl (.JX (c:=[_,_]) I XB .u1 (.JX (c:=[_,_]) I XB .here .nil)) (rfl) λF ⟨⟨⟨y,_⟩,TL⟩,a⟩=>⟨by rw[Kt]at TL;exact TL,by rw[QDU]at a;exact a⟩
structure QJX(zx zy:Int) where
 n:Ri
 d:Ri
 zn:Int
 zd:Int
 h:0<zd
 e:aj zn zd=aj zx zy
 sn:sz zn<=500000
 sd:sz zd<=500000
theorem QGd{n d:Int}(h:0<d){neg:Bool}{l p:List Int}(hn:Ry neg l n)(hp:dv B9 p=dv B9 l/(aV n d:Int)):Iv neg p=(aj n d).num:=by
 rw[(V8 h).1];have i:(0:Int)<(aV n d:Int):=tD (Gz (x:=n) h);obtain⟨k,hk⟩:=fh (a:=n) (b:=d);have e:=hn.e;have g:=hn.v0;unfold Iv at e ⊢;rw[hp];cases neg with
 |true =>
  simp only[if_true]at e ⊢;have f:dv B9 l=(aV n d:Int)*(-k):=by rw[fI,<-hk];omega
  rw[f,eQ _ O];have c:n/(aV n d:Int)=k:=by
   conv=>lhs;lhs;rw[hk]
   exact eQ _ O
  rw[c];omega
 |false =>
  simp only[Bool.false_eq_true,if_false]at e ⊢;rw[<-e]
def QGe{n d:Int}(h:0<d){neg:Bool}{l p:List Int}(hn:Ry neg l d)(hp:dv B9 p=dv B9 l/(aV n d:Int)):dv B9 p=((aj n d).den:Int):=by
 rw[(V8 h).2,hp];have:=hn.abs;congr 1;omega
def cq{n d:Int}{a b:Bool}{m:List Int}(hn:Ry a l n)(hd:Ry b m d):aV (dv B9 l) (dv B9 m)=aV n d:=by
 rw[<-hn.abs,<-hd.abs];simp[aV]
def QAC(x y:Int):aj (-x) (-y)=aj x y:=fc x y
theorem zQ(h:DG B9 l)(hz:NZ l):(l.length=1/\Qm l 0=1)↔dv B9 l=1:=by
 constructor
 ·rintro⟨h1,h2⟩;obtain⟨x,rfl⟩:=List.length_eq_one_iff.1 h1;simp[Qm]at h2;simp[dv,h2]
 intro e;have:l=[1]:=pf TL h (DG.cons tF tF (DG.nil _)) hz (by simp[NZ]) (by rw[e];simp[dv]);subst this;exact⟨rfl,rfl⟩
def QCt(h:(x.den:Int)=1):Ze x.num=JP x:=by unfold JP;rw[if_pos O]
theorem ga(h:¬(x.den:Int)=1):Ze x.num++[47]++Ze (x.den:Int)=JP x:=by
 unfold JP;rw[if_neg O,XJ (z:=(x.den:Int)) O];simp
theorem Mv{x y:Ri}{D:Int}(hF:Fits F w)(hx:E4 F x zx)(hy:E4 F y D)(h0:D≠0)(K:sz zx<=500000)(H:sz D<=500000):Qf prog 100 [x.v,y.v] w F (tx (JP (aj zx D))):=by
 obtain⟨Z,⟨Y,xm,xc⟩,xl⟩:=x;have px:=hx.p;have lx:=px.len;have kx:=hx.1.2.1;have vx:=px.v0;dsimp only at px lx kx vx;obtain⟨T,⟨S,U,X⟩,V⟩:=y;have P:=hy.p;have ly:=P.len;have ky:=hy.1.2.1;have vy:=P.v0;dsimp only at P ly ky vy;dsimp only[Ri.v];have C:=P.neg;refine QU.intro (G:=λF=>E4 F ⟨Z,⟨Y,xm,xc⟩,xl⟩ zx/\E4 F ⟨T,⟨S,U,X⟩,V⟩ D) func100 rfl tH rfl rfl hF (λF' L=>⟨hx.le L,hy.le L⟩)<|wa<|Qp rfl (vs:=[_,_]) rfl λb2=>Qp rfl (vs:=[_,_]) rfl λb3=>wX rfl<|QE<|QC ?_
 refine Us (ι:=QJX zx D) [(2,_),(3,_)] (λi=>[]) (λi=>[(b3,.cells [.bool i.d.neg,.slice i.d.r.q i.d.r.n i.d.r.cap].toArray 147 (0,0)),(b2,.cells [.bool i.n.neg,.slice i.n.r.q i.n.r.n i.n.r.cap].toArray 147 (0,0))]) (λi F=>E4 F i.n i.zn/\E4 F i.d i.zd) wm ?_ ?_
 ·refine wa<|QA (QH I Ea R5)<|QA (Qe I R5 .here .h1)<|QE<|QC ?_
  refine QQ I (λhc=>?_) λhc=>?_
  ·refine Jq 4 we mixed tE tE ?_;simp only[List.take_succ_cons,List.take_zero,List.drop_succ_cons,bm];refine QK (wN I XB .u1)<|QR I (λ_ _ f k=>uu f (x:=⟨Z,⟨Y,xm,xc⟩,xl⟩) k.1 O) λc14=>QK (wN I XB .here)<|QR I (λ_ _ f k=>uu f (x:=⟨T,⟨S,U,X⟩,V⟩) k.1.2 O) λc16=>ZS<|QW (vs:=[_,_]) I I I XB I .u1 .h2 wm<|QW (vs:=[_,_]) I I I XB I .here .h2 wm<|QE ?_
   exact Za (⟨c14,c16,-zx,-D,by rw[hc]at C;have:=wi C.symm;omega,QAC _ _,by rw[Vm];exact K,by rw[Vm];exact H⟩) wm we λF h9=>⟨⟨h9.1.1.1,h9.1.1.2⟩,⟨h9.1.2,h9.2⟩⟩
  refine QN ?_;exact Za (⟨⟨Z,⟨Y,xm,xc⟩,xl⟩,⟨T,⟨S,U,X⟩,V⟩,zx,D,by rw[hc]at C;have:=wj C.symm;omega,rfl,K,H⟩) wm we λF ⟨hx,hy⟩=>⟨⟨hx,hy⟩,⟨hx,hy⟩⟩
 intro i;simp only[ab,af];refine XV _ (λ_ _ f h=>aM h.2.1.p (aM h.2.2.p (aM h.2.1.1.2.1 h.2.2.1.2.1))) (λpp=>?_);obtain⟨pn,u,kn,kd⟩:=pp;have ln:=pn.len;have ld:=u.len;have hsn:=i.sn;have hsd:=i.sd;have hi:=i.h;have Q:=cq pn u;have q1:=Vl (a:=i.zn) (b:=i.zd) O;have q2:=Jv (aj i.zn i.zd);have q3:=Jt (aj i.zn i.zd);have q4:sz (aj i.zn i.zd).num<=500000:=O;have q5:sz ((aj i.zn i.zd).den:Int)<=500000:=O;refine wa<|QA (QH I K2 JM)<|QA (Qe I JM .u1 (.skip .h1))<|QA (QH I K2 JM)<|QA (Qe I JM .here (.skip .h1)) ?_
 refine QI I (λ_ _ f k=>vM f (a:=i.n.l) (b:=i.d.l) (ra:=i.n.r) (rb:=i.d.r) k.2.1.1 (k.2.2.1) (pn.dg) (u.dg) (pn.nz) (u.nz) O O) (λc21=>?_);rcases c21 with ⟨v21,B⟩;dsimp only;refine JQ _ (λw F hF ⟨⟨⟨hx,hy⟩,⟨hN,hD⟩⟩,⟨h21,M⟩⟩=>aM h21.2 M) (λm=>wZ rfl<|QG ?_);have g0:0<dv B9 B:=by rw[m.2.2.2,Q];have:=Gz (x:=i.zn) i.h;omega
 have l21l:B.length<=i.d.l.length:=by
  refine RT m.2.1 u.dg m.2.2.1 ?_;rw[m.2.2.2,Q];have h1:(aV i.zn i.zd:Int)<=i.zd:=Int.le_of_dvd i.h (Int.gcd_dvd_right (a:=i.zn) (b:=i.zd));have h2:=u.abs;omega
 refine QB<|QA (QH rfl K2 JM)<|QA (Qe rfl JM .u1 (.skip .h1))<|wW rfl<|QI rfl (λ_ _ f k=>T2 f (a:=i.n.l) (b:=B) (ra:=i.n.r) (rb:=v21) k.1.2.1.1 (k.2.1) (pn.dg) (m.2.1) (pn.nz) (m.2.2.1) (g0) O O) λE=>wW rfl<|QA (Qa rfl rfl)<|QA (Qa rfl rfl)<|wX rfl<|wZ rfl<|QG<|XV _ (λ_ _ f h=>aM h.2.1.2 h.2.1.1.2.1) λs=>?_
 obtain⟨s,n26⟩:=s;refine QB<|QA (QH rfl K2 JM)<|QA (Qe rfl JM .here (.skip .h1))<|wW rfl<|QI rfl (λ_ _ f k=>T2 f (a:=i.d.l) (b:=B) (ra:=i.d.r) (rb:=v21) k.1.1.2.2.1 (k.1.2.1) (u.dg) (m.2.1) (u.nz) (m.2.2.1) (g0) O O) λc=>wW rfl<|QA (Qa rfl rfl)<|QA (Qa rfl rfl)<|wX rfl<|wZ rfl<|QG<|XV _ (λ_ _ f h=>aM h.2.1.2 h.2.1.1.2.1) λj=>?_
 obtain⟨j,n33⟩:=j;have en:Iv i.n.neg E.1.2=(aj i.zn i.zd).num:=QGd i.h pn (by rw[s.2.2,m.2.2.2,Q]);have R:dv B9 c.1.2=((aj i.zn i.zd).den:Int):=QGe i.h u (by rw[j.2.2,m.2.2.2,Q]);have N:Iv false c.1.2=((aj i.zn i.zd).den:Int):=by rw[<-R];rfl
 have lnp:=RT s.1 pn.dg s.2.1 (by rw[s.2.2];exact bB _ pn.v0);have lnq:=RT j.1 u.dg j.2.1 (by rw[j.2.2];exact bB _ u.v0);have z:=zQ j.1 j.2.1;have lr1:=Ih (aj i.zn i.zd).num;have lr2:=Ih ((aj i.zn i.zd).den:Int);refine QB<|QA (QH I Ea R5)<|QA (Qe I R5 .u1 .h1)<|wW I<|QI I (λ_ _ f k=>Hg f (r:=E.1.1) (l:=E.1.2) (neg:=i.n.neg) k.1.2.1.1 (s.1) (by first | omega | (simp;omega))) λc39=>QI I (λ_ _ f k=>jY f (zx:=(aj i.zn i.zd).num) (by rw[<-en];exact k.2) O) λ_=>wD 7 I<|QA (Qg I Q2)<|wB 2 I ?_
 refine Qn (t:=44) rfl (λA=>?_) λA=>?_
 ·have hn1:c.1.1.n=1:=by simp at A;omega
  refine wB 3 I<|QA (Q3 (n:=c.1.1.n) (0) (λF h9=>(h9.1.1.2.1.1).1) rfl wS Q2 JK O)<|QL I I<|QA (JA (n:=c.1.1.n) ((0)*1) (λF h9=>(h9.1.1.2.1.1).1) O rfl JK (Jz (o:=c.1.2) O))<|wD 5 I ?_
  refine QQ I (λhc=>?_) λhc=>?_
  ·refine wA 7 I ?_;exact wg I I (by rw[<-i.e];exact congrArg (λl=>tx l) (QCt (by rw[<-R];exact z.1 ⟨O,by simpa using hc⟩)).symm) tL
  refine wC 5 I<|QA (Yf I I tK)<|wW I<|QI I (λ_ _ f k=>Hg f (r:=c.1.1) (l:=c.1.2) (neg:=false) k.1.1.2.1.1 (j.1) (by first | omega | (simp;omega))) λc54=>QI I (λ_ _ f k=>jY f (zx:=((aj i.zn i.zd).den:Int)) (by rw[<-N];exact k.2) O) λ_=>QA (Yf I I tK)<|wD 4 I ?_
  exact wg I I (by rw[<-i.e];exact congrArg (λl=>tx l) (ga λg=>by have:=z.2 (by rw[R];exact g);rw[this.2]at hc;simp at hc).symm) tL
 have hn1:c.1.1.n≠1:=by simp at A;omega
 refine wD 7 I<|Yj I<|wC 5 I<|QA (Yf I I tK)<|wW I<|QI I (λ_ _ f k=>Hg f (r:=c.1.1) (l:=c.1.2) (neg:=false) k.1.1.2.1.1 (j.1) (by first | omega | (simp;omega))) λc54=>QI I (λ_ _ f k=>jY f (zx:=((aj i.zn i.zd).den:Int)) (by rw[<-N];exact k.2) O) λ_=>QA (Yf I I tK)<|wD 4 I ?_
 exact wg I I (by rw[<-i.e];exact congrArg (λl=>tx l) (ga λg=>by have:=z.2 (by rw[R];exact g);omega).symm) tL
def B3(x:Rat):Rat:=if x.num<0 then -x else x
def QEr(x:Rat):(B3 x).num=(x.num.natAbs:Int)/\(B3 x).den=x.den:=by
 unfold B3;split
 ·exact⟨by rw[eY];omega,by rw[fF]⟩
 exact⟨O,rfl⟩
def QDa(h:z<0):Ze z=45::Ze (-z):=by
 rw[Yo h,XJ (z:=-z) O];congr 2;omega
def Ox(h:x.num<0):JP x=45::JP (-x):=by
 unfold JP;rw[eY,fF,QDa h];split<;>rfl
theorem SB(x:Rat):ao (JP x) [45]=decide (x.num<0):=by
 by_cases h:x.num<0
 ·rw[Ox h];simp[ao,eB,h]
 have e:(decide (x.num<0))=false:=by simpa using h
 rw[e];unfold JP;rw[XJ O];have hd:=Jy x.num.natAbs;split
 ·exact Vn hd
 have a:=Kn x.num.natAbs;cases b:au x.num.natAbs with
 |nil=>exact absurd b a
 |cons c r =>
  have:=Vn hd;rw[b]at this;simpa[ao,eB]using this
def uy(x:Rat):aa (JP x) [45]=JP (B3 x):=by
 unfold aa B3;rw[SB];by_cases h:x.num<0
 ·rw[if_pos (by simpa using h),if_pos h,Ox h];rfl
 rw[if_neg (by simpa using h),if_neg h]
def QEX(x:Rat):JW (B3 x)=JW x:=by
 unfold B3;split
 ·exact Vh x
 rfl
def QGv(x:Rat)(c:Int×Int×Bool):Prop:=c.2.2=true->c.1=x.num/\c.2.1=(x.den:Int)/\x.num.natAbs<1000000000/\x.den<1000000000
def xU{l:List UInt8}(h:ZJ l=true)(a:l.length<=9):Jc l<1000000000:=by
 have h1:=Hb h;have h2:10^l.length<=10^9:=aS tF a;omega
theorem Ot(P:Fits F w)(T:JW x<=100000):QU prog 99 [tx (JP x)] w F (λ(c:Int×Int×Bool)=>.tuple #[.int .i64 c.1,.int .i64 c.2.1,.bool c.2.2]) (λc _=>QGv x c):=by
 have E:=Ie x;have n:=Ie (B3 x);rw[QEX]at n;obtain⟨R,C⟩:=QEr x;have N:=Et Zw (JP (B3 x));have j:Ze (B3 x).num=au x.num.natAbs:=by rw[R,XJ O];rfl
 refine QU.intro (G:=λF=>True) func99 rfl tH rfl rfl P tL<|wa<|wX rfl<|wX rfl<|wZ rfl<|wb rfl<|wZ rfl<|QG<|wb rfl<|QA (Xc rfl Zm)<|QA (QT rfl rfl rfl)<|QE<|QC ?_
 refine QQ I (λhc=>?_) λhc=>?_
 ·refine wA 8 I ?_;exact Je ((0,0,false):Int×Int×Bool) rfl (.tmp rfl (wU rfl rfl)) (rfl) λF U=>λh=>by cases h
 refine QN<|QC ?_
 refine ZZ [(5,_)] [(6,.bool (decide (x.num<0)))] wk ?_ ?_
 ·refine wA 2 I<|QA (Xc I Zm)<|wB 2 I ?_
  refine Qn (t:=17) rfl (λa=>?_) λa=>?_
  ·refine wB 3 I<|QA (Hh (i:=0) rfl rfl Zm (tD<|wi a))<|wB 5 I ?_
   exact JY ⟨rfl,(congrArg (λb=>some (ag b)) (by have h0:0<(JP x).length:=(tD<|wi a);rw[<-SB,EG h0];exact AF I)),trivial⟩ we tM
  refine wB 6 I ?_;exact JY ⟨rfl,(congrArg (λb=>some (ag b)) (by have h0:(JP x).length=0:=(tD<|wj a);rw[<-SB,ak h0];rfl)),trivial⟩ we tM
 simp only[ab,af];refine ZZ [(6,_)] [(5,tx (JP (B3 x)))] wk ?_ ?_
 ·refine wA 5 I ?_;refine QQ I (λhc=>?_) λhc=>?_
  ·refine wA 2 I<|QA (GL (1) rfl rfl Zm I (by have:=Ld (s:=JP x) (by rw[SB];exact hc);omega))<|wB 2 I ?_
   exact JY ⟨rfl,(congrArg (λl=>some (tx l)) (by rw[<-uy];unfold aa;rw[if_pos (by rw[SB];exact hc)];rfl)),trivial⟩ we tM
  refine QN ?_;exact JY ⟨rfl,(congrArg (λl=>some (tx l)) (by rw[<-uy];unfold aa;rw[SB,hc];rfl)),trivial⟩ we tM
 simp only[ab,af];refine wb I<|QI I (λ_ _ f k=>Sn f O) λ_=>wD 9 I ?_
 refine Qn (t:=29) rfl (λm=>?_) λm=>?_
 ·refine wD 8 I<|SG I<|wA 8 I ?_
  exact Je ((0,0,false):Int×Int×Bool) rfl (.tmp rfl (wU rfl rfl)) (rfl) λF h9=>λh=>by cases h
 refine wB 3 I<|QA (Xc I Zm)<|wB 3 I<|QA (X3 I I O)<|wD 5 I ?_
 refine QQ I (λhc=>?_) λhc=>?_
 ·refine wA 8 I ?_;exact Je ((0,0,false):Int×Int×Bool) rfl (.tmp rfl (wU rfl rfl)) (rfl) λF h9=>λh=>by cases h
 have S:ahead Zw (JP (B3 x))<=9/\(JP (B3 x)).length-ahead Zw (JP (B3 x))<=10:=by
  have ha:=Et Zw (JP (B3 x))
  first | (simp at hc m;omega) | (simp at hc;omega)
 have y:(JP (B3 x)).take (ahead Zw (JP (B3 x)))=Ze (B3 x).num:=by
  by_cases hd:(B3 x).den=1
  ·obtain⟨K,H⟩:=LL hd;rw[H,aH,K]
  exact(EB hd).2.2.1
 have L:Jc ((JP (B3 x)).take (ahead Zw (JP (B3 x))))=x.num.natAbs:=by rw[y,j,Xi]
 have o:x.num.natAbs<1000000000:=by
  have h1:=xU (l:=Ze (B3 x).num) (by rw[j];exact Jy _) (by rw[<-y,av];omega);rw[j,Xi]at h1;exact h1
 have B:x.den<1000000000:=by
  rw[<-C];by_cases hd:(B3 x).den=1
  ·omega
  obtain⟨K,H,V,Q⟩:=EB hd;have h1:=xU (l:=au (B3 x).den) (Jy _) (by rw[<-Q,aL];omega);rw[Xi]at h1;exact h1
 refine wC 6 I<|QA (Mj (ahead Zw (JP (B3 x))) I I Zm I O)<|QI I (λ_ _ f k=>Ol f (by rw[y,j];exact Jy _) (by rw[av];omega)) λ_=>?_
 rw[L];refine wD 4 I ?_;refine ZZ [(6,_),(8,_)] [(9,.int .i64 (x.den:Int))] wm ?_ ?_
 ·refine wA 4 I<|QA (Xc I Zm)<|wD 3 I ?_
  refine QQ I (λhc=>?_) λhc=>?_
  ·have M:=wi hc;have hd:¬(B3 x).den=1:=λg=>by have:=(LM (B3 x)).2 g;have:=wi hc;omega
   have D:=(EB hd).2.2.2;have A:Jc ((JP (B3 x)).drop (ahead Zw (JP (B3 x))+1))=x.den:=by rw[D,Xi,C]
   refine wA 3 I<|QA (Qu I I O)<|QA (GL ((ahead Zw (JP (B3 x))+1)) I I Zm wS O)<|QI I (λ_ _ f k=>Ol f (by rw[D];exact Jy _) (by rw[aL];omega)) λ_=>?_
   rw[A];refine wB 2 I ?_;exact JY wu we tN
  have hd:(B3 x).den=1:=(LM (B3 x)).1 (by have:=wj hc;have:=Et Zw (JP (B3 x));omega);refine QN ?_;exact JY ⟨rfl,rfl,(congrArg (λz:Int=>some (ae .i64 z)) (by rw[<-C,hd];rfl)),trivial⟩ we tM
 simp only[ab,af];have u:x.den<1000000000:=B;refine ZZ [(9,_)] [(8,.int .i64 (x.num))] wk ?_ ?_
 ·refine wA 5 I ?_;refine QQ I (λhc=>?_) λhc=>?_
  ·refine wA 2 I<|QA (X3 I I O)<|wB 2 I ?_
   exact JY ⟨rfl,(congrArg (λz:Int=>some (ae .i64 z)) (tD<|wi hc)),trivial⟩ we tM
  refine QN ?_;exact JY ⟨rfl,(congrArg (λz:Int=>some (ae .i64 z)) (tD<|wj hc)),trivial⟩ we tM
 simp only[ab,af];refine wA 10 I ?_;exact Je ((x.num,(x.den:Int),true):Int×Int×Bool) rfl (.tmp rfl (wU I I)) (rfl) λF h9=>λ_=>⟨rfl,rfl,o,u⟩
section
variable{P:Program}{N:Nat}{m:Sl}{S:World->Prop}{ty:TypeId}
def QHT{x:Operand}{a b:Int}(hx:ev m x=some (.int .i64 a))(hy:ev m y=some (.int .i64 b))(h:0<b)(h0 : -9223372036854775807<=a)(h1:a<=9223372036854775807):Qt P N m S (.binOp .quo T x y yT) ty (.int .i64 (a.tdiv b)):=by
 have:=vQ (P:=P) (N:=N) (m:=m) (S:=S) (ty:=ty) (T:=T) (yT:=yT) hx hy O;have e:=eF a b;have c:a.natAbs.div b.natAbs<=a.natAbs:=eE _ _;rw[ey _ O]at this;exact this
end
theorem QGL{x y:Int}(f:Fits F w)(h0:0<=x)(h1:x<=9223372036854775807)(c:0<=y)(g:y<=9223372036854775807):Qf prog 103 [.int .i64 x,.int .i64 y] w F (.int .i64 (ba x.toNat y.toNat:Nat)):=by
 have:=QHQ (a:=x.toNat) (b:=y.toNat) f O O;rw[bZ h0,bZ c]at this;exact this
def QE9(z:Int):(if 0-z>z then 0-z else z)=((z.natAbs:Nat):Int):=by split<;>omega
def QAF(n:Nat):qW n 1=au n:=by
 rcases aB n with h | h
 ·subst h;unfold qW hd;rw[if_pos rfl,YX];rfl
 exact yt h
theorem QE1{n:Int}{d:Nat}(h:0<d):n.tdiv ((ba n.natAbs d:Nat):Int)=(aj n d).num:=by
 rw[(V8 (x:=n) (y:=(d:Int)) O).1];have e:(ba n.natAbs d:Nat)=aV n (d:Int):=by simp[aV]
 rw[e];exact Int.tdiv_eq_ediv_of_dvd (fh (a:=n) (b:=(d:Int)))
theorem QE2{n:Int}{d:Nat}(h:0<d):(d:Int)/((ba n.natAbs d:Nat):Int)=((aj n d).den:Int):=by
 rw[(V8 (x:=n) (y:=(d:Int)) O).2];have e:(ba n.natAbs d:Nat)=aV n (d:Int):=by simp[aV]
 rw[e]
def QGR(n:Int){d:Int}(h:d≠0):aj (if d<0 then 0-n else n) (d.natAbs:Int)=aj n d:=by
 split
 ·rename_i g;rw[show((d.natAbs:Nat):Int) = -d by omega,Int.zero_sub];exact fc n d
 rw[show((d.natAbs:Nat):Int)=d by omega]
def QE3{n:Int}{d:Nat}(h:0<d)(hn:n.natAbs<=4000000000000000000)(hd:d<=4000000000000000000):(aj n d).num.natAbs<=4000000000000000000/\(aj n d).den<=4000000000000000000/\0<(aj n d).den:=by
 have b:=QE1 (n:=n) h;have g:=QE2 (n:=n) h;have a:=eF n ((ba n.natAbs d:Nat):Int);have k2:n.natAbs.div ((ba n.natAbs d:Nat):Int).natAbs<=n.natAbs:=eE _ _;have f:(d:Int)/((ba n.natAbs d:Nat):Int)<=(d:Int):=bB _ O;have c:=(aj n d).den_pos;rw[b]at a;omega
def cL(z:Int):(if z<0 then[45]else[])++au z.natAbs=Ze z:=by
 split
 ·rename_i h;rw[Yo h];rfl
 rw[XJ O];rfl
def QEY(h : -9223372036854775808<=z/\z<=9223372036854775807):sz z<=64:=by
 rw[XD];omega
theorem QG2{num den:Int}(s:Fits F w)(hn : -9223372036854775808<=num/\num<=9223372036854775807)(hd : -9223372036854775808<=den/\den<=9223372036854775807)(h0:den≠0):Qf prog 21 [.int .i64 num,.int .i64 den] w F (tx (JP (aj num den))):=by
 refine QU.intro (G:=λF=>True) func21 rfl tH rfl rfl s tL<|wa<|wZ rfl<|QG ?_
 refine ZZ [(0,_),(1,_)] [(20,.bool (decide (num < -4000000000000000000\/num>4000000000000000000\/den < -4000000000000000000\/den>4000000000000000000)))] wm ?_ ?_
 ·refine wA 4 I ?_;refine Qn (t:=9) rfl (λh=>?_) λh=>?_
  ·refine wB 12 I ?_;exact JY ⟨rfl,rfl,(congrArg (λb=>some (ag b)) (by rw[ay];simp_all;try omega)),trivial⟩ we tM
  refine wB 6 I ?_;refine Qn (t:=13) rfl (λg=>?_) λg=>?_
  ·refine wB 8 I ?_;exact JY ⟨rfl,rfl,(congrArg (λb=>some (ag b)) (by rw[ay];simp_all;try omega)),trivial⟩ we tM
  refine wB 6 I ?_;refine Qn (t:=17) rfl (λc=>?_) λc=>?_
  ·refine wB 4 I ?_;exact JY ⟨rfl,rfl,(congrArg (λb=>some (ag b)) (by rw[ay];simp_all;try omega)),trivial⟩ we tM
  refine wB 6 I ?_;exact JY ⟨rfl,rfl,(congrArg (λb=>some (ag b)) (by rw[ay];simp_all;try omega)),trivial⟩ we tM
 simp only[ab,af];refine QQ I (λhc=>?_) λhc=>?_
 ·refine wb I<|QI I (λ_ _ f k=>Sm f O) λA=>wW I<|QI I (λ_ _ f k=>Sm f O) λy=>QI I (λ_ _ f k=>Mv f (k.1.2) (k.2) (h0) (tD<|QEY hn) (tD<|QEY hd)) λ_=>wD 4 I ?_
  exact wg I I (rfl) tL
 have hb:¬(num < -4000000000000000000\/num>4000000000000000000\/den < -4000000000000000000\/den>4000000000000000000):=wj hc;refine QN<|QC ?_
 refine ZZ [] [(0,.int .i64 (if den<0 then 0-num else num)),(1,.int .i64 ((den.natAbs:Nat):Int))] trivial ?_ ?_
 ·refine wA 6 I ?_;refine QQ I (λhc=>?_) λhc=>?_
  ·refine wA 2 I<|QA (X3 I I O)<|wW I<|QA (X3 I I O)<|wB 3 I ?_
   exact JY ⟨(congrArg (λz:Int=>some (ae .i64 z)) (if_pos (wi hc)).symm),(congrArg (λz:Int=>some (ae .i64 z)) (tD<|wi hc)),trivial⟩ we tM
  refine QN ?_;exact JY ⟨(congrArg (λz:Int=>some (ae .i64 z)) (if_neg (wj hc)).symm),(congrArg (λz:Int=>some (ae .i64 z)) (tD<|wj hc)),trivial⟩ we tM
 simp only[ab,af];have hq:=QGR num h0;have b1:(if den<0 then 0-num else num).natAbs<=4000000000000000000:=by split<;>omega
 generalize (if den<0 then 0-num else num)=n1 at *
 obtain⟨c1,c2,C⟩:=QE3 (n:=n1) (d:=den.natAbs) O b1 O;have B:0<ba n1.natAbs den.natAbs:=Nat.gcd_pos_of_pos_right _ O;have o:=Ih (aj n1 (den.natAbs:Int)).num;have m:=dW (aj n1 (den.natAbs:Int)).den;have j:=QEY (z:=(aj n1 (den.natAbs:Int)).num) O;have i:=QEY (z:=((aj n1 (den.natAbs:Int)).den:Int)) O;have x:=QE1 (n:=n1) (d:=den.natAbs) O;have u:=QE2 (n:=n1) (d:=den.natAbs) O;refine wA 4 I<|QA (X3 I I O)<|QA (QG3 I I) ?_
 rw[QE9];refine wW I<|QI I (λ_ _ f k=>QGL f O O O O) λ_=>wD 4 I<|JG we mixed tE ?_
 simp only[er];refine QK (QD I)<|QK (QD I)<|QK (QHT I I O O O) ?_
 rw[x];refine QK (QD I)<|QK (QD I)<|QK (SO I I O O O) ?_
 rw[u];refine QK (QF I)<|QK (QF I)<|Q7<|wE 6 I ?_
 refine ZZ [(0,_),(1,_)] [(6,tx (if(aj n1 (den.natAbs:Int)).num<0 then[45]else[]))] wm ?_ ?_
 ·refine wA 6 I ?_;refine QQ I (λhc=>?_) λhc=>?_
  ·refine wA 3 I ?_;exact JY ⟨rfl,rfl,(congrArg (λl=>some (tx l)) (if_pos (wi hc)).symm),trivial⟩ we tM
  refine QN ?_;exact JY ⟨rfl,rfl,(congrArg (λl=>some (tx l)) (if_neg (wj hc)).symm),trivial⟩ we tM
 simp only[ab,af];refine wA 5 I<|QA (X3 I I O)<|QA (QG3 I I) ?_
 rw[QE9];refine QI I (λ_ _ f k=>SA f (least:=1) O O O) (λ_=>?_);simp only[er,QAF];refine QA (Yf I I (by have e:=congrArg ew (cL (aj n1 (den.natAbs:Int)).num);rw[aA]at e;omega))<|wD 6 I ?_
 rw[cL];refine wD 4 I ?_;refine QQ I (λhc=>?_) λhc=>?_
 ·have a:¬((aj n1 (den.natAbs:Int)).den:Int)=1:=tD<|wi hc
  refine wA 2 I<|QA (Yf I I (by simp only[aA,aD,bP];omega))<|wW I<|QI I (λ_ _ f k=>SA f (least:=1) O O O) λ_=>?_
  simp only[er,QAF];refine QA (Yf I I (by simp only[aA,aD,bP];omega))<|wD 10 I ?_
  exact wg I I (by rw[<-hq];exact congrArg (λl=>tx l) (by rw[<-ga a,O5])) tL
 have a:((aj n1 (den.natAbs:Int)).den:Int)=1:=tD<|wj hc
 refine wC 9 I ?_;exact wg I I (by rw[<-hq];exact congrArg (λl=>tx l) (QCt a).symm) tL
def dL(x:Rat):cP (JP x)=JP (-x):=by
 unfold cP R8;rw[SB];by_cases h0:JP x=[48]
 ·rw[if_pos h0];have hx:x=0:=by
   have a:=Kt x.num;by_cases hd:x.den=1
   ·rw[(LL hd).1]at h0;rw[h0]at a;have:x.num=0:=by rw[<-a];rfl
    exact Rat.num_eq_zero.1 this
   have:=(EB hd).2.2.1;have h1:=(EB hd).2.1;rw[h0]at h1;have h2:=(EB hd).1;have h3:0<(Ze x.num).length:=by
    rcases aB (Ze x.num).length with g | g
    ·have e:=ak g;unfold Ze at e;rcases bG x.num 0 with q | q
     ·have:=Yo q;unfold Ze at this;rw[this]at e;cases e
     have:=XJ q;unfold Ze at this;rw[this]at e;exact absurd e (Kn _)
    exact g
   rw[h0]at h2;simp at h1;omega
  subst hx;have e:(-0:Rat)=0:=tF;rw[e,if_neg tF,if_pos rfl]
 rw[if_neg h0];by_cases hn:x.num<0
 ·rw[if_pos (show(decide (x.num<0))=true by simpa using hn),if_pos tF,Ox hn];rfl
 rw[if_neg (show ¬(decide (x.num<0))=true by simpa using hn),if_neg tF,if_neg tF];have h1:(-x).num<0:=by
  rw[eY];have:x.num≠0:=by
   intro e;have:=Rat.num_eq_zero.1 e;subst this;exact h0 Sv
  omega
 have:=Ox h1;rw[Rat.neg_neg]at this;exact this.symm
def Oc(x:Rat):R8 (JP x)=Dm x.num:=by
 unfold R8;rw[SB];by_cases h0:x=0
 ·subst h0;rw[if_pos Sv];rfl
 have hn:x.num≠0:=λe=>h0 (Rat.num_eq_zero.1 e);have h1:JP x≠[48]:=by
  intro e;have h2:=dL x;unfold cP R8 at h2;rw[if_pos e,if_neg tF,if_pos rfl,e]at h2;by_cases hd:x.den=1
  ·have a:=Kt x.num;rw[<-(LL hd).1,e]at a;exact hn a.symm
  have:=(EB hd).2.2.1;have a:=Kt x.num;rw[<-this,e]at a;have h3:=(EB hd).2.1;rw[e]at h3;have h4:ahead Zw [48]=1:=tF;rw[h4]at h3;exact absurd h3 tF
 rw[if_neg h1];unfold Dm;by_cases g:x.num<0
 ·rw[if_pos (show(decide (x.num<0))=true by simpa using g),if_pos g]
 rw[if_neg (show ¬(decide (x.num<0))=true by simpa using g),if_neg g,if_neg hn]
theorem QGk(x y:Rat):Dm (x-y).num=Yw x y:=by
 rw[Ia];unfold Yw;have h1:(x-y<0)↔x<y:=by grind
 have h2:(x-y=0)↔x=y:=by grind
 simp only[h1,h2]
def QC9(n:Int):JP (n:Rat)=Ze n:=by unfold JP;rw[if_pos tJ];simp
theorem QA8{n:Int}(a:Fits F w)(hn : -9223372036854775808<=n/\n<=9223372036854775807):Qf prog 229 [.int .i64 n] w F (tx (JP (n:Rat))):=by
 refine QU.intro (G:=λF=>True) func229 rfl tH rfl rfl a tL<|wa<|wZ rfl<|wb rfl<|QI rfl (λ_ _ f k=>Sm f (hn)) λb=>QI rfl (λ_ _ f k=>jY f (k.2) (tD<|QEY hn)) λ_=>wD 4 I ?_
 exact wg I I (by rw[QC9]) tL
theorem xW{y:Rat}(N:Fits F w)(hx:JW x<=100000)(hy:JW y<=100000):Qf prog 60 [tx (JP x),tx (JP y)] w F (tx (JP (x+y))):=by
 refine QU.intro (G:=λF=>True) func60 rfl tH rfl rfl N tL<|wa<|wZ rfl<|wb rfl<|QI rfl (λ_ _ f k=>Ot f (hx)) λQ=>JQ _ (λ_ _ f k=>k.2) λg=>wW rfl<|QA (Qa rfl rfl)<|QA (Qa rfl rfl)<|QA (Qa rfl rfl)<|wX rfl<|wX rfl<|wZ rfl<|wb rfl<|QI rfl (λ_ _ f k=>Ot f (hy)) λP=>JQ _ (λ_ _ f k=>k.2) λc=>?_
 refine wD 14 I ?_;refine Qn (t:=28) rfl (λa=>?_) λa=>?_
 ·refine wD 5 I ?_;refine QQ I (λhc=>?_) λhc=>?_
  ·refine QG ?_;obtain⟨R,a2,a3,a4⟩:=g a;obtain⟨b1,b2,b3,b4⟩:=c hc;have T:=x.den_pos;have S:=y.den_pos;have Y:(x.num*y.den).natAbs<1000000000*1000000000:=by rw[aW];exact aC a3 O
   have X:(y.num*x.den).natAbs<1000000000*1000000000:=by rw[aW];exact aC b3 O
   have V:(x.num*y.num).natAbs<1000000000*1000000000:=by rw[aW];exact aC a3 b3
   have U:((x.den:Int)*y.den).natAbs<1000000000*1000000000:=by rw[aW];exact aC O O
   have b:(x.den:Int)*y.den≠0:=by have h1:=Km x;have h2:=Km y;exact bc h1 h2
   rw[R,a2,b1,b2];refine wA 3 I<|QA (Mx I I O)<|wB 2 I<|QA (Mx I I O)<|QA (Qu I I O)<|wB 2 I<|QA (Mx I I O)<|QI I (λ_ _ f k=>QG2 f O O (b)) λ_=>wD 4 I ?_
   exact wg I I (by rw[BO]) tL
  refine wC 3 I ?_;have D:=Jv x;have C:=Jt x;have B:=Jv y;have A:=Jt y;have M:=K8 x.num y.den;have L:=K8 y.num x.den;have K:=K8 (x.den:Int) y.den;have H:=K8 x.num y.num;have E:=LC (x.num*y.den) (y.num*x.den);have b:(x.den:Int)*y.den≠0:=bc (Km x) (Km y);refine wA 2 I<|QI I (λ_ _ f k=>Mu f (hx)) λn=>wB 3 I<|Qc Wk λz=>Qc Wk λu=>QW (vs:=[_,_]) I I I XB I .u1 .h2 wm<|QW (vs:=[_,_]) I I I XB I .here .h2 wm<|wD 5 I<|QI I (λ_ _ f k=>Mu f (hy)) λm=>wB 3 I<|Qc Wk λs=>Qc Wk λo=>QW (vs:=[_,_]) I I I XB I .u1 .h2 wm<|QW (vs:=[_,_]) I I I XB I .here .h2 wm<|QE<|QC ?_
  refine QG<|JG we mixed tE<|QK (wN I XB .u3)<|QK (wN I XB .here)<|QR I (λ_ _ f k=>DF f (k.1.2.1) (k.2.2) O O) λl=>QK (wN I XB .u1)<|QK (wN I XB .u2)<|QR I (λ_ _ f k=>DF f (k.1.2.1) (k.1.1.2.2) O O) λj=>QR I (λ_ _ f k=>QCo f (k.1.2) (k.2) O O) λi=>QK (wN I XB .u2)<|QK (wN I XB .here)<|QR I (λ_ _ f k=>DF f (k.1.1.1.1.2.2) (k.1.1.1.2.2) O O) λh=>QR I (λ_ _ f k=>Mv f (k.1.2) (k.2) (b) O O) λ_=>QK (QF I)<|Q7<|QC<|QX ?_
  exact wg I I (by rw[BO]) tL
 refine wD 4 I<|Yj I<|wC 3 I ?_
 have D:=Jv x;have C:=Jt x;have B:=Jv y;have A:=Jt y;have M:=K8 x.num y.den;have L:=K8 y.num x.den;have K:=K8 (x.den:Int) y.den;have H:=K8 x.num y.num;have E:=LC (x.num*y.den) (y.num*x.den);have b:(x.den:Int)*y.den≠0:=bc (Km x) (Km y);refine wA 2 I<|QI I (λ_ _ f k=>Mu f (hx)) λn=>wB 3 I<|Qc Wk λz=>Qc Wk λu=>QW (vs:=[_,_]) I I I XB I .u1 .h2 wm<|QW (vs:=[_,_]) I I I XB I .here .h2 wm<|wD 5 I<|QI I (λ_ _ f k=>Mu f (hy)) λm=>wB 3 I<|Qc Wk λs=>Qc Wk λo=>QW (vs:=[_,_]) I I I XB I .u1 .h2 wm<|QW (vs:=[_,_]) I I I XB I .here .h2 wm<|QE<|QC ?_
 refine QG<|JG we mixed tE<|QK (wN I XB .u3)<|QK (wN I XB .here)<|QR I (λ_ _ f k=>DF f (k.1.2.1) (k.2.2) O O) λl=>QK (wN I XB .u1)<|QK (wN I XB .u2)<|QR I (λ_ _ f k=>DF f (k.1.2.1) (k.1.1.2.2) O O) λj=>QR I (λ_ _ f k=>QCo f (k.1.2) (k.2) O O) λi=>QK (wN I XB .u2)<|QK (wN I XB .here)<|QR I (λ_ _ f k=>DF f (k.1.1.1.1.2.2) (k.1.1.1.2.2) O O) λh=>QR I (λ_ _ f k=>Mv f (k.1.2) (k.2) (b) O O) λ_=>QK (QF I)<|Q7<|QC<|QX ?_
 exact wg I I (by rw[BO]) tL
theorem C3{y:Rat}(L:Fits F w)(hx:JW x<=100000)(hy:JW y<=100000):Qf prog 20 [tx (JP x),tx (JP y)] w F (tx (JP (x*y))):=by
 refine QU.intro (G:=λF=>True) func20 rfl tH rfl rfl L tL<|wa<|wZ rfl<|wb rfl<|QI rfl (λ_ _ f k=>Ot f (hx)) λN=>JQ _ (λ_ _ f k=>k.2) λg=>wW rfl<|QA (Qa rfl rfl)<|QA (Qa rfl rfl)<|QA (Qa rfl rfl)<|wX rfl<|wX rfl<|wZ rfl<|wb rfl<|QI rfl (λ_ _ f k=>Ot f (hy)) λM=>JQ _ (λ_ _ f k=>k.2) λc=>?_
 refine wD 14 I ?_;refine Qn (t:=28) rfl (λa=>?_) λa=>?_
 ·refine wD 5 I ?_;refine QQ I (λhc=>?_) λhc=>?_
  ·refine QG ?_;obtain⟨P,a2,a3,a4⟩:=g a;obtain⟨b1,b2,b3,b4⟩:=c hc;have R:=x.den_pos;have Q:=y.den_pos;have V:(x.num*y.den).natAbs<1000000000*1000000000:=by rw[aW];exact aC a3 O
   have U:(y.num*x.den).natAbs<1000000000*1000000000:=by rw[aW];exact aC b3 O
   have T:(x.num*y.num).natAbs<1000000000*1000000000:=by rw[aW];exact aC a3 b3
   have S:((x.den:Int)*y.den).natAbs<1000000000*1000000000:=by rw[aW];exact aC O O
   have b:(x.den:Int)*y.den≠0:=by have h1:=Km x;have h2:=Km y;exact bc h1 h2
   rw[P,a2,b1,b2];refine wA 3 I<|QA (Mx I I O)<|wB 2 I<|QA (Mx I I O)<|QI I (λ_ _ f k=>QG2 f O O (b)) λ_=>wD 4 I ?_
   exact wg I I (by rw[BF]) tL
  refine wC 3 I ?_;have B:=Jv x;have A:=Jt x;have z:=Jv y;have u:=Jt y;have K:=K8 x.num y.den;have H:=K8 y.num x.den;have E:=K8 (x.den:Int) y.den;have D:=K8 x.num y.num;have C:=LC (x.num*y.den) (y.num*x.den);have b:(x.den:Int)*y.den≠0:=bc (Km x) (Km y);refine wA 2 I<|QI I (λ_ _ f k=>Mu f (hx)) λl=>wB 3 I<|Qc Wk λs=>Qc Wk λo=>QW (vs:=[_,_]) I I I XB I .u1 .h2 wm<|QW (vs:=[_,_]) I I I XB I .here .h2 wm<|wD 5 I<|QI I (λ_ _ f k=>Mu f (hy)) λj=>wB 3 I<|Qc Wk λn=>Qc Wk λm=>QW (vs:=[_,_]) I I I XB I .u1 .h2 wm<|QW (vs:=[_,_]) I I I XB I .here .h2 wm<|QE<|QC ?_
  refine QG<|JG we mixed tE<|QK (wN I XB .u3)<|QK (wN I XB .u1)<|QR I (λ_ _ f k=>DF f (k.1.2.1) (k.2.1) O O) λi=>QK (wN I XB .u2)<|QK (wN I XB .here)<|QR I (λ_ _ f k=>DF f (k.1.1.2.2) (k.1.2.2) O O) λh=>QR I (λ_ _ f k=>Mv f (k.1.2) (k.2) (b) O O) λ_=>QK (QF I)<|Q7<|QC<|QX ?_
  exact wg I I (by rw[BF]) tL
 refine wD 4 I<|Yj I<|wC 3 I ?_
 have B:=Jv x;have A:=Jt x;have z:=Jv y;have u:=Jt y;have K:=K8 x.num y.den;have H:=K8 y.num x.den;have E:=K8 (x.den:Int) y.den;have D:=K8 x.num y.num;have C:=LC (x.num*y.den) (y.num*x.den);have b:(x.den:Int)*y.den≠0:=bc (Km x) (Km y);refine wA 2 I<|QI I (λ_ _ f k=>Mu f (hx)) λl=>wB 3 I<|Qc Wk λs=>Qc Wk λo=>QW (vs:=[_,_]) I I I XB I .u1 .h2 wm<|QW (vs:=[_,_]) I I I XB I .here .h2 wm<|wD 5 I<|QI I (λ_ _ f k=>Mu f (hy)) λj=>wB 3 I<|Qc Wk λn=>Qc Wk λm=>QW (vs:=[_,_]) I I I XB I .u1 .h2 wm<|QW (vs:=[_,_]) I I I XB I .here .h2 wm<|QE<|QC ?_
 refine QG<|JG we mixed tE<|QK (wN I XB .u3)<|QK (wN I XB .u1)<|QR I (λ_ _ f k=>DF f (k.1.2.1) (k.2.1) O O) λi=>QK (wN I XB .u2)<|QK (wN I XB .here)<|QR I (λ_ _ f k=>DF f (k.1.1.2.2) (k.1.2.2) O O) λh=>QR I (λ_ _ f k=>Mv f (k.1.2) (k.2) (b) O O) λ_=>QK (QF I)<|Q7<|QC<|QX ?_
 exact wg I I (by rw[BF]) tL
theorem QHM{y:Rat}(b:Fits F w)(hx:JW x<=100000)(hy:JW y<=100000):Qf prog 59 [tx (JP x),tx (JP y)] w F (tx (JP (x-y))):=by
 have a:=Ie y;refine QU.intro (G:=λF=>True) func59 rfl tH rfl rfl b tL<|wa<|wZ rfl<|wb rfl<|wW rfl<|QI rfl (λ_ _ f k=>QHO f O) λ_=>?_
 rw[dL];refine QI I (λ_ _ f k=>xW f (hx) (by rw[Vh];exact hy)) (λ_=>wD 4 I ?_);exact wg I I (by rw[Rat.sub_eq_add_neg]) tL
theorem QBB{y:Rat}(a:Fits F w)(hx:JW x<=100000)(hy:JW y<=100000):Qf prog 58 [tx (JP x),tx (JP y)] w F (.int .i64 (Yw x y)):=by
 refine QU.intro (G:=λF=>True) func58 rfl tH rfl rfl a tL<|wa<|wZ rfl<|wb rfl<|wW rfl<|QI rfl (λ_ _ f k=>QHM f O O) λ_=>QI rfl (λ_ _ f k=>Oo f ) λ_=>wZ rfl<|QX ?_
 exact wg I I (by rw[Oc,QGk]) tL
theorem QDR(m:Fits F w)(n:s.length<=1000000)(h1:ZJ (aa (s.take (ahead Zw s)) [45])=true)(h2:ahead Zw s<s.length->ZJ (aa (s.drop (ahead Zw s+1)) [45])=true):QU prog 97 [tx s] w F Ri.v2 (λc F=>E4 F c.1 (Y9 (s.take (ahead Zw s)))/\(ahead Zw s<s.length->E4 F c.2 (Y9 (s.drop (ahead Zw s+1))))):=by
 have l:=Et Zw s;refine QU.intro (G:=λF=>True) func97 rfl tH rfl rfl m tL<|wa<|Qc Wk λb2=>Qc Wk λb3=>wY<|wb rfl<|wZ rfl<|wb rfl<|QI rfl (λ_ _ f k=>Sn f O) λ_=>wZ rfl<|QG<|wb rfl<|wW rfl ?_
 refine QA (Xc I Zm)<|wD 3 I ?_
 refine QQ I (λhc=>?_) λhc=>?_
 ·have hd:ahead Zw s=s.length:=by have:(ahead Zw s:Int)=(s.length:Int):=(by simpa using hc);omega
  refine wb I<|QI I (λ_ _ f k=>Sq f (by rw[hd,aH]at h1;exact h1) O) λj=>QI I (λ_ _ f k=>Sm f tF) λi=>QW (vs:=[_,_]) I I I XB I .u1 .h2 wm<|QW (vs:=[_,_]) I I I XB I .here .h2 wm<|wY<|QX ?_
  exact Je ((j,i):Ri×Ri) rfl (.JX (c:=[_,_]) I XB .u1 (.JX (c:=[_,_]) I XB .here .nil)) (rfl) λF h9=>⟨by rw[hd,aH];exact h9.1.2,λg=>O⟩
 have hd:ahead Zw s<s.length:=by rcases aN (ahead Zw s) s.length with g | g;exact g;exact absurd (show ahead Zw s=s.length by omega) λe=>by rw[e]at hc;simp at hc
 refine wC 3 I<|JG (.cons _ (.cons _ .slnil)) mixed tE<|QK (QD I)<|QK (QD I)<|QK (Mj (ahead Zw s) rfl rfl Zm I O)<|QR I (λ_ _ f k=>Sq f (h1) (by rw[av];omega)) λb=>QK (QD I)<|QK (QD I)<|QK (Qu I I O)<|QK (GL ((ahead Zw s+1)) I I Zm wS O)<|QR I (λ_ _ f k=>Sq f (h2 hd) (by rw[aL];omega)) λa=>JV (vs:=[_,_]) I I I XB I .u1 (.cons _ .slnil) (λ_ h=>h.1.1) .h2 wm<|JV (vs:=[_,_]) I I I XB I .here (.cons _ .slnil) (λ_ h=>h.1.1) .h2 wm<|Q7<|QC<|QX ?_
 exact Je ((b,a):Ri×Ri) rfl (.JX (c:=[_,_]) I XB .u1 (.JX (c:=[_,_]) I XB .here .nil)) (rfl) λF h9=>⟨h9.1.2,λ_=>h9.2⟩
def vA(s:List UInt8):Bool:=!Xv ((aa s [45]).take (ahead Zw (aa s [45])))||(ao s [45]&&(aa s [45]).take (ahead Zw (aa s [45]))==[48])
def U2(s:List UInt8):List UInt8:=(aa s [45]).drop (ahead Zw (aa s [45])+1)
def AW(s:List UInt8):Bool:=decide (ahead Zw (aa s [45])<(aa s [45]).length)
def kD(s:List UInt8):Bool:=AW s&&(!Xv (U2 s)||(U2 s==[48]||U2 s==[49]))
def k8(s:List UInt8):Bool:=decide (600<ahead Zw (aa s [45]))||decide (600<(U2 s).length)
def pQ(s:List UInt8):Bool:=AW s&&!(ba (Jc ((aa s [45]).take (ahead Zw (aa s [45])))) (Jc (U2 s))==1)
def F4(s:List UInt8):Int:=if vA s=true then 1 else if kD s=true then 1 else if k8 s=true then 4 else if pQ s=true then 1 else 0
def jq{l:List UInt8}(h:(!Xv l)=false):0<l.length:=by
 rcases aB l.length with g | g
 ·rw[ak g]at h;simp[Xv]at h
 exact g
def QF6{p:UInt8->Bool}(h:∀c∈s,p c=true):s.takeWhile p=s:=by
 induction s with
 |nil=>rfl
 |cons c r ih=>rw[eG (h c tJ),ih (λd hd=>h d (by simp[hd]))]
def QCe{l:List UInt8}(h:ZJ l=true):sz (Jc l:Int)<=4*l.length:=by
 rw[XD];have h1:=Hb h;have h2:10^l.length<=2^(4*l.length):=by rw[Nat.pow_mul];exact bX tF _
 simp;omega
theorem QD6(s:List UInt8):(Yq 47 s).1=s.take (ahead Zw s)/\(Yq 47 s).2.1=s.drop (ahead Zw s+1)/\(Yq 47 s).2.2=decide (ahead Zw s<s.length):=by
 have a:(λc:UInt8=>!Zw c)=λc=>c != 47:=by funext c;simp[Zw,bne]
 have h1:=WO (λc:UInt8=>c != 47) s;have ha:ahead Zw s=(s.takeWhile λc=>c != 47).length:=by unfold ahead;rw[a]
 rw[ha];by_cases hc:s.contains 47=true
 ·have e:Yq 47 s=(s.takeWhile (· != 47),(s.dropWhile (· != 47)).drop 1,true):=by unfold Yq;rw[if_pos hc]
  rw[e];obtain⟨r,hr⟩:=Ml (show(47:UInt8)∈s by simpa using hc);have hd:=h1.2;rw[hr]at hd;refine⟨h1.1.symm,?_,?_⟩
  ·show(s.dropWhile (· != 47)).drop 1=_;rw[hr,<-aG,hd]
  have:(s.takeWhile λc=>c != 47).length<s.length:=by
   have:=congrArg ew hd;rw[aL,aD]at this;omega
  simp[this]
 have e:Yq 47 s=(s,[],false):=by unfold Yq;rw[if_neg hc]
 rw[e];have h2:s.takeWhile (λc=>c != 47)=s:=by
  refine QF6 λc hm=>?_;have:c≠47:=by rintro rfl;exact hc (by simpa using hm)
  simpa using this
 rw[h2];simp
theorem QET(s:List UInt8):aa (Yq 47 s).1 [45]=(Yq 47 (aa s [45])).1/\ao (Yq 47 s).1 [45]=ao s [45]/\(Yq 47 s).2=(Yq 47 (aa s [45])).2:=by
 cases s with
 |nil=>exact⟨rfl,rfl,rfl⟩
 |cons c r =>
  by_cases hc:c=45
  ·subst hc;have e:aa (45::r) [45]=r:=rfl;rw[e];unfold Yq;have h0:((45:UInt8)::r).contains 47=r.contains 47:=tJ;rw[h0];split
   ·exact⟨rfl,rfl,rfl⟩
   exact⟨rfl,rfl,rfl⟩
  have hp:ao (c::r) [45]=false:=by
   rw[EG tJ];simpa using hc
  have e:aa (c::r) [45]=c::r:=by unfold aa;rw[if_neg (by rw[hp];decide)]
  rw[e];have b:∀l:List UInt8,ao l [45]=false->aa l [45]=l:=λl h=>by unfold aa;rw[if_neg (by rw[h];decide)]
  have h3:ao (Yq 47 (c::r)).1 [45]=false:=by
   unfold Yq;split
   ·by_cases a:c=47
    ·subst a;rfl
    rw[eG (by simpa using a),EG tJ];simpa using hc
   exact hp
  exact⟨b _ h3,by rw[h3,hp],rfl⟩
def QGm(h1:vA s=false)(h2:kD s=false)(hk:ahead Zw (aa s [45])<(aa s [45]).length):ZJ ((aa s [45]).take (ahead Zw (aa s [45])))=true/\ZJ (U2 s)=true:=by
 have a:AW s=true:=by simp[AW];exact hk
 simp only[vA,eX,fb]at h1;simp only[kD,a,Bool.true_and,eX,fb]at h2;exact⟨WU h1.1,WU h2.1⟩
theorem QD3(s:List UInt8):F4 s=Jp s:=by
 obtain⟨c,t2,t3⟩:=QET s;obtain⟨c1,c2,g⟩:=QD6 (aa s [45]);have t4:(Yq 47 s).2.1=U2 s:=by rw[t3,c2];rfl
 have t5:(Yq 47 s).2.2=AW s:=by rw[t3,g];rfl
 have b:(aa s [45]).take (ahead Zw (aa s [45]))=(aa s [45]).take (ahead Zw (aa s [45])):=rfl;have hk:((aa s [45]).take (ahead Zw (aa s [45]))).length=ahead Zw (aa s [45]):=by
  rw[av];have:=Et Zw (aa s [45]);omega
 unfold Jp Hl F4 Iz vA kD k8 pQ;rw[c,t2,t4,t5,c1,hk];generalize (aa s [45]).take (ahead Zw (aa s [45]))=a;generalize U2 s=d;generalize AW s=f;generalize ao s [45]=n;have e:(!Xv a||(n&&a==[48])||(f&&(!Xv d||d==[48]||d==[49])))=((!Xv a||(n&&a==[48]))||(f&&(!Xv d||(d==[48]||d==[49])))):=by rw[Bool.or_assoc (!Xv d)]
 rw[e];cases (!Xv a||(n&&a==[48]))<;>cases (f&&(!Xv d||(d==[48]||d==[49])))<;>rfl
theorem vN(hF:Fits F w)(hl:s.length<=9223372036854775807):Qf prog 18 [tx s] w F (.int .i64 (Jp s)):=by
 rw[<-QD3];have hln:(aa s [45]).length<=s.length:=AK _ _;have hah:=Et Zw (aa s [45]);refine QU.intro (G:=λF=>True) func18 rfl tH rfl rfl hF tL<|wa<|wZ rfl<|wb rfl<|wX rfl<|QE<|QC ?_
 refine ZZ [(0,_)] [(3,tx (aa s [45]))] wk ?_ ?_
 ·refine ZZ [(0,_),(3,_)] [(16,.bool (ao s [45]))] wm ?_ ?_
  ·refine wA 2 I<|QA (Xc I Zm)<|wB 2 I ?_
   refine Qn (t:=12) rfl (λB=>?_) λB=>?_
   ·refine wB 3 I<|QA (Hh (i:=0) rfl rfl Zm (tD<|wi B))<|wB 4 I ?_
    exact JY ⟨rfl,rfl,(congrArg (λb=>some (ag b)) (by have h0:0<s.length:=(tD<|wi B);rw[EG h0];exact AF I)),trivial⟩ we tM
   refine wB 5 I ?_;exact JY ⟨rfl,rfl,(congrArg (λb=>some (ag b)) (by have h0:s.length=0:=(tD<|wj B);rw[ak h0];rfl)),trivial⟩ we tM
  simp only[ab,af];refine QQ I (λhc=>?_) λhc=>?_
  ·refine wA 2 I<|QA (GL (1) rfl rfl Zm I (Ld hc))<|wB 2 I ?_
   exact JY ⟨rfl,(congrArg (λl=>some (tx l)) (by unfold aa;rw[if_pos hc];rfl)),trivial⟩ we tM
  refine QN ?_;exact JY ⟨rfl,(congrArg (λl=>some (tx l)) (by unfold aa;rw[hc];rfl)),trivial⟩ we tM
 simp only[ab,af];refine wb I<|QI I (λ_ _ f k=>Sn f O) λ_=>wD 4 I ?_
 refine ZZ [(3,_),(4,_)] [(36,.bool (vA s))] wm ?_ ?_
 ·refine wA 3 I<|QA (Mj ((ahead Zw (aa s [45]))) I I Zm I O)<|QI I (λ_ _ f k=>QCq f (by rw[av];omega)) λ_=>QA (XL I)<|wW I ?_
  refine Qn (t:=26) rfl (λc=>?_) λc=>?_
  ·refine wB 4 I<|Jn I I<|Jn I I<|Jn I I<|Jn I I<|wB 3 I ?_
   exact JY ⟨rfl,rfl,(congrArg (λb=>some (ag b)) (by simp[vA]at c ⊢;simp[c])),trivial⟩ we tN
  refine wB 3 I<|QA (Hh (i:=0) rfl rfl Bw (by have h1:=jq c;rw[av]at h1;omega))<|wB 4 I ?_
  refine Qn (t:=30) rfl (λK=>?_) λK=>?_
  ·refine wB 5 I<|QA (Mj ((ahead Zw (aa s [45]))) I I Zm I O)<|QL I I<|QA (VE I I)<|wB 4 I ?_
   exact JY ⟨rfl,rfl,(congrArg (λb=>some (ag b)) (by have h0:0<s.length:=(by have h1:=jq c;rw[av]at h1;omega);have hp:ao s [45]=true:=(by rw[EG h0,<-AF (z:=45) rfl];exact K);simp[vA]at c ⊢;simp[c,hp])),trivial⟩ we tN
  refine wB 8 I ?_;exact JY ⟨rfl,rfl,(congrArg (λb=>some (ag b)) (by have h0:0<s.length:=(by have h1:=jq c;rw[av]at h1;omega);have hp:ao s [45]=false:=(by rw[EG h0,<-AF (z:=45) rfl];exact K);simp[vA]at c ⊢;simp[c,hp])),trivial⟩ we tN
 simp only[ab,af];refine QQ I (λhc=>?_) λhc=>?_
 ·have x:vA s=true:=hc;refine wA 6 I ?_;exact wg I I (congrArg (ae .i64) (by simp[F4,x])) tL
 have x:vA s=false:=hc;refine wC 3 I ?_;refine ZZ [(3,_),(4,_)] [(62,.bool (kD s))] wm ?_ ?_
 ·refine wA 3 I<|QA (Xc I Zm)<|wB 2 I ?_
  refine Qn (t:=41) rfl (λj=>?_) λj=>?_
  ·refine wB 5 I<|QA (Qu I I (by first | omega | (simp only[decide_eq_true_eq]at *;omega)))<|QL I I<|QA (GL (((ahead Zw (aa s [45]))+1)) I I Zm wS (tD<|wi j))<|QL I I<|QI I (λ_ _ f k=>QCq f (by rw[aL];omega)) λ_=>QL I I<|QA (XL I)<|wB 2 I ?_
   refine Qn (t:=48) rfl (λu=>?_) λu=>?_
   ·refine wB 18 I ?_;exact JY ⟨rfl,rfl,(congrArg (λb=>some (ag b)) (by have h1:AW s=true:=(by simp[AW];simpa using j);simp[kD,h1];simp at u;exact .inl u)),trivial⟩ we tN
   refine wB 5 I<|QA (Qu I I (by first | omega | (simp only[decide_eq_true_eq]at *;omega)))<|QL I I<|QA (GL (((ahead Zw (aa s [45]))+1)) I I Zm wS (tD<|wi j))<|QL I I<|QA (VE I I)<|wB 4 I ?_
   refine Qn (t:=55) rfl (λA=>?_) λA=>?_
   ·refine wB 9 I ?_;exact JY ⟨rfl,rfl,(congrArg (λb=>some (ag b)) (by have h1:AW s=true:=(by simp[AW];simpa using j);simp[kD,h1];exact .inr (.inl (by simpa[U2]using A)))),trivial⟩ we tN
   refine wB 5 I<|QA (Qu I I (by first | omega | (simp only[decide_eq_true_eq]at *;omega)))<|QL I I<|QA (GL (((ahead Zw (aa s [45]))+1)) I I Zm wS (tD<|wi j))<|QL I I<|QA (VE I I)<|wB 4 I ?_
   exact JY ⟨rfl,rfl,(congrArg (λb=>some (ag b)) (by have h1:AW s=true:=(by simp[AW];simpa using j);simp at u A;simp[kD,h1,U2,u,A])),trivial⟩ we tN
  refine wB 7 I<|Jn I I<|Jn I I<|Jn I I<|Jn I I<|Jn I I<|wB 2 I<|Jn I I<|Jn I I<|Jn I I<|Jn I I<|Jn I I<|wB 3 I ?_
  exact JY ⟨rfl,rfl,(congrArg (λb=>some (ag b)) (by have h1:AW s=false:=(by simp[AW];simpa using j);simp[kD,h1])),trivial⟩ we tM
 simp only[ab,af];refine QQ I (λhc=>?_) λhc=>?_
 ·have y:kD s=true:=hc;refine wA 6 I ?_;exact wg I I (congrArg (ae .i64) (by simp[F4,x,y])) tL
 have y:kD s=false:=hc;refine wC 3 I ?_;refine ZZ [(3,_),(4,_)] [(72,.bool (k8 s))] wm ?_ ?_
 ·refine wA 4 I ?_;refine Qn (t:=65) rfl (λH=>?_) λH=>?_
  ·refine wB 8 I ?_;exact JY ⟨rfl,rfl,(congrArg (λb=>some (ag b)) (by have:=wi H;simp[k8];left;omega)),trivial⟩ we tM
  refine wB 3 I<|QA (Xc I Zm)<|wB 3 I<|QA (X3 I I O)<|QL I I<|QA (X3 I I O)<|wB 4 I ?_
  exact JY ⟨rfl,rfl,(congrArg (λb=>some (ag b)) (by rw[ay];have:=wj H;simp[k8,U2];omega)),trivial⟩ we tM
 simp only[ab,af];refine QQ I (λhc=>?_) λhc=>?_
 ·have m:k8 s=true:=hc;refine wA 6 I ?_;exact wg I I (congrArg (ae .i64) (by simp[F4,x,y,m])) tL
 have m:k8 s=false:=hc;have hk6:ahead Zw (aa s [45])<=600:=by simp[k8]at m;exact m.1
 refine wC 7 I<|QA (Xc I Zm)<|wD 3 I ?_
 refine QQ I (λhc=>?_) λhc=>?_
 ·have hk:ahead Zw (aa s [45])<(aa s [45]).length:=tD<|wi hc
  obtain⟨V,U⟩:=QGm x y hk;refine wb I<|QI I (λ_ _ f k=>QDR f (s:=(aa s [45])) (by have h6:(U2 s).length<=600:=(by simp[k8]at m;exact m.2);have h7:(U2 s).length=(aa s [45]).length-(ahead Zw (aa s [45])+1):=(by unfold U2;rw[aL]);omega) (by rw[WM V];exact V) λ_=>by rw[show(List.drop (ahead Zw (aa s [45])+1) (aa s [45]))=U2 s from rfl,WM U];exact U) λM=>wW rfl<|QA (Qa rfl rfl)<|QA (Qa rfl rfl)<|Qc Wk λb5=>Qc Wk λb6=>QW (vs:=[_,_]) rfl rfl rfl XB rfl .u1 .h2 wm<|QW (vs:=[_,_]) rfl rfl rfl XB rfl .here .h2 wm<|wY<|QG<|XV _ (λ_ _ f h=>aM h.2.1.p (aM (h.2.2 hk).p (aM h.2.1.1.2.1 (h.2.2 hk).1.2.1))) λpp=>?_
  obtain⟨pa,X,na,nd⟩:=pp;rw[YO V]at pa;have P:=X;rw[show Y9 ((aa s [45]).drop (ahead Zw (aa s [45])+1))=Jc (U2 s)from YO U]at P;have la:=pa.len;have ld:=P.len;have sa:=QCe V;have sd:=QCe U;have h600:(U2 s).length<=600:=by simp[k8]at m;exact m.2
  rw[av]at sa;refine QB<|QA (QH I K2 JM)<|QA (Qe I JM .u1 (.skip .h1))<|QA (QH I K2 JM)<|QA (Qe I JM .here (.skip .h1)) ?_
  refine QI I (λ_ _ f k=>vM f (a:=M.1.l) (b:=M.2.l) (ra:=M.1.r) (rb:=M.2.r) k.2.1.1 ((k.2.2 hk).1) (pa.dg) (X.dg) (pa.nz) (X.nz) O O) (λZ=>?_);rcases Z with ⟨N,L⟩;dsimp only;refine JQ _ (λw F hF ⟨⟨⟨hT,_⟩,h79⟩,⟨Y,T⟩⟩=>aM Y.2 T) (λQ=>wX rfl<|QE<|QC ?_);refine ZZ [] [(95,.bool (pQ s))] trivial ?_ ?_
  ·have R:dv B9 L=(ba (Jc ((aa s [45]).take (ahead Zw (aa s [45])))) (Jc (U2 s)):Nat):=by
    rw[Q.2.2.2,cq pa P];rfl
   have C:=zQ Q.2.1 Q.2.2.1;have S:AW s=true:=by simp[AW];exact hk
   refine wA 2 I<|QA (Qg I Q2)<|wB 2 I ?_
   refine Qn (t:=90) rfl (λE=>?_) λE=>?_
   ·refine wB 6 I ?_;exact JY ⟨(congrArg (λb=>some (ag b)) (by have h1:¬L.length=1:=(by simp at E;omega);rw[ay];simp[pQ,S];intro g;exact h1 (C.2 (by rw[R,g];rfl)).1)),trivial⟩ we tM
   have hn1:N.n=1:=by simp at E;omega
   refine wB 3 I<|QA (Q3 (n:=N.n) (0) (λF h9=>(h9.2.1).1) rfl wS Q2 JK O)<|QL I I<|QA (JA (n:=N.n) ((0)*1) (λF h9=>(h9.2.1).1) O rfl JK (Jz (o:=L) O))<|wB 4 I ?_
   exact JY ⟨(congrArg (λb=>some (ag b)) (by have h1:L.length=1:=O;rw[ay];simp[pQ,S];exact not_congr ⟨λe=>by have h2:=C.1 ⟨h1,e⟩;rw[R]at h2;omega,λe=>(C.2 (by rw[R,e];rfl)).2⟩)),trivial⟩ we tM
  simp only[ab,af];refine QQ I (λhc=>?_) λhc=>?_
  ·have D:pQ s=true:=hc;refine wA 6 I ?_;exact wg I I (congrArg (ae .i64) (by simp[F4,x,y,m,D])) tL
  have D:pQ s=false:=hc;refine wC 8 I ?_;exact wg I I (congrArg (ae .i64) (by simp[F4,x,y,m,D])) tL
 have D:pQ s=false:=by have:=wj hc;simp[pQ,AW];intro g;omega
 refine wC 8 I ?_;exact wg I I (congrArg (ae .i64) (by simp[F4,x,y,m,D])) tL
theorem Ou(b:Fits F w)(a:s.length<=1000000):Qf prog 18 [tx s] w F (.int .i64 (Jp s)) :=
 vN b (bO a tF)
theorem QCs{a b:List UInt8}(c:Fits F w)(ha:Jp a=0)(hb:Jp b=0):Qf prog 58 [tx a,tx b] w F (.int .i64 (Yw (Qz a) (Qz b))):=by
 have h1:=KO ha;have h2:=KO hb;have:=QBB (x:=Qz a) (y:=Qz b) c O O;rw[<-(XM ha).1,<-(XM hb).1]at this;exact this
theorem Ov{lo hi:List UInt8}(g:Fits F w)(b:lo.length<=1000000/\hi.length<=1000000):Qf prog 30 [.agg #[tx lo,tx hi]] w F (.int .i64 (Xd lo hi)):=by
 refine QU.intro (G:=λF=>True) func30 rfl tH rfl rfl g tL<|wa<|Qp rfl (vs:=[_,_]) rfl λb1=>wZ rfl<|wa<|QA (QH rfl V6 JF)<|QA (Qe rfl JF .here .h1)<|QI rfl (λ_ _ f k=>Ou f (b.1)) λ_=>wX rfl<|QE<|QC ?_
 refine ZZ [(1,_)] [(3,.int .i64 (Qs [Jp lo,Jp hi]))] wk ?_ ?_
 ·refine wA 6 I ?_;refine QQ I (λhc=>?_) λhc=>?_
  ·refine QB<|QA (QH I We JF)<|QA (Qe I JF .here (.skip .h1))<|QI I (λ_ _ f k=>Ou f (b.2)) λ_=>wB 2 I ?_
   exact JY ⟨rfl,(congrArg (λz:Int=>some (ae .i64 z)) (by simp[Qs];simp at hc;simp[hc])),trivial⟩ we tN
  refine QN ?_;exact JY ⟨rfl,(congrArg (λz:Int=>some (ae .i64 z)) (by simp[Qs];simp at hc;simp[hc])),trivial⟩ we tM
 simp only[ab,af];refine wA 6 I ?_;refine Qn (t:=14) rfl (λa=>?_) λa=>?_
 ·refine QL I I ?_;obtain⟨c,k2⟩:=MT (by simpa using a);refine QA (QH I V6 JF)<|QL I I<|QA (Qe I JF .here .h1)<|QL I I<|QA (QH I We JF)<|QL I I<|QA (Qe I JF .here (.skip .h1))<|QL I I<|QI I (λ_ _ f k=>QCs f (c) (k2)) λ_=>wD 5 I ?_
  refine QQ I (λhc=>?_) λhc=>?_
  ·refine wA 6 I ?_;exact wg I I (congrArg (ae .i64) (by unfold Xd;rw[if_pos (by simpa using a),if_pos (wi hc)])) tL
  refine wC 9 I ?_;exact wg I I (congrArg (ae .i64) (by unfold Xd;rw[if_pos (by simpa using a),if_neg (wj hc)];symm;simpa using a)) tL
 refine wD 9 I<|Yj I<|wC 9 I ?_
 exact wg I I (congrArg (ae .i64) (by unfold Xd;rw[if_neg (by simpa using a)])) tL
theorem jG{q:Option Addr}{c:Nat}{l:List (List UInt8×List UInt8)}(o:Fits F w)(m:Qy F q n 2 (l.flatMap NU))(b:l.length=n/\∀s∈l,s.1.length<=1000000/\s.2.length<=1000000)(hn:n<=1000000):Qf prog 118 [.slice q n c] w F (.int .i64 (Qs (l.map λp=>Xd p.1 p.2))):=by
 have h:=b.1;refine QU.intro (G:=λF=>Qy F q n 2 (l.flatMap NU)) func118 rfl tH rfl rfl o (λF' a=>m.le a)<|wa<|wZ rfl<|QG<|wa<|wZ rfl<|QV<|J9 (ι:=X7 l λp=>Xd p.1 p.2) [(0,_)] (λi=>[(3,.int .i64 ((i.i:Nat):Int))]) (λi=>l.length-i.i) (X7.start _ _) wk wk λi=>?_
 simp only[ab,af];refine wA 5 I<|QA (Qg I XF)<|wD 3 I ?_
 refine QQ I (λhc=>?_) λhc=>?_
 ·have hi:i.i<l.length:=tD<|wi hc
  refine wC 8 I<|QA (Q3 (n:=n) i.i tM rfl rfl XF Jd O)<|QA (JZ (n:=n) (vs:=[tx (el l i.i).1,tx (el l i.i).2]) ((i.i)*2) tM O rfl Jd I λj v g=>JN (f:=NU) (l:=l) K1 O g)<|QI I (λ_ _ f k=>Ov f (b.2 _ (Qw hi))) λ_=>wD 9 I ?_
  refine QQ I (λhc=>?_) λhc=>?_
  ·refine wA 7 I ?_
   repeat first|refine Q6 ?_|refine Qv ?_
   exact wg I I (congrArg (ae .i64) (i.hit hi (by simpa using hc))) tL
  refine QN<|Qj<|wE 3 I<|QA (Qu I I O)<|wB 2 I ?_
  exact Ql (i.next hi (by simpa using hc)) (by show l.length-(i.i+1)<l.length-i.i;omega) wm we tN
 have hi:l.length<=i.i:=tD<|wj hc
 refine Qx ?_
 repeat first|refine QY ?_|refine QO tH ?_
 refine QZ<|wE 7 I ?_
 exact wg I I (congrArg (ae .i64) (i.stop hi)) tL
def Uz(a:List UInt8)(d:Int):Bool:=decide ((a.length:Int)<=2*d+2)&&(Jp a==0&&(decide (((vB (numOf a)).length:Int)<=d)&&decide (((CS a).length:Int)<=d)))
def vX(a:List UInt8):(numOf a).length<=a.length:=by unfold numOf;rw[av];omega
def cx(d:Int)(p:List UInt8×List UInt8):Bool:=Uz p.1 d&&(Uz p.2 d&&!decide (Yw (Qz p.1) (Qz p.2)>0))
def QDC{a:List UInt8}{d:Int}(h:Uz a d=true):Jp a=0:=by
 simp only[Uz,ff,beq_iff_eq]at h;exact h.2.1
theorem QHR{a:List UInt8}{d:Int}(j:Fits F w)(i:a.length<=1000000)(hd:0<=d/\d<=1000000):Qf prog 57 [tx a,.int .i64 d] w F (.bool (Uz a d)):=by
 have hn:=vX a;refine QU.intro (G:=λF=>True) func57 rfl tH rfl rfl j tL<|wa<|wZ rfl<|wb rfl<|QA (Xc rfl Bw)<|wW rfl<|QA (Mx rfl rfl O)<|QA (Qu rfl rfl O)<|QA (QT rfl rfl rfl)<|wW rfl ?_
 refine Qn (t:=11) rfl (λc=>?_) λc=>?_
 ·refine wB 3 I<|QI I (λ_ _ f k=>Ou f (i)) λ_=>wB 4 I ?_
  refine Qn (t:=16) rfl (λb=>?_) λb=>?_
  ·refine wB 3 I<|QI I (λ_ _ f k=>QA6 f O) λ_=>QL I I<|QI I (λ_ _ f k=>gi f ) λ_=>QL I I<|QA (Xc I Bw)<|wB 6 I ?_
   refine Qn (t:=24) rfl (λh=>?_) λh=>?_
   ·refine wB 3 I<|QI I (λ_ _ f k=>QA9 f O) λ_=>QL I I<|QA (Xc I Bw)<|wD 9 I ?_
    exact wg I I ((congrArg ag (by have h1:=wi c;simp[Uz,h1];simp at b h;simp[b,h]))) tL
   refine wD 10 I ?_;exact wg I I ((congrArg ag (by have h1:=wi c;simp[Uz,h1];simp at b h;simp[b];intro g;omega))) tL
  refine wD 18 I ?_;exact wg I I ((congrArg ag (by have h1:=wi c;simp at b;simp[Uz,h1,b]))) tL
 refine wD 23 I ?_;exact wg I I ((congrArg ag (by simp[Uz,c]))) tL
section
open Go.RowKit Go.ChangeShapes Go.WideShapes Ig
section
variable{H:Type}{enc:TypeId×Value->H}{w:World}
set_option maxRecDepth 100000 in
theorem xF(n:Nat)(cs:List Value)(x:DataW H×List MemPlace)(h:bz enc prog w 0 (λ_=>true) true n 40 cs=some x):∃y:List UInt8×List UInt8,cs=NU y:=by
 obtain⟨f,g,m,_,c,h0,h1⟩:=trod_struct2 underlying40 h;have c2:prog.cellsOf 40=2:=tE;have c1:prog.cellsOf 22=1:=tE;rw[c2]at c
 match cs,c with
 |[a,b],_ =>
  dsimp only at h0 h1;rw[c1]at h0 h1;obtain⟨lo,rfl⟩:=LG jD (v:=a) h0;obtain⟨hi,rfl⟩:=LG jD (v:=b) h1;exact⟨(lo,hi),rfl⟩
end
end
theorem QGP:([49]:List UInt8)=JP 1:=by
 have h:(1:Rat).num=1:=rfl;unfold JP;rw[if_pos tH,h,XJ tF];exact(DL (l:=[49]) tF).symm
@[reducible] def kh (a:Rat×Rat):Value:=.agg #[tx (JP a.1),tx (JP a.2)]
def Ux(k:Nat)(a:Rat×Rat):Prop:=JW a.1<=k/\JW a.2<=k
theorem gS{y:Rat}(a:Fits F w)(hx:JW x<=100000)(hy:JW y<=100000):Qf prog 215 [tx (JP x),tx (JP y)] w F (tx (JP (Dv x y))):=by
 refine QU.intro (G:=λF=>True) func215 rfl tH rfl rfl a tL<|wa<|wZ rfl<|QG<|wb rfl<|wW rfl<|QI rfl (λ_ _ f k=>QBB f (hx) (hy)) λ_=>QA (QT rfl rfl rfl)<|QE<|QC ?_
 refine QQ I (λhc=>?_) λhc=>?_
 ·refine wA 7 I ?_;exact wg I I (by unfold Dv;rw[if_pos (wi hc)]) tL
 refine wC 9 I ?_;exact wg I I (by unfold Dv;rw[if_neg (wj hc)]) tL
theorem C4{y:Rat}(a:Fits F w)(hx:JW x<=100000)(hy:JW y<=100000):Qf prog 139 [tx (JP x),tx (JP y)] w F (tx (JP (Gx x y))):=by
 refine QU.intro (G:=λF=>True) func139 rfl tH rfl rfl a tL<|wa<|wZ rfl<|QG<|wb rfl<|wW rfl<|QI rfl (λ_ _ f k=>QBB f (hx) (hy)) λ_=>QA (QT rfl rfl rfl)<|QE<|QC ?_
 refine QQ I (λhc=>?_) λhc=>?_
 ·refine wA 7 I ?_;exact wg I I (by unfold Gx;rw[if_pos (wi hc)]) tL
 refine wC 9 I ?_;exact wg I I (by unfold Gx;rw[if_neg (wj hc)]) tL
theorem uz{a b:Rat×Rat}(m:Fits F w)(ha:Ux 100000 a)(hb:Ux 100000 b):Qf prog 127 [kh a,kh b] w F (kh (a.1+b.1,a.2+b.2)):=by
 obtain⟨l,j⟩:=ha;obtain⟨i,g⟩:=hb;refine QU.intro (G:=λF=>True) func127 rfl tH rfl rfl m tL<|wa<|Qp rfl (vs:=[_,_]) rfl λb2=>Qp rfl (vs:=[_,_]) rfl λb3=>Qc Xa λb4=>wY<|QG<|JG (.cons _ tP) mixed tE<|QK (QH rfl V6 JF)<|QK (Qe rfl JF .u1 .h1)<|QK (QH rfl V6 JF)<|QK (Qe rfl JF .here .h1)<|QR rfl (λ_ _ f k=>xW f O O) λ_=>QK (QH rfl We JF)<|QK (Qe rfl JF .u1 (.skip .h1))<|QK (QH rfl We JF)<|QK (Qe rfl JF .here (.skip .h1))<|QR rfl (λ_ _ f k=>xW f O O) λ_=>QK (Q4 rfl Zb Xa (wV rfl rfl rfl))<|JV (vs:=[_,_]) rfl rfl rfl Jd rfl .here tP (λ_ h=>h.1.1) .h2 wm<|Q7<|QC<|QX ?_
 exact QP (()) I (.JX (c:=[_,_]) I Jd .here .nil) (rfl) tL
def QBe(a b:Rat×Rat):Rat×Rat:=(Dv (Dv (a.1*b.1) (a.1*b.2)) (Dv (a.2*b.1) (a.2*b.2)),Gx (Gx (a.1*b.1) (a.1*b.2)) (Gx (a.2*b.1) (a.2*b.2)))
theorem ur{a b:Rat×Rat}(m:Fits F w)(ha:Ux 45000 a)(hb:Ux 45000 b):Qf prog 121 [kh a,kh b] w F (kh (QBe a b)):=by
 obtain⟨l,j⟩:=ha;obtain⟨i,g⟩:=hb;refine QU.intro (G:=λF=>True) func121 rfl tH rfl rfl m tL<|wa<|Qp rfl (vs:=[_,_]) rfl λb2=>Qp rfl (vs:=[_,_]) rfl λb3=>Qc Xa λb4=>wY<|QG ?_
 have u:=YN a.1 b.1;have s:=YN a.1 b.2;have o:=YN a.2 b.1;have n:=YN a.2 b.2;refine JG we mixed tE<|QK (QH I V6 JF)<|QK (Qe I JF .u2 .h1)<|QK (QH I V6 JF)<|QK (Qe I JF .u1 .h1)<|QR I (λ_ _ f k=>C3 f O O) λ_=>QK (QH I V6 JF)<|QK (Qe I JF .u2 .h1)<|QK (QH I We JF)<|QK (Qe I JF .u1 (.skip .h1))<|QR I (λ_ _ f k=>C3 f O O) λ_=>QK (QH I We JF)<|QK (Qe I JF .u2 (.skip .h1))<|QK (QH I V6 JF)<|QK (Qe I JF .u1 .h1)<|QR I (λ_ _ f k=>C3 f O O) λ_=>QK (QH I We JF)<|QK (Qe I JF .u2 (.skip .h1))<|QK (QH I We JF)<|QK (Qe I JF .u1 (.skip .h1))<|QR I (λ_ _ f k=>C3 f O O) λ_=>QK (QF I)<|QK (QF I)<|QK (QF I)<|QK (QF I) ?_
 refine Q7<|wE 5 I<|QI I (λ_ _ f k=>gS f O O) λ_=>wB 2 I<|QI I (λ_ _ f k=>gS f O O) λ_=>QI I (λ_ _ f h=>gS f (D2 (k:=100000) O O) (D2 (k:=100000) O O)) λ_=>wB 2 I<|QI I (λ_ _ f k=>C4 f O O) λ_=>wB 2 I<|QI I (λ_ _ f k=>C4 f O O) λ_=>QI I (λ_ _ f h=>C4 f (DC (k:=100000) O O) (DC (k:=100000) O O)) λ_=>QA (Q4 I Zb Xa (wV I I I))<|QW (vs:=[_,_]) I I I Jd I .here .h2 wm<|wY<|QX ?_
 exact QP (()) I (.JX (c:=[_,_]) I Jd .here .nil) (rfl) tL
theorem uq{n:Int}(c:Fits F w)(hx:JW x<=5000)(hn:0<=n/\n<=12):Qf prog 291 [tx (JP x),.int .i64 n] w F (tx (JP (x^n.toNat))):=by
 refine QU.intro (G:=λF=>True) func291 rfl tH rfl rfl c tL<|wa<|wZ rfl<|wa<|wZ rfl<|QG<|wa<|wZ rfl<|QV<|J9 (ι:={i:Nat // i<=n.toNat}) [(0,_),(1,_)] (λi=>[(5,tx (JP (x^i.1))),(6,.int .i64 ((i.1:Nat):Int))]) (λi=>n.toNat-i.1) (⟨0,aE _⟩) wm ⟨(congrArg (λl=>some (tx l)) (show[49]=JP (x^0) by rw[QGP,Rat.pow_zero])),rfl,trivial⟩ λi=>?_
 simp only[ab,af];have hi:=i.2;have hp:=VP x i.1;have hm:i.1*JW x<=12*5000:=eK O hx;refine wA 8 I ?_;refine QQ I (λhc=>?_) λhc=>?_
 ·have a:i.1+1<=n.toNat:=tD<|wi hc
  refine wC 7 I<|QI I (λ_ _ f k=>C3 f O O) λ_=>wB 2 I<|Qj<|wE 3 I<|QA (Qu I I O)<|wB 2 I ?_
  exact Ql (⟨i.1+1,a⟩) (by show n.toNat-(i.1+1)<n.toNat-i.1;omega) ⟨rfl,rfl,(congrArg (λl=>some (tx l)) (show JP (x^i.1*x)=JP (x^(i.1+1)) by rw[Rat.pow_succ])),rfl,trivial⟩ we tN
 have b:i.1=n.toNat:=tD<|wj hc
 refine Qx ?_
 repeat first|refine QY ?_|refine QO tH ?_
 refine QZ<|wE 8 I ?_
 exact wg I I (by rw[b]) tL
theorem uj(a:Fits F w):Qf prog 19 [tx (JP x)] w F (.int .i64 (Dm x.num)):=by
 have:=Oo (s:=JP x) a;rw[Oc]at this;exact this
def QDX(a:Rat×Rat)(n:Int):Rat×Rat:=(if(decide (n>0)&&(decide (n%2=0)&&(decide (Dm a.1.num<0)&&decide (Dm a.2.num>0))))=true then 0 else Dv (a.1^n.toNat) (a.2^n.toNat),Gx (a.1^n.toNat) (a.2^n.toNat))
theorem gQ{a:Rat×Rat}{n:Int}(o:Fits F w)(ha:Ux 2000 a)(hn:0<=n/\n<=12):Qf prog 228 [kh a,.int .i64 n] w F (kh (QDX a n)):=by
 obtain⟨m,l⟩:=ha;have s:=VP a.1 n.toNat;have p2:=VP a.2 n.toNat;have x:n.toNat*JW a.1<=12*2000:=eK O m;have u:n.toNat*JW a.2<=12*2000:=eK O l;refine QU.intro (G:=λF=>True) func228 rfl tH rfl rfl o tL<|wa<|Qp rfl (vs:=[_,_]) rfl λb2=>Qc Xa λb4=>wY<|QG<|JG we mixed tE<|QK (QH rfl V6 JF)<|QK (Qe rfl JF .u1 .h1)<|QK (QD rfl)<|QR rfl (λ_ _ f k=>uq f O (hn)) λ_=>QK (QH rfl We JF)<|QK (Qe rfl JF .u1 (.skip .h1))<|QK (QD rfl)<|QR rfl (λ_ _ f k=>uq f O (hn)) λ_=>QK (QF rfl)<|QK (QF rfl)<|Q7<|QC<|wb rfl<|wW rfl ?_
 refine QI I (λ_ _ f k=>gS f O O) (λ_=>wB 2 I<|QI I (λ_ _ f k=>C4 f O O) λ_=>QA (Q4 I Zb Xa (wV I I I))<|Qc Xa λy=>QW (vs:=[_,_]) I I I Jd I .here .h2 wm<|wY<|QG ?_);refine ZZ [(4,_),(7,_)] [(41,.bool ((decide (n>0)&&(decide (n%2=0)&&(decide (Dm a.1.num<0)&&decide (Dm a.2.num>0))))))] wm ?_ ?_
 ·refine wA 4 I ?_;refine Qn (t:=25) rfl (λj=>?_) λj=>?_
  ·refine wB 3 I<|QA (H9 I I O O)<|wB 4 I ?_
   refine Qn (t:=30) rfl (λi=>?_) λi=>?_
   ·refine QL I I<|QA (QH I V6 JF)<|QL I I<|QA (Qe I JF .u2 .h1)<|QL I I<|QI I (λ_ _ f k=>uj f ) λ_=>wB 4 I ?_
    refine Qn (t:=36) rfl (λg=>?_) λg=>?_
    ·refine QL I I<|QA (QH I We JF)<|QL I I<|QA (Qe I JF .u2 (.skip .h1))<|QL I I<|QI I (λ_ _ f k=>uj f ) λ_=>wB 4 I ?_
     exact JY ⟨rfl,rfl,(congrArg (λb=>some (ag b)) (by rw[ay];simp_all<;>(intros;omega))),trivial⟩ we λ_ h=>h.1.1
    refine wB 6 I ?_;exact JY ⟨rfl,rfl,(congrArg (λb=>some (ag b)) (by rw[ay];simp_all<;>(intros;omega))),trivial⟩ we tN
   refine wB 12 I ?_;exact JY ⟨rfl,rfl,(congrArg (λb=>some (ag b)) (by rw[ay];simp_all<;>(intros;omega))),trivial⟩ we tM
  refine wB 17 I ?_;exact JY ⟨rfl,rfl,(congrArg (λb=>some (ag b)) (by rw[ay];simp_all<;>(intros;omega))),trivial⟩ we tM
 simp only[ab,af];refine QQ I (λhc=>?_) λhc=>?_
 ·refine QB<|QA (QH I V6 JF)<|QW (vs:=[_]) I I I JF I .here .h1 wk<|wY<|wa<|QA (wN I Jd .here)<|QW (vs:=[_,_]) I I I Jd I .u1 .h2 wm<|wY<|QX ?_
  exact QP (()) I (.JX (c:=[_,_]) I Jd .u1 .nil) (by unfold QDX;rw[if_pos hc];show Value.agg #[tx (JP 0),tx (JP (Gx (a.1^n.toNat) (a.2^n.toNat)))]=_;rw[Sv]) tL
 refine wC 4 I<|QA (wN I Jd .here)<|QW (vs:=[_,_]) I I I Jd I .u1 .h2 wm<|wY<|QX ?_
 exact QP (()) I (.JX (c:=[_,_]) I Jd .u1 .nil) (by unfold QDX;rw[if_neg (by rw[hc];decide)]) tL
def LP(p:Rat×Rat):List Value:=[tx (JP p.1),tx (JP p.2)]
def uh(p:Rat×Rat):(LP p).length=2:=rfl
def QEW:JW 0<=1:=tF
end Go.Proofs.YtjcphjpkimmmjaaGreatDoor
namespace Ig
def QD5{a b:List Int}(h:before a b=true):a≠b:=by
 rintro rfl;rw[before_irrefl]at h;cases h
def Xob(n:Nat)(p:List Tm):Prop:=∀t∈p,t.2.length=n
def Xob.K6{n:Nat}{s:Tm}{q:List Tm}(a:s.2.length=n)(h:Xob n q):Xob n (Ig.K6 s q):=λt ht=>by
 obtain⟨u,hu,rfl⟩:=List.mem_map.1 ht;show(Wm s.2 u.2).length=n;rw[IB (by rw[a,h u hu]),a]
def Xob.Zr{n:Nat}{p q:List Tm}(h:Xob n p)(k:Xob n q):Xob n (Ig.Zr p q):=λt ht=>by
 obtain⟨s,a,ht⟩:=List.mem_flatMap.1 ht;exact k.K6 (h s a) t ht
end Ig
namespace Go.Proofs.YtjcphjpkimmmjaaGreatDoor
variable{c f z zx:Int}{x:Rat}{y:Operand}{cap i k m n:Nat}{cs:List Value}{T yT:TypeId}{a b l o out u:List Int}{α:Type}{s:List UInt8}{w:World}{F:Gs}{ra rb:Sr}
open Go.RowKit Ig
section
variable[Dr][df:Df]{P:Program}{N:Nat}{m:Sl}{w0:World}{F0:Gs}{bs:List (Nat×Obj)}{G:Gs->Prop}
theorem Qy.cM{q:Option Addr}{sz:Nat}(h:Qy F q n sz cs)(e:q=none):n=0:=by
 rcases aB n with g | g
 ·exact g
 obtain⟨_,_,_,_,a,_⟩:=h.2 g;rw[e]at a;cases a
end
section
open Go.RowKit Go.ChangeShapes Go.WideShapes Ig
section
variable{H:Type}{enc:TypeId×Value->H}{w:World}
theorem QDu(n:Nat)(cs:List Value)(x:DataW H×List MemPlace)(h:bz enc prog w 0 (λ_=>true) true n 3 cs=some x):∃y:Int,cs=[Jo y]/\True:=by
 obtain⟨z,rfl,_⟩:=DataW.trod_int QGy h;exact⟨z,rfl,trivial⟩
theorem QDz(l:List Int):(l.flatMap λy=>[Jo y])=l.map Jo:=by
 induction l with
 |nil=>rfl
 |cons a l ih=>rw[ep,ih];rfl
theorem QGf(l:List (List UInt8)):(l.flatMap λy=>[tx y])=l.map tx:=by
 induction l with
 |nil=>rfl
 |cons a l ih=>rw[ep,ih];rfl
end
end
def Vg(l:List Tm):Pt:=l.map λt=>(JP t.1,t.2)
def QED(F:Gs)(s:Sr)(ts:List V0)(p:Pt):Prop:=Qy F s.q s.n 2 (ts.flatMap VM)/\Yy F ts/\ZX ts=p/\s.n<=s.cap/\ts.length=s.n
def jc(t:V0):∀v∈VM t,v.oneCell'=true:=by
 intro v a;unfold VM at a;simp only[List.mem_cons,List.not_mem_nil,or_false]at a;rcases a with rfl | rfl<;>rfl
section
open Go.RowKit Go.ChangeShapes Go.WideShapes Ig
def QGw(t:V0):Prop:=t.f.length<=9223372036854775807/\t.k.length<=9223372036854775807
section
variable{H:Type}{enc:TypeId×Value->H}{w:World}
theorem QGD{t:TypeId}{v:Value}{x:DataW H×List MemPlace}(ht:prog.underlying t=some .string)(h:bz enc prog w 0 (λ_=>true) true n t [v]=some x):∃l,v=tx l/\l.length<=9223372036854775807:=by
 obtain⟨s,e,_,a⟩:=DataW.trod_string ht h;obtain⟨rfl⟩:=List.cons.inj e;exact⟨s.data.toList,by simp[tx],by unfold maxLen at a;simpa using a⟩
set_option maxRecDepth 100000 in
theorem ua(n:Nat)(cs:List Value)(x:DataW H×List MemPlace)(h:bz enc prog w 0 (λ_=>true) true n 108 cs=some x):∃y:V0,cs=VM y/\J8 (Vx w) y.r y.k/\QGw y:=by
 obtain⟨i,s,m,_,c,h0,h1⟩:=trod_struct2 underlying108 h;have c2:prog.cellsOf 108=2:=tE;have c1:prog.cellsOf 22=1:=tE;have o:prog.cellsOf 106=1:=tE;rw[c2]at c
 match cs,c with
 |[a,b],_ =>
  dsimp only at h0 h1;rw[c1]at h0;rw[o]at h1;obtain⟨f,rfl,j⟩:=QGD jD (v:=a) h0;obtain⟨q,n,cap,l,e,g,hn,hb,_,hc⟩:=Pe (cs:=[b]) (f:=λy=>[Jo y]) (Q:=λ_=>True) underlying106 (show prog.cellsOf 3=1 by kernel_rfl) tF (λ_=>rfl) QDu h1;obtain⟨rfl⟩:=(ei _ _ _ _ ▸ e:_/\_).1;rw[QDz]at g;exact⟨⟨f,⟨q,n,cap⟩,l⟩,rfl,⟨g,hn,hc⟩,j,by rw[hn];exact hb⟩
set_option maxRecDepth 100000 in
theorem Xoe{v:Value}{x:DataW H×List MemPlace}(h:bz enc prog w 0 (λ_=>true) true m 76 [v]=some x):
  ∃a:NQ,v=a.1.v/\QED (Vx w) a.1 a.2 (ZX a.2)/\(∀t∈a.2,QGw t)/\a.1.n<=9223372036854775807:=by
 obtain⟨q,n,cap,l,h1,h2,h3,h4,h5,h6⟩:=Pe (cs:=[v]) (f:=VM) (Q:=λy=>J8 (Vx w) y.r y.k/\QGw y) underlying76 (show prog.cellsOf 108=2 by kernel_rfl) tF (λ_=>rfl) ua h;exact⟨(⟨q,n,cap⟩,l),(ei _ _ _ _ ▸ h1:_/\_).1,⟨h2,λt ht=>(h5 t ht).1,rfl,h6,h3⟩,λt ht=>(h5 t ht).2,h4⟩
end
end
theorem qL:∀(p:List Tm) (t:Tm),(Z0 p t).length<=p.length+1
 |[],t=>by
  unfold Z0;split<;>simp
 |x::p,t=>by
  have:=qL p t;unfold Z0
  repeat' split
  all_goals simp only[aD]
  all_goals omega
def cU:∀(l p:List Tm),(l.foldl Z0 p).length<=p.length+l.length
 |[],p=>tJ
 |t::l,p=>by
  have h1:=cU l (Z0 p t);have h2:=qL p t;simp only[bQ,aD];omega
def QDi(l:List Tm):(XO l).length<=l.length:=by have:=cU l [];simpa[XO]using this
def cR:∀(l p:List Tm) (x:Tm),x∈l.foldl Z0 p->(∃y∈p,y.2=x.2)\/∃y∈l,y.2=x.2
 |[],p,x,h=>.inl ⟨x,h,rfl⟩
 |t::l,p,x,h=>by
  rw[bQ]at h;rcases cR l _ x h with ⟨y,hy,e⟩ | ⟨y,hy,e⟩
  ·rcases Ic hy with h2 | h2
   ·exact .inl ⟨y,h2,e⟩
   exact .inr ⟨t,tJ,by rw[<-h2];exact e⟩
  exact .inr ⟨y,by simp[hy],e⟩
def QDe{l:List Tm}{x:Tm}(h:x∈XO l):∃y∈l,y.2=x.2:=by
 rcases cR l [] x h with ⟨y,hy,_⟩ | h
 ·cases hy
 exact h
theorem QCH{p:List Tm}(h:Canon p){t:Tm}(ht:t∈p):Ig.XR p t.2=t.1:=by
 induction p with
 |nil=>cases ht
 |cons x p ih =>
  rcases List.mem_cons.1 ht with rfl | ht
  ·exact h.head
  have hb:=(List.pairwise_cons.1 h.srt).1 t ht;have a:x.2≠t.2:=QD5 hb;simp only[Ig.XR];rw[if_neg a,Rat.zero_add];exact ih h.tail ht
def QDO{l:List Tm}{t:Tm}(h:t∈XO l):JW t.1<=Yr l+1:=by
 rw[<-QCH (SF l) h,Ui];exact Sf l t.2
structure QH0(a b:List Int) where
 i:Nat
 le:i<=a.length
 h:a.take i=b.take i
structure QH9(a b:List Int) where
 i:Nat
 le:i<=a.length
 h:Ya a b=Ya (a.drop i) (b.drop i)
def QH0.next(s:QH0 a b)(h1:s.i<a.length)(h2:s.i<b.length)(e:Qm a s.i=Qm b s.i):a.take (s.i+1)=b.take (s.i+1):=by
 rw[XE h1,XE h2,s.h,<-YW h1,<-YW h2,e]
def QH9.step(s:QH9 a b)(h1:s.i<a.length)(h2:s.i<b.length):Ya a b=(decide (Qm b s.i<Qm a s.i)||(decide (Qm a s.i=Qm b s.i)&&Ya (a.drop (s.i+1)) (b.drop (s.i+1)))):=by
 rw[s.h,Xr h1,Xr h2];rfl
theorem uo{q l:Option Addr}{c f c2:Nat}(y:Fits F w)(x:J8 F ⟨q,n,c⟩ a)(u:J8 F ⟨l,f,c2⟩ b)(la:a.length<=1000000):Qf prog 330 [.slice q n c,.slice l f c2] w F (.bool (decide (a=b))):=by
 have s:=x.2.1;have nb:=u.2.1;dsimp only at s nb;refine QU.intro (G:=λF=>J8 F ⟨q,n,c⟩ a/\J8 F ⟨l,f,c2⟩ b) func330 rfl tH rfl rfl y (λF' k=>⟨x.le k,u.le k⟩)<|wa<|wZ rfl<|QG<|wb rfl<|QA (Qg rfl Q2)<|wW rfl<|QA (Qg rfl Q2)<|QA (QT rfl rfl rfl)<|QE<|QC ?_
 refine QQ I (λhc=>?_) λhc=>?_
 ·have g:=bne_iff_ne.1 hc;refine wA 6 I ?_;exact wg I I (congrArg ag (decide_eq_false λe=>g (by rw[<-s,<-nb,e]))) tL
 have g:=bne_eq_false_iff_eq.1 hc;refine wC 9 I<|J9 (ι:=QH0 a b) [(0,_),(1,_)] (λi=>[(5,.int .i64 ((i.i:Nat):Int))]) (λi=>a.length-i.i) (⟨0,aE _,rfl⟩) wm wk λi=>?_
 simp only[ab,af];have hi:=i.le;refine wA 5 I<|QA (Qg I Q2)<|wD 3 I ?_
 refine QQ I (λhc=>?_) λhc=>?_
 ·have j:i.i<a.length:=tD<|wi hc
  refine wC 5 I<|JG we mixed tE<|QK (QD I)<|QK (QD I)<|QK (Q3 (n:=n) i.i (λF h9=>(h9.1).1) rfl rfl Q2 JK O)<|QK (JA (n:=n) ((i.i)*1) (λF h9=>(h9.1).1) O rfl JK (Jz (o:=a) O))<|QK (QD I)<|QK (QD I)<|QK (Q3 (n:=f) i.i (λF h9=>(h9.2).1) rfl rfl Q2 JK O)<|QK (JA (n:=f) ((i.i)*1) (λF h9=>(h9.2).1) O rfl JK (Jz (o:=b) O))<|QK (QT I I I)<|Q7<|QC ?_
  refine QQ I (λhc=>?_) λhc=>?_
  ·have he:=bne_iff_ne.1 hc;refine wA 6 I ?_
   repeat first|refine Q6 ?_|refine Qv ?_
   exact wg I I (congrArg ag (decide_eq_false λe=>he (congrArg (λz=>Qm z i.i) e))) tL
  have he:=bne_eq_false_iff_eq.1 hc;refine QN<|Qj<|wE 3 I<|QA (Qu I I O)<|wB 2 I ?_
  exact Ql (⟨i.i+1,j,i.next j O he⟩) (by show a.length-(i.i+1)<a.length-i.i;omega) wu we tM
 have m:i.i=a.length:=tD<|wj hc
 refine Qx ?_
 repeat first|refine QY ?_|refine QO tH ?_
 refine QZ<|wE 7 I ?_
 exact wg I I (congrArg ag (decide_eq_true (by have h:=i.h;rw[m,aH,ai O]at h;exact h))) tL
theorem Ss{r:Sr}(k:Fits F w)(b:J8 F r l)(hp:PW l):Qf prog 142 [r.v] w F (.int .i64 l.sum):=by
 obtain⟨q,n,c⟩:=r;have f:=b.2.1;dsimp only[Sr.v]at f ⊢;have h:=hp.2;refine QU.intro (G:=λF=>J8 F ⟨q,n,c⟩ l) func142 rfl tH rfl rfl k (λF' g=>b.le g)<|wa<|wZ rfl<|wa<|wZ rfl<|QG<|wa<|wZ rfl<|QV<|J9 (ι:={i:Nat // i<=l.length}) [(0,_)] (λi=>[(3,.int .i64 ((l.take i.1).sum)),(4,.int .i64 ((i.1:Nat):Int))]) (λi=>l.length-i.1) (⟨0,aE _⟩) wk wm λi=>?_
 simp only[ab,af];have hi:=i.2;have m:=hp.sum i.1 hi;refine wA 5 I<|QA (Qg I Q2)<|wD 3 I ?_
 refine QQ I (λhc=>?_) λhc=>?_
 ·have a:i.1<l.length:=tD<|wi hc
  have he:=hp.el a;refine wC 8 I<|QA (Q3 (n:=n) (i.1) (λF b=>(b).1) rfl rfl Q2 JK O)<|QA (JA (n:=n) ((i.1)*1) (λF b=>(b).1) O rfl JK (Jz (o:=l) O))<|QA (Qu I I O)<|wB 2 I<|Qj<|wE 3 I<|QA (Qu I I O)<|wB 2 I ?_
  exact Ql (⟨i.1+1,a⟩) (by show l.length-(i.1+1)<l.length-i.1;omega) ⟨rfl,(congrArg (λz:Int=>some (ae .i64 z)) (Sh a).symm),rfl,trivial⟩ we tM
 have j:i.1=l.length:=tD<|wj hc
 refine Qx ?_
 repeat first|refine QY ?_|refine QO tH ?_
 refine QZ<|wE 8 I ?_
 exact wg I I (congrArg (ae .i64) (by rw[ai O])) tL
theorem vO{q m:Option Addr}{c g c2:Nat}(B:Fits F w)(z:J8 F ⟨q,n,c⟩ a)(y:J8 F ⟨m,g,c2⟩ b)(pa:PW a)(x:PW b)(C:a.length=b.length):Qf prog 141 [.slice q n c,.slice m g c2] w F (.bool (before a b)):=by
 have A:=z.2.1;have nb:=y.2.1;dsimp only at A nb;have la:=pa.2;refine QU.intro (G:=λF=>J8 F ⟨q,n,c⟩ a/\J8 F ⟨m,g,c2⟩ b) func141 rfl tH rfl rfl B (λF' s=>⟨z.le s,y.le s⟩)<|wa<|wZ rfl<|QG<|wb rfl<|QI rfl (λ_ _ f k=>Ss f (r:=⟨q,n,c⟩) k.1 (pa)) λ_=>wW rfl<|QI rfl (λ_ _ f k=>Ss f (r:=⟨m,g,c2⟩) k.1.2 (x)) λ_=>QA (QT rfl rfl rfl)<|QE<|QC ?_
 refine QQ I (λhc=>?_) λhc=>?_
 ·have j:=bne_iff_ne.1 hc;refine wb I<|QI I (λ_ _ f k=>Ss f (r:=⟨q,n,c⟩) k.1.1.1 (pa)) λ_=>wW I<|QI I (λ_ _ f k=>Ss f (r:=⟨m,g,c2⟩) k.1.1.1.2 (x)) λ_=>wD 5 I ?_
  exact wg I I (congrArg ag (by unfold before;rw[decide_eq_false j,Bool.false_and,Bool.or_false])) tL
 have j:=bne_eq_false_iff_eq.1 hc;refine wC 9 I<|J9 (ι:=QH9 a b) [(0,_),(1,_)] (λi=>[(5,.int .i64 ((i.i:Nat):Int))]) (λi=>a.length-i.i) (⟨0,aE _,rfl⟩) wm wk λi=>?_
 simp only[ab,af];have hi:=i.le;refine wA 5 I<|QA (Qg I Q2)<|wD 3 I ?_
 refine QQ I (λhc=>?_) λhc=>?_
 ·have l:i.i<a.length:=tD<|wi hc
  refine wC 5 I<|JG we mixed tE<|QK (QD I)<|QK (QD I)<|QK (Q3 (n:=n) i.i (λF h9=>(h9.1.1.1).1) rfl rfl Q2 JK O)<|QK (JA (n:=n) ((i.i)*1) (λF h9=>(h9.1.1.1).1) O rfl JK (Jz (o:=a) O))<|QK (QD I)<|QK (QD I)<|QK (Q3 (n:=g) i.i (λF h9=>(h9.1.1.2).1) rfl rfl Q2 JK O)<|QK (JA (n:=g) ((i.i)*1) (λF h9=>(h9.1.1.2).1) O rfl JK (Jz (o:=b) O))<|QK (QT I I I)<|Q7<|QC ?_
  refine QQ I (λhc=>?_) λhc=>?_
  ·have he:=bne_iff_ne.1 hc;refine QG<|JG we mixed tE<|QK (QD I)<|QK (QD I)<|QK (Q3 (n:=n) i.i (λF h9=>(h9.1.1.1).1) rfl rfl Q2 JK O)<|QK (JA (n:=n) ((i.i)*1) (λF h9=>(h9.1.1.1).1) O rfl JK (Jz (o:=a) O))<|QK (QD I)<|QK (QD I)<|QK (Q3 (n:=g) i.i (λF h9=>(h9.1.1.2).1) rfl rfl Q2 JK O)<|QK (JA (n:=g) ((i.i)*1) (λF h9=>(h9.1.1.2).1) O rfl JK (Jz (o:=b) O))<|QK (QT I I I)<|QK (QF I)<|Q7<|QC<|QX ?_
   repeat first|refine Q6 ?_|refine Qv ?_
   exact wg I I (congrArg ag (by unfold before;rw[i.step l O,decide_eq_false he,j];simp)) tL
  have he:=bne_eq_false_iff_eq.1 hc;refine QN<|Qj<|wE 3 I<|QA (Qu I I O)<|wB 2 I ?_
  exact Ql (⟨i.i+1,l,by rw[i.step l O,he];simp⟩) (by show a.length-(i.i+1)<a.length-i.i;omega) wu we tM
 have u:i.i=a.length:=tD<|wj hc
 refine Qx ?_
 repeat first|refine QY ?_|refine QO tH ?_
 refine QZ<|wE 7 I ?_
 exact wg I I (congrArg ag (by unfold before;rw[i.h,u,bp (aq _),j];simp[Ya])) tL
theorem Xo0{v:Int}(b:Fits F w):Qf prog 48 [.int .i64 v] w F (.int .i64 (BL v)):=by
 refine QU.intro (G:=λF=>True) func48 rfl tH rfl rfl b tL<|wa<|wZ rfl<|QG<|wb rfl<|QA (QT rfl rfl rfl)<|wW rfl ?_
 refine Qn (t:=5) rfl (λa=>?_) λa=>?_
 ·refine wD 5 I<|SG I<|wA 6 I ?_
  exact wg I I (congrArg (ae .i64) (by unfold BL;first | (rw[if_pos (eW a)]) | (rw[if_pos (eV h8)]) | (rw[if_neg (λh=>h.elim (λg=>by rw[g]at a;cases a) λg=>by rw[g]at h8;cases h8)]))) tL
 refine wD 7 I ?_;refine QQ I (λhc=>?_) λhc=>?_
 ·have h8:=hc;refine wA 6 I ?_;exact wg I I (congrArg (ae .i64) (by unfold BL;first | (rw[if_pos (eW a)]) | (rw[if_pos (eV h8)]) | (rw[if_neg (λh=>h.elim (λg=>by rw[g]at a;cases a) λg=>by rw[g]at h8;cases h8)]))) tL
 have h8:=hc;refine wC 8 I ?_;exact wg I I (congrArg (ae .i64) (by unfold BL;first | (rw[if_pos (eW a)]) | (rw[if_pos (eV h8)]) | (rw[if_neg (λh=>h.elim (λg=>by rw[g]at a;cases a) λg=>by rw[g]at h8;cases h8)]))) tL
def QAu{f:List UInt8}{v:Int}(h1:(l.length:Int)=v+1)(h2:∀k∈l,0<=k):Y8 f l v=if decide (GI l>12)=true then 4 else Jp f:=by
 unfold Y8;rw[if_neg (λh=>h h1),if_neg (uB h2)];simp only[Qs];by_cases g:decide (GI l>12)=true
 ·rw[if_pos g,if_pos g,if_neg tF]
 rw[if_neg g,if_neg g,if_pos rfl];by_cases k:Jp f=0
 ·rw[k];rfl
 rw[if_neg k]
theorem kj{f:List UInt8}{q:Option Addr}{v:Int}(D:Fits F w)(A:JE F)(B:J8 F ⟨q,n,cap⟩ l)(C:f.length<=9223372036854775807)(H:l.length<=9223372036854775807)(E : -1000000<=v/\v<=1000000):Qf prog 140 [.agg #[tx f,.slice q n cap],.int .i64 v] w F (.int .i64 (Y8 f l v)):=by
 have b:l.length=n:=B.2.1;refine QU.intro (G:=λF=>JE F/\J8 F ⟨q,n,cap⟩ l) func140 rfl tH rfl rfl D (λF' x=>⟨A.le x,B.le x⟩)<|wa<|Qp rfl (vs:=[_,_]) rfl λb2=>wZ rfl<|QG<|wa<|QA (QH rfl Yh JM)<|QA (Qe rfl JM .here (.skip .h1))<|QA (Qg rfl Q2)<|wW rfl<|QA (Qu rfl rfl O)<|QA (QT rfl rfl rfl)<|QE<|QC ?_
 refine QQ I (λhc=>?_) λhc=>?_
 ·have y:=bne_iff_ne.1 hc;refine wA 6 I ?_;exact wg I I (congrArg (ae .i64) (by unfold Y8;rw[if_pos (by rw[b];exact y)])) tL
 have u:=bne_eq_false_iff_eq.1 hc;refine wC 14 I<|J9 (ι:=QGs l) [(2,_)] (λi=>[(5,.int .i64 (GI (l.take i.i))),(6,.int .i64 ((i.i:Nat):Int))]) (λi=>l.length-i.i) (⟨0,aE _,tJ⟩) wk wm λi=>?_
 simp only[ab,af];have hi:=i.le;have hb:=MY _ i.nn;rw[av]at hb;refine wA 4 I<|QA (QH I Yh JM)<|QA (Qe I JM .here (.skip .h1))<|QA (Qg I Q2)<|wD 3 I ?_
 refine QQ I (λhc=>?_) λhc=>?_
 ·have a:i.i<l.length:=tD<|wi hc
  refine wC 7 I<|QA (QH I Yh JM)<|QA (Qe I JM .here (.skip .h1))<|wW I<|QA (Q3 (n:=n) i.i (λF h9=>(h9.2).1) rfl rfl Q2 JK O)<|QA (JA (n:=n) ((i.i)*1) (λF h9=>(h9.2).1) O rfl JK (Jz (o:=l) O))<|wD 3 I ?_
  refine QQ I (λhc=>?_) λhc=>?_
  ·have m:=wi hc;refine wA 6 I ?_
   repeat first|refine Q6 ?_|refine Qv ?_
   exact wg I I (congrArg (ae .i64) (by unfold Y8;rw[if_neg (by rw[b];exact λh=>h u),if_pos (jd a m)])) tL
  have m:=wj hc;refine wC 4 I<|QA (QH I Yh JM)<|QA (Qe I JM .here (.skip .h1))<|wW I<|QA (Q3 (n:=n) i.i (λF h9=>(h9.2).1) rfl rfl Q2 JK O)<|QA (JA (n:=n) ((i.i)*1) (λF h9=>(h9.2).1) O rfl JK (Jz (o:=l) O))<|QA (vR I I)<|QA (Qu I I O)<|wB 2 I<|Qj<|wE 3 I<|QA (Qu I I O)<|wB 2 I ?_
  exact Ql (⟨i.i+1,a,by intro k hk;rw[XE a]at hk;rcases List.mem_append.1 hk with hk | hk;exact i.nn k hk;rw[List.mem_singleton.1 hk,<-YW a];omega⟩) (by show l.length-(i.i+1)<l.length-i.i;omega) ⟨rfl,(congrArg (λz:Int=>some (ae .i64 z)) (Ik a).symm),rfl,trivial⟩ we tM
 have s:i.i=l.length:=tD<|wj hc
 refine Qx ?_
 repeat first|refine QY ?_|refine QO tH ?_
 refine QZ<|wE 4 I ?_
 rw[s,aH];have j:=i.nn;rw[s,aH]at j;have g:=QAu (f:=f) (v:=v) (by rw[b];exact u) j;refine wD 4 I ?_;refine QQ I (λhc=>?_) λhc=>?_
 ·have c:=hc;refine wA 6 I ?_;exact wg I I (congrArg (ae .i64) (by rw[g,if_pos c])) tL
 have c:=hc;refine wC 4 I<|QA (QH I GM JF)<|QA (Qe I JF .here .h1)<|QI I (λ_ _ f k=>vN f (C)) λ_=>wD 4 I ?_
 exact wg I I (congrArg (ae .i64) (by rw[g,c];rfl)) tL
section
variable{ps:List V0}{v:Int}{i:Nat}
def QIw(h:i<ps.length)(he:Y8 (el ps i).f (el ps i).k v≠0):GH (ZX ps) v i=Y8 (el ps i).f (el ps i).k v:=by
 have e:Qs [Y8 (el ps i).f (el ps i).k v,if((el ps i).f==[48])=true then 6 else 0]=Y8 (el ps i).f (el ps i).k v:=by
  unfold Qs;rw[if_neg he]
 rw[step_eq h e,if_neg (λg=>he g.1)]
def QIv(h:i<ps.length)(he:Y8 (el ps i).f (el ps i).k v=0)(hz:((el ps i).f==[48])=true):GH (ZX ps) v i=6:=by
 have e:Qs [Y8 (el ps i).f (el ps i).k v,if((el ps i).f==[48])=true then 6 else 0]=6:=by
  rw[he,if_pos hz];rfl
 rw[step_eq h e,if_neg (λg=>tD g.1)]
def QEd(h:i<ps.length)(he:Y8 (el ps i).f (el ps i).k v=0)(hz:((el ps i).f==[48])=false):GH (ZX ps) v i=if 0<i/\before (el ps (i-1)).k (el ps i).k=false then 11 else 0:=by
 have e:Qs [Y8 (el ps i).f (el ps i).k v,if((el ps i).f==[48])=true then 6 else 0]=0:=by
  rw[he,hz];rfl
 rw[step_eq h e];have hb:(0<=Gj (el ps (i-1)).k (el ps i).k)↔before (el ps (i-1)).k (el ps i).k=false:=by
  rw[Bt,decide_eq_false_iff_not];omega
 by_cases g:0<i/\before (el ps (i-1)).k (el ps i).k=false
 ·rw[if_pos g,if_pos ⟨rfl,g.1,hb.2 g.2⟩]
 rw[if_neg g,if_neg (λh=>g ⟨h.2.1,hb.1 h.2.2⟩)]
end
theorem Iw{q:Option Addr}{ps:List V0}{v:Int}(R:Fits F w)(M:JE F)(P:Qy F q n 2 (ps.flatMap VM))(Q:Yy F ps)(E:ps.length=n)(N:∀t∈ps,t.f.length<=9223372036854775807/\t.k.length<=9223372036854775807)(S:ps.length<=9223372036854775807)(D:0<=v/\v<=24):Qf prog 49 [.slice q n cap,.int .i64 v] w F (.int .i64 (Zh (ZX ps) v)):=by
 have x:(ZX ps).length=n:=by unfold ZX;rw[List.length_map];exact E
 refine QU.intro (G:=λF=>JE F/\Qy F q n 2 (ps.flatMap VM)/\Yy F ps) func49 rfl tH rfl rfl R (λF' B=>⟨M.le B,P.le B,Q.le B⟩)<|wa<|wZ rfl<|QG<|wb rfl<|QA (Qg rfl Zg)<|QA (QT rfl rfl rfl)<|QE<|QC ?_
 refine QQ I (λhc=>?_) λhc=>?_
 ·have m:=hc;refine wA 6 I ?_;exact wg I I (congrArg (ae .i64) (by unfold Zh;rw[x,if_pos m])) tL
 have m:=wj hc;refine wC 9 I<|J9 (ι:=jQ (ZX ps) v n) [(0,_),(1,_)] (λi=>[(5,.int .i64 ((i.i:Nat):Int))]) (λi=>n-i.i) (⟨0,aE _,λj H=>absurd H (Nat.not_lt_zero _)⟩) wm wk λi=>?_
 simp only[ab,af];have hi:=i.le;refine wA 5 I<|QA (Qg I Zg)<|wD 3 I ?_
 refine QQ I (λhc=>?_) λhc=>?_
 ·have u:i.i<n:=tD<|wi hc
  have y:el ps i.i∈ps:=Qw O;refine wC 8 I<|QA (Q3 (n:=n) i.i (λF h9=>h9.2.1) rfl rfl Zg Xh O)<|QA (JZ (n:=n) (vs:=[tx (el ps i.i).f,.slice (el ps i.i).r.q (el ps i.i).r.n (el ps i.i).r.cap]) ((i.i)*2) (λF h9=>h9.2.1) O rfl Xh I λj v D=>JN (f:=VM) (l:=ps) YR O D)<|wW I<|QI I (λ_ _ g h=>kj g (h.1) (f:=(el ps i.i).f) (l:=(el ps i.i).k) (h.2.2 _ y) ((N _ y).1) ((N _ y).2) O) λ_=>wD 10 I ?_
  refine QQ I (λhc=>?_) λhc=>?_
  ·have c:=bne_iff_ne.1 hc;refine wA 7 I ?_
   repeat first|refine Q6 ?_|refine Qv ?_
   exact wg I I (congrArg (ae .i64) (DQ x m i u (QIw O c) c)) tL
  have c:=bne_eq_false_iff_eq.1 hc;refine wC 7 I<|QA (Q3 (n:=n) i.i (λF h9=>h9.1.2.1) rfl rfl Zg Xh O)<|QA (QH I GM JF)<|QA (JA (n:=n) ((i.i)*2+0) (λF h9=>h9.1.2.1) O rfl JF (JN (f:=VM) (l:=ps) YR O rfl))<|QI I (λ_ _ f k=>QCm f ) λ_=>QE<|QC ?_
  refine QQ I (λhc=>?_) λhc=>?_
  ·have o:=hc;refine wA 6 I ?_
   repeat first|refine Q6 ?_|refine Qv ?_
   exact wg I I (congrArg (ae .i64) (DQ x m i u (QIv O c o) tF)) tL
  have o:=hc;refine wC 3 I<|JG we mixed tE<|QK (QD I)<|QK (QT I I I)<|QK (QD I) ?_
  refine Gg (t:=33) rfl (λs=>?_) λs=>?_
  ·have K:0<i.i:=tD<|wi s
   have A:=(Pc (i.z (i.i-1) O)).1;rw[F9 (show i.i-1<ps.length by omega)]at A;have C:el ps (i.i-1)∈ps:=Qw O;refine XA I I<|QK (QD I)<|XA I I<|QK (QD I)<|XA I I<|QK (X3 I I O)<|XA I I<|QK (Q3 (n:=n) ((i.i-1)) (λF h9=>h9.1.1.2.1) rfl wS Zg Xh O)<|XA I I<|QK (QH I Yh JM)<|XA I I<|QK (JA (n:=n) (((i.i-1))*2+1) (λF h9=>h9.1.1.2.1) O rfl JM (JN (f:=VM) (l:=ps) YR O rfl))<|XA I I<|QK (QD I)<|XA I I<|QK (QD I)<|XA I I<|QK (Q3 (n:=n) i.i (λF h9=>h9.1.1.2.1) rfl rfl Zg Xh O)<|XA I I<|QK (QH I Yh JM)<|XA I I<|QK (JA (n:=n) ((i.i)*2+1) (λF h9=>h9.1.1.2.1) O rfl JM (JN (f:=VM) (l:=ps) YR O rfl))<|XA I I<|QR I (λ_ _ f h=>vO f (a:=(el ps (i.i-1)).k) (b:=(el ps i.i).k) (h.1.1.2.2 _ C) (h.1.1.2.2 _ y) (GB A D.2) (GB c D.2) (by have h1:=(Wv A).1;have h2:=(Wv c).1;dsimp only at h1;omega)) λ_=>XA I I ?_
   refine QK (XL I)<|QK (Qh I I I)<|Q7<|QC ?_
   refine QQ I (λhc=>?_) λhc=>?_
   ·refine wA 6 I ?_
    repeat first|refine Q6 ?_|refine Qv ?_
    exact wg I I (congrArg (ae .i64) (DQ x m i u (by rw[QEd O c o,if_pos ⟨K,by simpa using hc⟩]) tF)) tL
   refine QN<|Qj<|wE 3 I<|QA (Qu I I O)<|wB 2 I ?_
   exact Ql (⟨i.i+1,u,λj H=>by
    rcases aN j i.i with g | g
    ·exact i.z j g
    rw[show j=i.i from by omega];first | (rw[QEd O c o,if_neg (λh=>tD<|wj s)]) | (rw[QEd O c o,if_neg (λh=>by rw[h.2]at hc;cases hc)])⟩) (by show n-(i.i+1)<n-i.i;omega) wu we λF h=>h.1.1.1
  refine Jj I I I<|Jj I I I<|Jj I I I<|Jj I I I<|Jj I I I<|Jj I I I<|Jj I I I<|Jj I I I<|Jj I I I<|Jj I I I<|Jj I I I<|Jj I I I<|Jj I I I<|QK (Qd I I I)<|Q7<|QC<|Yj I<|QN<|Qj<|wE 3 I<|QA (Qu I I O)<|wB 2 I ?_
  exact Ql (⟨i.i+1,u,λj H=>by
    rcases aN j i.i with g | g
    ·exact i.z j g
    rw[show j=i.i from by omega];first | (rw[QEd O c o,if_neg (λh=>tD<|wj s)]) | (rw[QEd O c o,if_neg (λh=>by rw[h.2]at hc;cases hc)])⟩) (by show n-(i.i+1)<n-i.i;omega) wu we λF h=>h.1.1
 have L:n<=i.i:=tD<|wj hc
 refine Qx ?_
 repeat first|refine QY ?_|refine QO tH ?_
 refine QZ<|wE 7 I ?_
 exact wg I I (congrArg (ae .i64) (OZ x m i L)) tL
def QDF(a:List V0):(ZX a).length=a.length:=by simp[ZX]
section
variable{α:Type}[Inhabited α]{l:List α}{p:α->Bool}
def Me.hit(s:Me l p)(h:s.i<l.length)(e:p (el l s.i)=true):l.any p=true:=List.any_eq_true.2 ⟨_,Qw h,e⟩
end
def uA(ps:List V0)(q:List UInt8×List Int->Bool):(ZX ps).any q=ps.any λt=>q (t.f,t.k):=by unfold ZX;rw[List.any_map];rfl
def fpB(p:Pt)(v a b c:Int):Bool:=if(p.length:Int)>a\/Zh p v≠0 then false else !(p.any λx=>decide (x.2.sum>b)||!(Uz x.1 c))
theorem uw{q:Option Addr}{ps:List V0}{v a b:Int}(L:Fits F w)(D:JE F)(N:Qy F q n 2 (ps.flatMap VM))(P:Yy F ps)(C:ps.length=n)(R:∀t∈ps,t.f.length<=9223372036854775807/\t.k.length<=9223372036854775807)(Q:ps.length<=9223372036854775807)(M:0<=v/\v<=24)(K:0<=c/\c<=1000000):Qf prog 50 [.slice q n cap,.int .i64 v,.int .i64 a,.int .i64 b,.int .i64 c] w F (.bool (fpB (ZX ps) v a b c)):=by
 have y:(ZX ps).length=n:=by rw[QDF];exact C
 refine QU.intro (G:=λF=>JE F/\Qy F q n 2 (ps.flatMap VM)/\Yy F ps) func50 rfl tH rfl rfl L (λF' A=>⟨D.le A,N.le A,P.le A⟩)<|wa<|wZ rfl<|QG<|wb rfl<|QA (Qg rfl Zg)<|wW rfl<|QA (QT rfl rfl rfl)<|wW rfl ?_
 refine Qn (t:=16) rfl (λs=>?_) λs=>?_
 ·have u:=wi s;refine wD 7 I<|SG I<|wA 6 I ?_
  exact wg I I (congrArg ag (by unfold fpB;rw[y,if_pos (eW u)])) tL
 have u:=wj s;refine wB 5 I<|QI I (λ_ _ f k=>Iw f (k.1) (k.2.1) (k.2.2) (C) (R) (Q) (M)) λ_=>wD 5 I ?_
 refine QQ I (λj=>?_) λj=>?_
 ·have m:=bne_iff_ne.1 j;refine wA 6 I ?_;exact wg I I (congrArg ag (by unfold fpB;rw[if_pos (eV m)])) tL
 have m:=bne_eq_false_iff_eq.1 j;have B:=H4 m;have E:∀t∈ps,PW t.k:=λt ht=>GB (B.term (t.f,t.k) (List.mem_map.2 ⟨t,ht,rfl⟩)) M.2;refine wC 9 I<|J9 (ι:=Me ps λt=>decide (t.k.sum>b)||!(Uz t.f c)) [(0,_),(3,_),(4,_)] (λi=>[(11,.int .i64 ((i.i:Nat):Int))]) (λi=>ps.length-i.i) (Me.start _ _) wu wk λi=>?_
 simp only[ab,af];have hi:=i.le;refine wA 5 I<|QA (Qg I Zg)<|wD 3 I ?_
 refine QQ I (λj=>?_) λj=>?_
 ·have x:i.i<ps.length:=tD<|wi j
  have z:=Qw x;refine wC 8 I<|QA (Q3 (n:=n) i.i (λF h9=>h9.1.2.1) rfl rfl Zg Xh O)<|QA (QH I Yh JM)<|QA (JA (n:=n) ((i.i)*2+1) (λF h9=>h9.1.2.1) O rfl JM (JN (f:=VM) (l:=ps) YR O rfl))<|QI I (λ_ _ f k=>Ss f (r:=(el ps i.i).r) (k.1.2.2 _ z) (E _ z)) λ_=>wB 3 I ?_
  refine Qn (t:=36) rfl (λo=>?_) λo=>?_
  ·refine wD 11 I<|SG I<|wA 6 I ?_
   repeat first|refine Q6 ?_|refine Qv ?_
   exact wg I I (congrArg ag (by unfold fpB;rw[y,if_neg (λh=>h.elim u λg=>g m),uA,i.hit x (by rw[o];rfl)];rfl)) tL
  refine wB 5 I<|QA (Q3 (n:=n) i.i (λF h9=>h9.1.1.2.1) rfl rfl Zg Xh O)<|QL I I<|QA (QH I GM JF)<|QL I I<|QA (JA (n:=n) ((i.i)*2+0) (λF h9=>h9.1.1.2.1) O rfl JF (JN (f:=VM) (l:=ps) YR O rfl))<|wB 3 I<|QI I (λw F L ⟨⟨⟨D,N,P⟩,_⟩,_⟩=>QHR L (by have h8:Jp (el ps i.i).f=0:=(Wv (B.term ((el ps i.i).f,(el ps i.i).k) (List.mem_map.2 ⟨el ps i.i,z,rfl⟩))).2.2.2;have h9:=Ie (Qz (el ps i.i).f);rw[<-(XM h8).1]at h9;have h10:=KO h8;omega) (K)) λ_=>QL I I<|QA (XL I)<|wD 3 I ?_
  refine QQ I (λj=>?_) λj=>?_
  ·refine wA 6 I ?_
   repeat first|refine Q6 ?_|refine Qv ?_
   exact wg I I (congrArg ag (by unfold fpB;rw[y,if_neg (λh=>h.elim u λg=>g m),uA,i.hit x (by rw[j];simp)];rfl)) tL
  refine QN<|Qj<|wE 3 I<|QA (Qu I I O)<|wB 2 I ?_
  exact Ql (i.next x (by rw[o,Bool.false_or];exact j)) (by show ps.length-(i.i+1)<ps.length-i.i;omega) wv we λF h=>h.1.1
 have H:ps.length<=i.i:=tD<|wj j
 refine Qx ?_
 repeat first|refine QY ?_|refine QO tH ?_
 refine QZ<|wE 7 I ?_
 exact wg I I (congrArg ag (by unfold fpB;rw[y,if_neg (λh=>h.elim u λg=>g m),uA];simp only[i.stop H];rfl)) tL
def QAM(z:Int):vB (Ze z)=au z.natAbs:=by
 have h:=Oc ((z:Int):Rat);rw[QC9,show((z:Int):Rat).num=z from by simp]at h;unfold vB;rw[h];unfold Dm;by_cases h0:z<0
 ·rw[if_pos h0,if_pos tF,Yo h0];rfl
 rw[if_neg h0,XJ O,if_neg (by split<;>decide)]
theorem O9(x y:Rat):Dv x y=if x<=y then x else y:=by
 unfold Dv;by_cases h:x<=y
 ·rw[if_pos h,if_pos ((N8 x y).2 h)]
 rw[if_neg h,if_neg λk=>h ((N8 x y).1 k)]
theorem CA(x y:Rat):Gx x y=if y<=x then x else y:=by
 unfold Gx;by_cases h:y<=x
 ·rw[if_pos h,if_pos ((Uj x y).2 h)]
 rw[if_neg h,if_neg λk=>h ((Uj x y).1 k)]
theorem uY(s:Rat×Rat)(x:Rat):ZC s x=(Dv s.1 x,Gx s.2 x):=by
 unfold ZC;rw[O9,CA];congr 1
 ·by_cases h:s.1<=x
  ·rw[if_pos h,if_neg λk=>absurd ((V9 _ _).1 k) (Rat.not_lt.2 h)]
  rw[if_neg h,if_pos ((V9 _ _).2 (Rat.not_le.1 h))]
 by_cases h:x<=s.2
 ·rw[if_pos h,if_neg λk=>absurd ((K3 _ _).1 k) (Rat.not_lt.2 h)]
 rw[if_neg h,if_pos ((K3 _ _).2 (Rat.not_le.1 h))]
theorem QBh(x y z:Rat):Dv (Dv x y) z=Dv x (Dv y z):=by
 simp only[O9];grind
theorem QBi(x y z:Rat):Gx (Gx x y) z=Gx x (Gx y z):=by
 simp only[CA];grind
def jw(a b:Rat×Rat):Jg a b=QBe a b:=by
 unfold Jg QBe Yi;simp only[bQ,fi,uY];rw[QBh (Dv _ _),QBi (Gx _ _)]
def pow_eq(a:Rat×Rat)(n:Int):Y5 a n=QDX a n:=by
 unfold Y5 QDX Yi;simp only[bQ,fi,uY]
end Go.Proofs.YtjcphjpkimmmjaaGreatDoor
