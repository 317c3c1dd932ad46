/- Steps of the proof of the theorem in the last file. -/
import Derived.Test.YtogkbhegfnklhaaGreatDoorQ0
import Derived.Laws.IdiomArrays
set_option linter.all false
set_option maxHeartbeats 4000000
open Go.Proofs.Tryz
open Nat renaming le_refl -> aa,mul_le_mul_right -> ae,mul_le_mul_left -> ah,zero_add -> ao,zero_le -> aq,dvd_refl -> ar,pow_one -> au,mul_le_mul -> ay,le_trans -> aC,add_mul -> aM,mul_pos -> aW,mul_zero -> aY,add_zero -> aZ,dvd_trans -> bh,one_mul -> bD,dvd_mul_right -> bF,dvd_mul_left -> bI,zero_mul -> bK,mul_dvd_mul -> bL,add_assoc -> bU,mul_succ -> ee,lt_or_ge -> ek,pow_pos -> ey,pow_add -> eB,not_lt_zero -> eD,sub_self -> eN,pow_zero -> eO,pow_le_pow_right -> eV,mul_add -> eW,lt_of_lt_of_le -> fa,pow_dvd_pow -> fg,pow_succ -> fu
open Go.Value renaming bool -> af,int -> bH,okWide -> eI
open Bool renaming and_eq_true -> ai,not_eq_true' -> aB,not_not -> aG,not_eq_false' -> aV,or_eq_false_iff -> bj,not_true -> fj,false_or -> fk
open List renaming sublist_cons_self -> aj,length_map -> ak,length_cons -> aw,length_append -> ax,map_append -> az,length_set -> aA,mem_map_of_mem -> aD,getElem_of_mem -> aE,cons_append -> aF,flatMap_cons -> aH,mem_cons_of_mem -> aK,take_length -> aQ,all_eq_true -> aR,length_range -> aX,nil_append -> bm,map_map -> bz,range -> bB,replicate -> bO,mem_of_mem_take -> bP,map_cons -> bT,set_eq_take_append_cons_drop -> bW,not_mem_nil -> ep,length_take -> er,getElem_map -> eu,range' -> ew,range_succ -> eC,take_zero -> eE,mem_or_eq_of_mem_set -> eF,mem_cons -> eG,take_of_length_le -> eK,take_append_drop -> eP,length -> eQ,contains_eq_mem -> eR,take_succ_cons -> eX,flatMap_append -> eY,drop_succ_cons -> eZ,foldl_append -> fb,append_assoc -> fc,drop_zero -> fh
open List.Perm renaming refl -> aS,of_eq -> eT
open Go.DataW renaming trod -> aT,Trod -> e8,trod_string -> e9
open Int renaming natCast_mul -> bw,natAbs_natCast -> fe,natAbs_mul -> fi
open Rat renaming add_zero -> bA,intCast_natCast -> bQ,le_trans -> bZ,mul_comm -> eM,div_def -> eU,zero_mul -> fq,one_mul -> fy
open Go.Region renaming waitsFor -> bJ,ready -> bV,binds -> eH,waitsFor_spec -> eL
open List.cons renaming inj -> bN
open Option.some renaming inj -> bS
open Array renaming all_eq_true_iff_forall_mem -> bY
open And renaming intro -> ff
open Go.Lib renaming decDigits -> fm
open Go.Instr renaming slice -> fp
open List.Sublist renaming refl -> fz
namespace Go.Proofs.YtogkbhegfnklhaaGreatDoor
variable{B L b c i j k m n o off z:Nat}{cs:List Value}{s:List UInt8×List UInt8}{y:YA}{w:World}{F:Gs}{l:List (List UInt8×List UInt8)}{vb:List Xf}{x:Rat}{all:List (List Xf)}{xs:List (Fr×Rat)}{S:World->Prop}
section
open Go.RowKit Go.ChangeShapes Go.WideShapes Ig
section
variable{H:Type}{enc:TypeId×Value->H}{w:World}{b:Nat}{v:Value}{d:DataW H}{p:List MemPlace}
set_option maxRecDepth 100000 in
theorem QFy{t:TypeId}(ht:prog.underlying t=some .string)(hv:eI prog w .any b t v)(h:e8 enc prog w 0 (λ_=>true) true t v d p):∃l,v=tx l:=by
 obtain⟨s,rfl,_⟩:=ChangeMaps.open_string ht hv h;exact⟨s.data.toList,by simp[tx]⟩
end
end
section
open Go.RowKit Go.ChangeShapes Go.WideShapes Ig
theorem yQ{α:Type}{f:α->List Value}{c:Array Value}(a:∀x,(f x).length=k):∀(l:List α) (i0:Nat),(∀i x,l[i]?=some x->∀j,j<k->c[off+(i0+i)*k+j]?=(f x)[j]?)->∀p u,(l.flatMap f)[p]?=some u->c[off+i0*k+p]?=some u
 |[],_,_,p,u,e=>by simp at e
 |x::l,i0,h,p,u,e=>by
  rw[aH]at e;rcases ek p k with g | g
  ·rw[List.getElem?_append_left (by rw[a];exact g)]at e;have:=h 0 x rfl p g;rw[aZ]at this;rw[this,e]
  rw[List.getElem?_append_right (by rw[a];exact g),a]at e;have:=yQ a l (i0+1) (λi y hy j b=>by
   have:=h (i+1) y (by simpa using hy) j b
   rwa [show i0+(i+1)=i0+1+i by omega]at this) (p-k) u e
  rwa [show off+(i0+1)*k+(p-k)=off+i0*k+p by rw[aM,bD];omega]at this
def QAT:(⟨b,off,none⟩:Addr).add n=⟨b,off+n,none⟩:=by
 unfold Addr.add;split
 ·rename_i h;rw[h,aZ]
 rfl
section
variable{H:Type}{enc:TypeId×Value->H}{w:World}
def vT{a:Addr}(h:w.cells? 0 a n=some cs):cs.length=n/\∀i,i<n->w.cell? (a.add i)=cs[i]?:=by
 unfold World.cells? at h;rw[if_pos (aq _)]at h;exact⟨by simpa using mapM_some_length h,λi hi=>by simpa using mapM_some_get h i i (by simp[hi])⟩
theorem Rn{fuel:Nat}{cs:List Value}{x:DataW H×List MemPlace}{t e:TypeId}{sz:Nat}{α:Type}{f:α->List Value}{Q:α->Prop}(ht:prog.underlying t=some (.slice e))(hc:prog.cellsOf e=sz)(h0:0<sz)(hf:∀x,(f x).length=sz)
  (hel:∀(n:Nat) (cs:List Value) (x:DataW H×List MemPlace),aT enc prog w 0 (λ_=>true) true n e cs=some x->∃y,cs=f y/\Q y)
  (hh:aT enc prog w 0 (λ_=>true) true fuel t cs=some x) :
  ∃(q:Option Addr) (n cap:Nat) (l:List α),cs=[.slice q n cap]/\Qz (WB w) q n sz (l.flatMap f)/\l.length=n/\n<=9223372036854775807/\(∀y∈l,Q y)/\n<=cap:=by
 rcases DataW.trod_slice ht hh with ⟨e0,_⟩ | ⟨a',len,cap,elems,rest,n,_,e0,_,_,h1,h2,hlen,hg,_,_⟩
 ·exact⟨none,0,0,[],e0,Qz.nil _ _ _,rfl,aq _,λy hy=>(by cases hy),aa _⟩
 subst e0;rw[hc]at hg;have key:∀i,i<len->∃y:α,w.cells? 0 (a'.add (i*sz)) sz=some (f y)/\Q y:=λi hi=>by
  have e:=hg i hi;rw[List.getElem?_eq_getElem O,Option.bind_eq_some_iff]at e;obtain⟨cs,hcs,htr⟩:=e;obtain⟨y,rfl,hq⟩:=hel _ _ _ htr;exact⟨y,hcs,hq⟩
 have hm:len<=9223372036854775807:=by have:=h2;unfold maxLen at this;omega
 have build:∀m,m<=len->∃l:List α,l.length=m/\(∀i x,l[i]?=some x->w.cells? 0 (a'.add (i*sz)) sz=some (f x))/\∀y∈l,Q y:=by
  intro m
  induction m with
  |zero=>exact λ_=>⟨[],rfl,λi x e=>by simp at e,λy hy=>by cases hy⟩
  |succ m ih =>
   intro hm';obtain⟨l,hl,hx,hQ⟩:=ih O;obtain⟨y,hy,hq⟩:=key m O;refine⟨l++[y],by simp[hl],λi x e=>?_,λz hz=>by rcases List.mem_append.1 hz with hz | hz;exact hQ z hz;rw[List.mem_singleton.1 hz];exact hq⟩;rcases ek i m with g | g
   ·rw[List.getElem?_append_left O]at e;exact hx i x e
   have:i=m:=by
    have:=(List.getElem?_eq_some_iff.1 e).1;simp at this;omega
   subst this;rw[List.getElem?_append_right O,hl,eN]at e;simp only[List.getElem?_cons_zero,Option.some.injEq]at e;rw[<-e];exact hy
 obtain⟨l,hl,hx,hQ⟩:=build len (aa _);refine⟨some a',len,cap,l,rfl,⟨?_,λhn=>?_⟩,hl,hm,hQ,h1⟩
 ·rw[List.length_flatMap];have:∀l:List α,(l.map λx=>(f x).length).sum=l.length*sz:=λl=>by
   induction l with
   |nil=>simp
   |cons x l ih=>rw[bT,List.sum_cons,ih,hf,aw,aM];omega
  rw[this,hl]
 have c0:=hx 0 (l[0]' O) (List.getElem?_eq_getElem _);have g0:=(vT c0).2 0 h0;have hs:(f (l[0]' O))[0]?=some ((f (l[0]' O))[0]'(by rw[hf];exact h0)):=List.getElem?_eq_getElem _;rw[hs,bK]at g0;have ea:(a'.add 0).add 0=a':=rfl;rw[ea]at g0;obtain⟨b',off,spot⟩:=a';unfold World.cell? at g0;split at g0
 ·rename_i c T fr hheap;split at g0
  ·cases g0
  rename_i hsp;have:spot=none:=by cases spot with
   |none=>rfl
   |some s=>simp at hsp
  subst this;refine⟨b',off,c,T,rfl,by unfold WB;rw[hheap],λj u hu=>?_⟩;have:=yQ (off:=off) (c:=c) hf l 0 (λi x e j hj=>?_) j u hu
  ·rwa [bK,aZ]at this
  have:=(vT (hx i x e)).2 j hj;rw[QAT,QAT]at this;unfold World.cell? at this;rw[hheap]at this;simpa using this
 cases g0
end
end
section
open Go.RowKit Go.ChangeShapes Go.WideShapes Ig
section
variable{H:Type}{enc:TypeId×Value->H}{w:World}
set_option maxRecDepth 100000 in
theorem QAy(n:Nat)(cs:List Value)(x:DataW H×List MemPlace)(h:aT enc prog w 0 (λ_=>true) true n 41 cs=some x):∃y:List UInt8×List UInt8,cs=D0 y:=by
 obtain⟨d,f,m,_,c,h0,h1⟩:=trod_struct2 underlying41 h;have c2:prog.cellsOf 41=2:=wi;have c1:prog.cellsOf 27=1:=wi;rw[c2]at c
 match cs,c with
 |[a,b],_ =>
  dsimp only at h0 h1;rw[c1]at h0 h1;obtain⟨lo,rfl⟩:=QAw uZ (v:=a) h0;obtain⟨hi,rfl⟩:=QAw uZ (v:=b) h1;exact⟨(lo,hi),rfl⟩
end
end
open Go.RowKit Ig
def QKe(x y:Rat):Rat:=if Ky x y<=0 then x else y
def QKg(x y:Rat):Rat:=if Ky x y>=0 then x else y
def UH(a b:Rat×Rat):Rat×Rat:=(QKe (QKe (a.1*b.1) (a.1*b.2)) (QKe (a.2*b.1) (a.2*b.2)),QKg (QKg (a.1*b.1) (a.1*b.2)) (QKg (a.2*b.1) (a.2*b.2)))
section
open Go.RowKit Go.ChangeShapes Go.WideShapes Ig
section
variable{H:Type}{enc:TypeId×Value->H}{w:World}
theorem QEL(n:Nat)(cs:List Value)(x:DataW H×List MemPlace)(h:aT enc prog w 0 (λ_=>true) true n 3 cs=some x):∃y:Int,cs=[JJ y]/\True:=by
 obtain⟨z,rfl,_⟩:=DataW.trod_int QI7 h;exact⟨z,rfl,trivial⟩
def QEN(l:List Int):(l.flatMap λy=>[JJ y])=l.map JJ:=by
 induction l with
 |nil=>rfl
 |cons a l ih=>rw[aH,ih];rfl
def QIZ(l:List (List UInt8)):(l.flatMap λy=>[tx y])=l.map tx:=by
 induction l with
 |nil=>rfl
 |cons a l ih=>rw[aH,ih];rfl
end
end
section
open Go.RowKit Go.ChangeShapes Go.WideShapes Ig
def QI1(t:Ng):Prop:=t.f.length<=9223372036854775807/\t.k.length<=9223372036854775807
section
variable{H:Type}{enc:TypeId×Value->H}{w:World}
theorem QHl{t:TypeId}{v:Value}{x:DataW H×List MemPlace}(ht:prog.underlying t=some .string)(h:aT enc prog w 0 (λ_=>true) true n t [v]=some x):∃l,v=tx l/\l.length<=9223372036854775807:=by
 obtain⟨s,e,_,a⟩:=e9 ht h;obtain⟨rfl⟩:=bN e;exact⟨s.data.toList,by simp[tx],by unfold maxLen at a;simpa using a⟩
set_option maxRecDepth 100000 in
theorem ue(n:Nat)(cs:List Value)(x:DataW H×List MemPlace)(h:aT enc prog w 0 (λ_=>true) true n 110 cs=some x):∃y:Ng,cs=EX y/\JG (WB w) y.r y.k/\QI1 y:=by
 obtain⟨i,z,m,_,d,h0,h1⟩:=trod_struct2 underlying110 h;have c2:prog.cellsOf 110=2:=wi;have c1:prog.cellsOf 27=1:=wi;have o:prog.cellsOf 100=1:=wi;rw[c2]at d
 match cs,d with
 |[a,b],_ =>
  dsimp only at h0 h1;rw[c1]at h0;rw[o]at h1;obtain⟨f,rfl,j⟩:=QHl uZ (v:=a) h0;obtain⟨q,n,cap,l,e,g,c,hb,_,hc⟩:=Rn (cs:=[b]) (f:=λy=>[JJ y]) (Q:=λ_=>True) underlying100 (show prog.cellsOf 3=1 by kernel_rfl) wj (λ_=>rfl) QEL h1;obtain⟨rfl⟩:=(List.cons.injEq _ _ _ _ ▸ e:_/\_).1;rw[QEN]at g;exact⟨⟨f,⟨q,n,cap⟩,l⟩,rfl,⟨g,c,hc⟩,j,by rw[c];exact hb⟩
end
end
def gA(s:List UInt8×List UInt8):Bool:=!(decide ((s.1.length:Int)>40)||decide ((s.2.length:Int)>40))
structure ke(y:YA):Prop where
 nn:y.nm.n<=9223372036854775807
 nc:y.nm.n<=y.nm.cap
 nt:∀s∈y.nl,s.length<=9223372036854775807
 rn:y.rt.n<=9223372036854775807
 sn:y.st.n<=9223372036854775807
 rl:∀e∈y.rl,e.2.length=e.1.n/\e.1.n<=9223372036854775807/\∀t∈e.2,t.k.length=t.r.n
def shT(t:Ng):Bool:=!(decide ((t.r.n:Int)>30)||decide ((t.f.length:Int)>30))
def shP(e:UM):Bool:=!(decide ((e.1.n:Int)>70))&&e.2.all shT
def shN(y:YA):Bool:=decide ((y.nm.n:Int)>30)||decide ((y.rt.n:Int)>30)||decide ((y.st.n:Int)>30)
def shS(y:YA):Bool:=!(shN y)&&(y.rl.all shP&&y.sl.all gA)
structure QMy(y:YA):Prop where
 n:y.nm.n<=30/\y.rt.n<=30/\y.st.n<=30
 r:∀e∈y.rl,e.1.n<=70/\∀t∈e.2,t.r.n<=30/\t.f.length<=30
 s:∀s∈y.sl,s.1.length<=40/\s.2.length<=40
def QJt(h:gA s=true):s.1.length<=40/\s.2.length<=40:=by
 unfold gA at h;simp at h;omega
theorem QLf(h:shS y=true):QMy y:=by
 unfold shS at h;simp only[ai,aR]at h;obtain⟨h1,h2,h3⟩:=h;refine⟨?_,λe he=>?_,λs a=>QJt (h3 s a)⟩
 ·unfold shN at h1;simp at h1;omega
 have:=h2 e he;unfold shP at this;simp only[ai,aR]at this;refine⟨by have:=this.1;simp at this;omega,λt ht=>?_⟩;have h4:=this.2 t ht;unfold shT at h4;simp at h4;omega
theorem ke.t(h:ke y)(k:QMy y):Sg y :=
 ⟨wg k.n,h.nc,h.nt,wg k.n,λe he=>⟨(h.rl e he).1,λt ht=>⟨wg<|(k.r e he).2 t ht,by rw[(h.rl e he).2.2 t ht];have:=(k.r e he).2 t ht;omega⟩,by rw[(h.rl e he).1];have:=(k.r e he).1;omega⟩,wg k.n,λs a=>wg<|k.s s a⟩
def ke.ts(h:ke y)(k:shS y=true):Sg y:=h.t (QLf k)
def C1(y:YA)(v g:Int):Bool:=!(!(shS y)||(y.e != 0)||decide ((y.rt.n:Int)>v)||(!(decide ((y.st.n:Int)<=v)&&y.sl.all (Mx g))&&decide ((y.st.n:Int)>0)))
def qx(y:YA)(v d g:Int):Bool:=C1 y v g&&y.rl.all λe=>pJ (VJ e.2) (y.rt.n:Int) 4 d g
def pN{v g:Int}(h:C1 y v g=true):shS y=true/\y.e=0/\(y.rt.n:Int)<=v/\(y.st.n=0\/((y.st.n:Int)<=v/\∀s∈y.sl,Mx g s=true)):=by
 unfold C1 at h;simp only[aB,bj,aV,bne_eq_false_iff_eq,decide_eq_false_iff_not]at h;obtain⟨⟨⟨h1,h2⟩,h3⟩,h4⟩:=h;refine⟨by simpa using h1,h2,O,?_⟩;by_cases g:y.st.n=0
 ·exact .inl g
 right;have:decide ((y.st.n:Int)>0)=true:=decide_eq_true O;rw[this,Bool.and_true]at h4;simp only[aV,ai,decide_eq_true_eq,aR]at h4;exact h4
def vp{nl:List (List UInt8)}{rl:List Pt}{sl:List (List UInt8×List UInt8)}(h1:nl.length≠0)(h2:¬nl.length>24)(h3:rl.length=nl.length/\sl.length=nl.length):DB nl rl sl=Qn [Bf nl,Qn (rl.map λp=>ZY p nl.length),Qn (sl.map λs=>XF s.1 s.2)]:=by
 unfold DB;rw[if_neg h1,if_neg h2,if_neg O]
theorem QJ0{q:Option Addr}{l:List (List UInt8)}{v:List UInt8}(x:Fits F w)(o:Qz F q n 1 (l.map tx))(y:l.length=n)(hb:n<=1000000000):QX prog 116 [.slice q n c,tx v] w F (.bool (decide (v∈l))):=by
 refine QU.go (G:=λF=>Qz F q n 1 (l.map tx)) func116 x o ?_;refine wA 12 I<|J2 (ι:=NoI l v) [(0,_),(1,_)] (λi=>[(5,.int .i64 ((i.i:Nat):Int))]) (λi=>l.length-i.i) (⟨0,aq _,λj h=>absurd h (eD _)⟩) wT wS λi=>?_
 have hi:=i.le;refine wA 5 I<|QA (Qb I Kt)<|QOm 3 I ?_
 refine QP I (λa=>?_) λa=>?_
 ·have d:i.i<l.length:=wg<|QOW a
  have k:=Qy d;refine QOn 8 I<|QA (Qs (n:=n) i.i w6 rfl rfl Kt Em O)<|QA (Qu (n:=n) ((i.i)*1) w6 O rfl Em (X0 (f:=tx) (l:=l) O))<|QMu I<|QA (Yw I I)<|QE<|QD ?_
  refine QP I (λa=>?_) λa=>?_
  ·have b:el l i.i=v:=eq_of_beq a;refine wA 5 I<|X4 ?_
   exact QO2 I I (congrArg af (decide_eq_true (by rw[<-b];exact k))) wy
  have b:¬el l i.i=v:=by simpa using a
  refine QN<|Qf<|QOo 3 I<|QA (Qk I I O)<|wB 2 I ?_
  exact Qh (⟨i.i+1,d,λj m=>by rcases Nat.lt_succ_iff_lt_or_eq.1 m with h | rfl;exact i.h j h;exact b⟩) (by show l.length-(i.i+1)<l.length-i.i;omega) wU QNG w6
 have g:l.length<=i.i:=wg<|QOX a
 refine Q7 ?_;refine wA 6 I ?_;exact QO2 I I (congrArg af (decide_eq_false (i.stop g))) wy
theorem QJ3{q:Option Addr}{l:List (List UInt8)}{v:List UInt8}(d:Fits F w)(b:Qz F q n 1 (l.map tx))(a:l.length=n)(hb:n<=1000000000):QX prog 54 [.slice q n c,tx v] w F (.bool (decide (v∈l))):=by
 refine QU.go (G:=λF=>Qz F q n 1 (l.map tx)) func54 d b ?_;refine wA 9 I<|QL I (λ_ _ f k=>QJ0 f k a hb) λ_=>wQ I<|QW ?_
 exact QO2 I I (rfl) wy
theorem QJx(hF:Fits F w)(hGl:JU F)(hy:KM F y)(ht:Sg y):QX prog 19 [y.v] w F (.int .i64 y.e):=by
 obtain⟨⟨qn,o,cn⟩,nl,⟨qr,nr,cr⟩,rl,⟨qs,ns,cs⟩,sl⟩:=y;have U:=hy.kq;have hrl:=hy.EC;have hsl:=hy.Sq;have hnn:=ht.nn;have hrn:=ht.rn;have hsn:=ht.sn;dsimp only at *
 dsimp only[YA.v];refine QU.go (G:=λF=>JU F/\KM F ⟨⟨qn,o,cn⟩,nl,⟨qr,nr,cr⟩,rl,⟨qs,ns,cs⟩,sl⟩) func19 hF ⟨hGl,hy⟩ ?_;refine QNz<|Qv I (vs:=[_,_,_]) I λb1=>QOm 5 I<|QA (QH I G6 Ks)<|QA (Qa I Ks .here .h1)<|QA (Qb I Kt)<|QOm 10 I ?_
 refine QP I (λa=>?_) λa=>?_
 ·have h11:nl.length=0:=by have:(o:Int)=0:=eq_of_beq a;omega
  refine wA 6 I ?_;exact QO2 I I (congrArg (bH .i64) (by show DB nl (rl.map λe=>VJ e.2) sl=12;unfold DB;rw[if_pos h11])) wy
 have h11:nl.length≠0:=by have:¬(o:Int)=0:=(by simpa using a);omega
 refine QOn 9 I ?_;refine QP I (λa=>?_) λa=>?_
 ·have m:nl.length>24:=wg<|QOW a
  refine wA 6 I ?_;exact QO2 I I (congrArg (bH .i64) (by show DB nl (rl.map λe=>VJ e.2) sl=5;unfold DB;rw[if_neg h11,if_pos m])) wy
 have m:¬nl.length>24:=wg<|QOX a
 refine QOn 3 I ?_;refine Xl [(1,_),(3,_)] [(25,.bool (((nr:Int) != o||(ns:Int) != o)))] wT ?_ ?_
 ·refine QB<|QA (QH I WO YQ)<|QA (Qa I YQ .here (.skip .h1))<|QA (Qb I WY)<|wB 3 I ?_
  refine QY (t:=19) rfl (λH=>?_) λH=>?_
  ·refine wB 7 I ?_;exact Q4 ⟨rfl,rfl,(congrArg (λb=>some (af b)) (by rw[H];rfl)),trivial⟩ QNG w6
  refine QJ I I<|QA (QH I Vv ZF)<|QJ I I<|QA (Qa I ZF .here (.skip (.skip .h1)))<|QJ I I<|QA (Qb I ZG)<|wB 6 I ?_
  exact Q4 ⟨rfl,rfl,(congrArg (λb=>some (af b)) (by rw[H];rfl)),trivial⟩ QNG w6
 refine QP I (λa=>?_) λa=>?_
 ·have j:(rl.map λe=>VJ e.2).length≠nl.length\/sl.length≠nl.length:=by simp only[Bool.or_eq_true,bne_iff_ne]at a;rw[ak];omega
  refine wA 6 I ?_;exact QO2 I I (congrArg (bH .i64) (by show DB nl (rl.map λe=>VJ e.2) sl=2;unfold DB;rw[if_neg h11,if_neg m,if_pos j])) wy
 have j:(rl.map λe=>VJ e.2).length=nl.length/\sl.length=nl.length:=by simp only[bj,bne_eq_false_iff_eq]at a;rw[ak];omega
 have h25r:rl.length=nl.length:=by rw[<-j.1,ak]
 refine QOn 9 I<|J2 (ι:=X3 (bB nl.length) (DW nl)) [(1,_),(3,_)] (λi=>[(4,.int .i64 ((i.i:Nat):Int))]) (λi=>nl.length-i.i) (X3.start _ _) wT wS λi=>?_
 have hi:=i.le;rw[aX]at hi;refine wA 8 I ?_;refine QP I (λa=>?_) λa=>?_
 ·have c:i.i<nl.length:=wg<|QOW a
  have g:=Qy c;refine QOn 7 I<|QA (QH I G6 Ks)<|QA (Qa I Ks .here .h1)<|QMu I<|QA (Qs (n:=o) i.i (λF h9=>h9.2.nm) rfl rfl Kt Em O)<|QA (Qu (n:=o) ((i.i)*1) (λF h9=>h9.2.nm) O rfl Em (X0 (f:=tx) (l:=nl) O))<|QL I (λ_ _ f k=>u9 f (ht.nt _ g)) λ_=>QA (Jw I)<|QE<|QD ?_
  refine QP I (λa=>?_) λa=>?_
  ·have x:(!ko (el nl i.i))=true:=a;have z:DW nl i.i≠0:=by unfold DW;rw[if_pos x,KH wj];decide
   refine wA 5 I<|X4 ?_
   exact QO2 I I (congrArg (bH .i64) (by show DB nl (rl.map λe=>VJ e.2) sl=8;rw[vp h11 m j];have h9:=i.hit (by rw[aX];exact c) (by rw[Kw c];exact z);rw[Kw c]at h9;rw[show Bf nl=DW nl i.i from h9,KH z];unfold DW;rw[if_pos x,KH wj])) wy
  have x:(!ko (el nl i.i))=false:=a;refine QOn 3 I<|JO QNG mixed wi<|QK (QH I G6 Ks)<|QK (Qa I Ks .here .h1)<|QK (QC I)<|QK (MQ i.i I I I Kt Em (by have:=ht.nc;dsimp only at this;omega))<|QK (QH I G6 Ks)<|QK (Qa I Ks .here .h1)<|QK (QC I)<|QK (Qs (n:=o) i.i (λF h9=>h9.1.2.nm) rfl rfl Kt Em O)<|QK (Qu (n:=o) ((i.i)*1) (λF h9=>h9.1.2.nm) O rfl Em (X0 (f:=tx) (l:=nl) O))<|QZ I (λ_ _ f k=>QJ3 f (Qz.QCl (l:=nl) k.1.2.nm U hi) (by rw[er];omega) O) λ_=>Qw<|QD ?_
  refine QP I (λa=>?_) λa=>?_
  ·have L:decide (el nl i.i∈nl.take i.i)=true:=a;have z:DW nl i.i≠0:=by unfold DW;rw[if_neg (by rw[x];decide),if_pos L,KI,KH wj];decide
   refine wA 5 I<|X4 ?_
   exact QO2 I I (congrArg (bH .i64) (by show DB nl (rl.map λe=>VJ e.2) sl=9;rw[vp h11 m j];have h9:=i.hit (by rw[aX];exact c) (by rw[Kw c];exact z);rw[Kw c]at h9;rw[show Bf nl=DW nl i.i from h9,KH z];unfold DW;rw[if_neg (by rw[x];decide),if_pos L,KI,KH wj])) wy
  have L:decide (el nl i.i∈nl.take i.i)=false:=a;refine QN<|Qf<|QOo 3 I<|QA (Qk I I O)<|wB 2 I ?_
  exact Qh (i.next (by rw[aX];exact c) (by rw[Kw c];unfold DW;rw[if_neg (by rw[x];decide),if_neg (by rw[L];decide)];rfl)) (by show nl.length-(i.i+1)<nl.length-i.i;omega) wU QNG λF h=>h.1.1
 have hge:nl.length<=i.i:=wg<|QOX a
 have X:Bf nl=0:=i.stop (by rw[aX];exact hge);refine Q7 ?_;refine wA 7 I<|J2 (ι:=X3 rl λe=>ZY (VJ e.2) (o:Int)) [(1,_),(3,_)] (λd=>[(5,.int .i64 ((d.i:Nat):Int))]) (λd=>rl.length-d.i) (X3.start _ _) wT wS λd=>?_
 have hi2:=d.le;refine wA 8 I ?_;refine QP I (λa=>?_) λa=>?_
 ·have E:d.i<rl.length:=wg<|QOW a
  have g:=Qy E;refine QOn 6 I<|QA (QH I WO YQ)<|QA (Qa I YQ .here (.skip .h1))<|QMu I<|QA (Qs (n:=nr) (d.i) (λF h9=>h9.2.rt) rfl rfl WY GI O)<|QA (Qu (n:=nr) ((d.i)*1) (λF h9=>h9.2.rt) O rfl GI (X0 (f:=λe:UM=>e.1.v) (l:=rl) O))<|QMu I<|QL I (λ_ _ f k=>Ej (q:=(el rl d.i).1.q) (n:=(el rl d.i).1.n) (cap:=(el rl d.i).1.cap) f k.1 (k.2.pl _ g).1 (k.2.pl _ g).2 (ht.tm _ g).1 (λt htt=>wg<|(ht.tm _ g).2.1 t htt) (wg<|(ht.tm _ g).2.2) O) λ_=>QOm 9 I ?_
  refine QP I (λa=>?_) λa=>?_
  ·have K:=bne_iff_ne.1 a;refine wA 6 I<|X4 ?_
   exact QO2 I I (congrArg (bH .i64) (by show DB nl (rl.map λe=>VJ e.2) sl=_;rw[vp h11 m j,X,KI,bz,U];have h9:=d.hit E K;rw[show Qn (rl.map ((λp=>ZY p (o:Int))∘λe=>VJ e.2))=ZY (VJ (el rl d.i).2) (o:Int)from h9,KH K])) wy
  have K:=bne_eq_false_iff_eq.1 a;refine QN<|Qf<|QOo 3 I<|QA (Qk I I O)<|wB 2 I ?_
  exact Qh (d.next E K) (by show rl.length-(d.i+1)<rl.length-d.i;omega) wU QNG w7
 have Y:rl.length<=d.i:=wg<|QOX a
 refine Q7 ?_;refine QNz<|QA (QH I Vv ZF)<|QA (Qa I ZF .here (.skip (.skip .h1)))<|QL I (λ_ _ f k=>Us f k.2.st ⟨hsl,ht.st⟩ hsn) λ_=>wQ I<|QW ?_
 exact QO2 I I (congrArg (bH .i64) (by show DB nl (rl.map λe=>VJ e.2) sl=_;rw[vp h11 m j,X,KI,bz,U];have h9:=d.stop Y;rw[show Qn (rl.map ((λp=>ZY p (o:Int))∘λe=>VJ e.2))=0 from h9,KI,yR])) wy
theorem QFH(hF:Fits F w)(hy:KM F y)(ht:ke y):QX prog 18 [y.v] w F (.bool (shS y)):=by
 have hnl:=hy.kq;have hrl:=hy.EC;have hsl:=hy.Sq;have hnn:=ht.nn;have hrn:=ht.rn;have hsn:=ht.sn;refine QU.go (G:=λF=>KM F y) func18 hF hy ?_;refine QNz<|Qv I (vs:=[_,_,_]) I λb1=>wQ I<|QG ?_
 refine Xl [(1,_)] [(21,.bool (shN y))] wS ?_ ?_
 ·refine QB<|QA (QH I G6 Ks)<|QA (Qa I Ks .here .h1)<|QA (Qb I Kt)<|wB 2 I ?_
  refine QY (t:=10) rfl (λg=>?_) λg=>?_
  ·refine wB 12 I ?_;exact Q4 ⟨rfl,(congrArg (λb=>some (af b)) (by unfold shN;rw[g];rfl)),trivial⟩ QNG w6
  refine QJ I I<|QA (QH I WO YQ)<|QJ I I<|QA (Qa I YQ .here (.skip .h1))<|QJ I I<|QA (Qb I WY)<|wB 4 I ?_
  refine QY (t:=16) rfl (λo=>?_) λo=>?_
  ·refine wB 6 I ?_;exact Q4 ⟨rfl,(congrArg (λb=>some (af b)) (by unfold shN;rw[g,o];rfl)),trivial⟩ QNG w6
  refine QJ I I<|QA (QH I Vv ZF)<|QJ I I<|QA (Qa I ZF .here (.skip (.skip .h1)))<|QJ I I<|QA (Qb I ZG)<|wB 4 I ?_
  exact Q4 ⟨rfl,(congrArg (λb=>some (af b)) (by unfold shN;rw[g,o];rfl)),trivial⟩ QNG w6
 refine QP I (λa=>?_) λa=>?_
 ·have j:shN y=true:=a;refine wA 6 I ?_;exact QO2 I I (congrArg af (by unfold shS;rw[j];rfl)) wy
 have j:shN y=false:=a;refine QOn 9 I<|J2 (ι:=Wq y.rl shP) [(1,_)] (λi=>[(3,.int .i64 ((i.i:Nat):Int))]) (λi=>y.rl.length-i.i) (Wq.start _ _) wS wS λi=>?_
 have hi:=i.le;refine wA 4 I<|QA (QH I WO YQ)<|QA (Qa I YQ .here (.skip .h1))<|QA (Qb I WY)<|QOm 3 I ?_
 refine QP I (λa=>?_) λa=>?_
 ·have x:i.i<y.rl.length:=wg<|QOW a
  have h:=Qy x;have hpl:=(ht.rl _ h).1;have hpn:=(ht.rl _ h).2.1;refine QOn 7 I<|QA (QH I WO YQ)<|QA (Qa I YQ .here (.skip .h1))<|QMu I<|QA (Qs (n:=y.rt.n) i.i (λF hy=>hy.rt) rfl rfl WY GI O)<|QA (Qu (n:=y.rt.n) ((i.i)*1) (λF hy=>hy.rt) O rfl GI (X0 (f:=λe:UM=>e.1.v) (l:=y.rl) O))<|QA (Qb I Y1)<|QOm 3 I ?_
  refine QP I (λa=>?_) λa=>?_
  ·have L:((el y.rl i.i).1.n:Int)>70:=QOW a;refine wA 5 I<|X4 ?_
   exact QO2 I I (congrArg af (by unfold shS;rw[j,i.hit x (by unfold shP;rw[decide_eq_true L];rfl)];rfl)) wy
  have L:¬((el y.rl i.i).1.n:Int)>70:=QOX a;refine QOn 8 I<|J2 (ι:=Wq (el y.rl i.i).2 shT) [(1,_),(3,_)] (λd=>[(4,.int .i64 ((d.i:Nat):Int))]) (λd=>(el y.rl i.i).2.length-d.i) (Wq.start _ _) wT wS λd=>?_
  have hi2:=d.le;refine wA 4 I<|QA (QH I WO YQ)<|QA (Qa I YQ .here (.skip .h1))<|QMu I<|QA (Qs (n:=y.rt.n) i.i (λF hy=>hy.rt) rfl rfl WY GI O)<|QA (Qu (n:=y.rt.n) ((i.i)*1) (λF hy=>hy.rt) O rfl GI (X0 (f:=λe:UM=>e.1.v) (l:=y.rl) O))<|QA (Qb I Y1)<|QOm 3 I ?_
  refine QP I (λa=>?_) λa=>?_
  ·have E:d.i<(el y.rl i.i).2.length:=wg<|QOW a
   refine QOn 4 I ?_;refine Xl [(1,_),(3,_),(4,_)] [(69,.bool (!(shT (el (el y.rl i.i).2 d.i))))] wU ?_ ?_
   ·refine QB<|QA (QH I WO YQ)<|QA (Qa I YQ .here (.skip .h1))<|QMu I<|QA (Qs (n:=y.rt.n) i.i (λF hy=>hy.rt) rfl rfl WY GI O)<|QA (Qu (n:=y.rt.n) ((i.i)*1) (λF hy=>hy.rt) O rfl GI (X0 (f:=λe:UM=>e.1.v) (l:=y.rl) O))<|QMu I<|QA (Qs (n:=(el y.rl i.i).1.n) (d.i) (λF hy=>(hy.pl _ h).1) rfl rfl Y1 Z3 O)<|QA (QH I Z7 Qx)<|QA (Qu (n:=(el y.rl i.i).1.n) ((d.i)*2+1) (λF hy=>(hy.pl _ h).1) O rfl Qx (JX (f:=EX) (l:=(el y.rl i.i).2) KJ O rfl))<|QA (Qb I Qd)<|wB 2 I ?_
    refine QY (t:=57) rfl (λm=>?_) λm=>?_
    ·refine wB 13 I ?_;exact Q4 ⟨rfl,rfl,rfl,(congrArg (λb=>some (af b)) (by unfold shT;rw[aG,m];rfl)),trivial⟩ QNG w6
    refine QJ I I<|QA (QH I WO YQ)<|QJ I I<|QA (Qa I YQ .here (.skip .h1))<|wB 3 I<|QA (Qs (n:=y.rt.n) i.i (λF hy=>hy.rt) rfl rfl WY GI O)<|QJ I I<|QA (Qu (n:=y.rt.n) ((i.i)*1) (λF hy=>hy.rt) O rfl GI (X0 (f:=λe:UM=>e.1.v) (l:=y.rl) O))<|wB 3 I<|QA (Qs (n:=(el y.rl i.i).1.n) (d.i) (λF hy=>(hy.pl _ h).1) rfl rfl Y1 Z3 O)<|QJ I I<|QA (QH I Ga JQ)<|QJ I I<|QA (Qu (n:=(el y.rl i.i).1.n) ((d.i)*2+0) (λF hy=>(hy.pl _ h).1) O rfl JQ (JX (f:=EX) (l:=(el y.rl i.i).2) KJ O rfl))<|QJ I I<|QA (Je I VI)<|wB 4 I ?_
    exact Q4 ⟨rfl,rfl,rfl,(congrArg (λb=>some (af b)) (by unfold shT;rw[aG,m];rfl)),trivial⟩ QNG w6
   refine QP I (λa=>?_) λa=>?_
   ·have K:shT (el (el y.rl i.i).2 d.i)=false:=by simpa using a
    refine wA 5 I<|X4 ?_
    exact QO2 I I (congrArg af (by unfold shS;rw[j,i.hit x (by unfold shP;rw[d.hit E K,Bool.and_false])];rfl)) wy
   have K:shT (el (el y.rl i.i).2 d.i)=true:=by simpa using a
   refine QN<|Qf<|QOo 3 I<|QA (Qk I I O)<|wB 2 I ?_
   exact Qh (d.next E K) (by show(el y.rl i.i).2.length-(d.i+1)<(el y.rl i.i).2.length-d.i;omega) wU QNG w6
  have Y:(el y.rl i.i).2.length<=d.i:=wg<|QOX a
  refine Q7 ?_;refine wA 2 I<|QA (Qk I I O)<|wB 2 I ?_
  exact Qh (i.next x (by unfold shP;rw[decide_eq_false L,d.stop Y];rfl)) (by show y.rl.length-(i.i+1)<y.rl.length-i.i;omega) wT QNG w6
 have hge:y.rl.length<=i.i:=wg<|QOX a
 have U:=i.stop hge;refine Q7 ?_;refine wA 7 I<|J2 (ι:=Wq y.sl gA) [(1,_)] (λc=>[(5,.int .i64 ((c.i:Nat):Int))]) (λc=>y.sl.length-c.i) (Wq.start _ _) wS wS λc=>?_
 have hi3:=c.le;refine wA 4 I<|QA (QH I Vv ZF)<|QA (Qa I ZF .here (.skip (.skip .h1)))<|QA (Qb I ZG)<|QOm 3 I ?_
 refine QP I (λa=>?_) λa=>?_
 ·have z:c.i<y.sl.length:=wg<|QOW a
  refine QOn 4 I ?_;refine Xl [(1,_),(5,_)] [(94,.bool (!(gA (el y.sl c.i))))] wT ?_ ?_
  ·refine QB<|QA (QH I Vv ZF)<|QA (Qa I ZF .here (.skip (.skip .h1)))<|QMu I<|QA (Qs (n:=y.st.n) (c.i) (λF hy=>hy.st) rfl rfl ZG Xb O)<|QA (QH I Vu JQ)<|QA (Qu (n:=y.st.n) ((c.i)*2+0) (λF hy=>hy.st) O rfl JQ (JX (f:=D0) (l:=y.sl) Yy O rfl))<|QA (Je I VI)<|wB 2 I ?_
   refine QY (t:=85) rfl (λk=>?_) λk=>?_
   ·refine wB 10 I ?_;exact Q4 ⟨rfl,rfl,(congrArg (λb=>some (af b)) (by unfold gA;rw[aG,k];rfl)),trivial⟩ QNG w6
   refine QJ I I<|QA (QH I Vv ZF)<|QJ I I<|QA (Qa I ZF .here (.skip (.skip .h1)))<|wB 3 I<|QA (Qs (n:=y.st.n) (c.i) (λF hy=>hy.st) rfl rfl ZG Xb O)<|QJ I I<|QA (QH I WM JQ)<|QJ I I<|QA (Qu (n:=y.st.n) ((c.i)*2+1) (λF hy=>hy.st) O rfl JQ (JX (f:=D0) (l:=y.sl) Yy O rfl))<|QJ I I<|QA (Je I VI)<|wB 4 I ?_
   exact Q4 ⟨rfl,rfl,(congrArg (λb=>some (af b)) (by unfold gA;rw[aG,k];rfl)),trivial⟩ QNG w6
  refine QP I (λa=>?_) λa=>?_
  ·have H:gA (el y.sl c.i)=false:=by simpa using a
   refine wA 5 I<|X4 ?_
   exact QO2 I I (congrArg af (by unfold shS;rw[j,U,c.hit z H];rfl)) wy
  have H:gA (el y.sl c.i)=true:=by simpa using a
  refine QN<|Qf<|QOo 3 I<|QA (Qk I I O)<|wB 2 I ?_
  exact Qh (c.next z H) (by show y.sl.length-(c.i+1)<y.sl.length-c.i;omega) wT QNG w6
 have X:y.sl.length<=c.i:=wg<|QOX a
 refine Q7 ?_;refine wA 6 I ?_;exact QO2 I I (congrArg af (by unfold shS;rw[j,U,c.stop X];rfl)) wy
theorem QHt{v d g:Int}(hF:Fits F w)(hGl:JU F)(hy:KM F y)(U:ke y)(hg:0<=g/\g<=1000):QX prog 4 [y.v,.int .i64 v,.int .i64 d,.int .i64 g] w F (.bool (qx y v d g)):=by
 have hnl:=hy.kq;have hrl:=hy.EC;have L:=hy.Sq;refine QU.go (G:=λF=>JU F/\KM F y) func4 hF ⟨hGl,hy⟩ ?_;refine QNz<|Qv I (vs:=[_,_,_]) I λb4=>wQ I<|QG ?_
 refine Xl [(2,_),(3,_),(4,_)] [(38,.bool (!(C1 y v g)))] wU ?_ ?_
 ·refine QB<|QA (wI I H5 .here)<|QL I (λ_ _ f k=>QFH (y:=y) f k.2 U) λ_=>QA (Jw I)<|QMu I ?_
  refine QY (t:=13) rfl (λc=>?_) λc=>?_
  ·refine wB 19 I<|JM I I<|JM I I<|JM I I<|JM I I<|wB 3 I ?_
   exact Q4 ⟨rfl,rfl,rfl,(congrArg (λb=>some (af b)) (by unfold C1;rw[aG,c];rfl)),trivial⟩ QNG w7
  have ht:Sg y:=U.ts (by simpa using c);refine QJ I I<|QA (wI I H5 .here)<|QJ I I<|QL I (λ_ _ f k=>QJx (y:=y) f k.1.1 k.1.2 ht) λ_=>wB 4 I ?_
  refine QY (t:=18) rfl (λj=>?_) λj=>?_
  ·refine wB 14 I<|JM I I<|JM I I<|JM I I<|JM I I<|wB 3 I ?_
   exact Q4 ⟨rfl,rfl,rfl,(congrArg (λb=>some (af b)) (by unfold C1;rw[aG,c,j];rfl)),trivial⟩ QNG λ_ h=>h.1.1
  refine QJ I I<|QA (QH I WO YQ)<|QJ I I<|QA (Qa I YQ .here (.skip .h1))<|QJ I I<|QA (Qb I WY)<|wB 6 I ?_
  refine QY (t:=25) rfl (λm=>?_) λm=>?_
  ·refine wB 7 I<|JM I I<|JM I I<|JM I I<|JM I I<|wB 3 I ?_
   exact Q4 ⟨rfl,rfl,rfl,(congrArg (λb=>some (af b)) (by unfold C1;rw[aG,c,j,m];rfl)),trivial⟩ QNG λ_ h=>h.1.1
  refine QJ I I<|QA (QH I Vv ZF)<|QJ I I<|QA (Qa I ZF .here (.skip (.skip .h1)))<|wB 5 I<|QL I (λ_ _ f k=>Lt f k.1.1.2.st L hg (wg ht.sn)) λ_=>QJ I I<|QA (Jw I)<|wB 2 I ?_
  refine QY (t:=32) rfl (λx=>?_) λx=>?_
  ·refine QJ I I<|QA (QH I Vv ZF)<|QJ I I<|QA (Qa I ZF .here (.skip (.skip .h1)))<|QJ I I<|QA (Qb I ZG)<|wB 6 I ?_
   exact Q4 ⟨rfl,rfl,rfl,(congrArg (λb=>some (af b)) (by unfold C1;rw[aG,c,j,m,x];rfl)),trivial⟩ QNG λ_ h=>h.1.1.1
  refine wB 8 I ?_;exact Q4 ⟨rfl,rfl,rfl,(congrArg (λb=>some (af b)) (by unfold C1;rw[aG,c,j,m,x];rfl)),trivial⟩ QNG λ_ h=>h.1.1.1
 refine QP I (λa=>?_) λa=>?_
 ·have z:C1 y v g=false:=by simpa using a
  refine wA 6 I ?_;exact QO2 I I (congrArg af (by unfold qx;rw[z];rfl)) wy
 have z:C1 y v g=true:=by simpa using a
 obtain⟨hS1,Y,hv1,hs1⟩:=pN z;have ht:Sg y:=U.ts hS1;have hrn:=ht.rn;have ho:=hy.ok Y;have hon:=ho.n1;have hor:=ho.rn;refine QOn 9 I<|J2 (ι:=Wq y.rl λe=>pJ (VJ e.2) (y.rt.n:Int) 4 d g) [(2,_),(3,_),(4,_)] (λi=>[(9,.int .i64 ((i.i:Nat):Int))]) (λi=>y.rl.length-i.i) (Wq.start _ _) wU wS λi=>?_
 have hi:=i.le;refine wA 4 I<|QA (QH I WO YQ)<|QA (Qa I YQ .here (.skip .h1))<|QA (Qb I WY)<|QOm 3 I ?_
 refine QP I (λa=>?_) λa=>?_
 ·have E:i.i<y.rl.length:=wg<|QOW a
  have o:=Qy E;refine QOn 5 I<|JO QNG mixed wi<|QK (QH I WO YQ)<|QK (Qa I YQ .here (.skip .h1))<|QK (QC I)<|QK (Qs (n:=y.rt.n) i.i (λF h9=>h9.2.rt) rfl rfl WY GI O)<|QK (Qu (n:=y.rt.n) ((i.i)*1) (λF h9=>h9.2.rt) O rfl GI (X0 (f:=λe:UM=>e.1.v) (l:=y.rl) O))<|QK (QH I WO YQ)<|QK (Qa I YQ .here (.skip .h1))<|QK (Qb I WY)<|QK (QC I)<|QK (QC I)<|QZ I (λ_ _ f k=>qi (q:=(el y.rl i.i).1.q) (n:=(el y.rl i.i).1.n) (cap:=(el y.rl i.i).1.cap) f k.1 (k.2.pl _ o).1 (k.2.pl _ o).2 (ht.tm _ o).1 (λt K=>wg<|(ht.tm _ o).2.1 t K) (wg<|(ht.tm _ o).2.2) O O) λ_=>QK (Jw I)<|Qw<|QD ?_
  refine QP I (λa=>?_) λa=>?_
  ·have H:pJ (VJ (el y.rl i.i).2) (y.rt.n:Int) 4 d g=false:=by simpa using a
   refine wA 5 I<|X4 ?_
   exact QO2 I I (congrArg af (by unfold qx;rw[z,i.hit E H];rfl)) wy
  have H:pJ (VJ (el y.rl i.i).2) (y.rt.n:Int) 4 d g=true:=by simpa using a
  refine QN<|Qf<|QOo 3 I<|QA (Qk I I O)<|wB 2 I ?_
  exact Qh (i.next E H) (by show y.rl.length-(i.i+1)<y.rl.length-i.i;omega) wV QNG w7
 have X:y.rl.length<=i.i:=wg<|QOX a
 refine Q7 ?_;refine wA 6 I ?_;exact QO2 I I (congrArg af (by unfold qx;rw[z,i.stop X];rfl)) wy
structure ATk where
 fr:List UInt8
 te:List UInt8
 bx:Sr
 bl:List (List UInt8×List UInt8)
 wh:Sr
 wl:List (List UInt8×List UInt8)
 o:Int
 b:Int
section
open Go.RowKit Go.ChangeShapes Go.WideShapes Ig
section
variable{H:Type}{enc:TypeId×Value->H}{w:World}
def QLS(n:Nat):Prop:=n<=9223372036854775807
set_option maxRecDepth 100000 in
theorem QGu{x:DataW H×List MemPlace}(h:aT enc prog w 0 (λ_=>true) true m 24 cs=some x):∃(r:Sr) (l:List (List UInt8×List UInt8)),cs=[.slice r.q r.n r.cap]/\qd (WB w) r l/\QLS r.n:=by
 obtain⟨q,n,cap,l,h1,h2,h3,h4,_,_⟩:=Rn (f:=D0) (Q:=λ_=>True) underlying24 (show prog.cellsOf 41=2 by kernel_rfl) wj (λ_=>rfl) (λn cs x h=>by obtain⟨y,hy⟩:=QAy n cs x h;exact⟨y,hy,trivial⟩) h;exact⟨⟨q,n,cap⟩,l,h1,⟨h2,h3⟩,h4⟩
theorem QAo(n:Nat)(cs:List Value)(x:DataW H×List MemPlace)(h:aT enc prog w 0 (λ_=>true) true n 9 cs=some x):∃y:List UInt8,cs=[tx y]/\y.length<=9223372036854775807:=by
 obtain⟨s,rfl,_,a⟩:=e9 underlying9 h;refine⟨s.data.toList,by simp[tx],?_⟩;unfold maxLen at a;have:s.data.toList.length=s.size:=wu;omega
set_option maxRecDepth 100000 in
theorem QBJ(m:Nat)(cs:List Value)(x:DataW H×List MemPlace)(h:aT enc prog w 0 (λ_=>true) true m 54 cs=some x):
  ∃a:UM,cs=[a.1.v]/\(Qz (WB w) a.1.q a.1.n 2 (a.2.flatMap EX)/\Wp (WB w) a.2)/\a.2.length=a.1.n/\QLS a.1.n/\∀t∈a.2,QI1 t:=by
 obtain⟨q,n,cap,l,h1,h2,h3,h4,h5,h6⟩:=Rn (cs:=cs) (f:=EX) (Q:=λy=>JG (WB w) y.r y.k/\QI1 y) underlying54 (show prog.cellsOf 110=2 by kernel_rfl) wj (λ_=>rfl) ue h;exact⟨(⟨q,n,cap⟩,l),h1,⟨h2,λt ht=>(h5 t ht).1⟩,h3,h4,λt ht=>(h5 t ht).2⟩
def QGR(l:List UM):(l.flatMap λa=>[a.1.v])=l.map λe=>e.1.v:=by
 induction l with
 |nil=>rfl
 |cons a l ih=>rw[aH,ih];rfl
set_option maxRecDepth 100000 in
theorem QFx{v:Value}{d:DataW H}{p:List MemPlace}(hv:eI prog w .any b 26 v)(h:e8 enc prog w 0 (λ_=>true) true 26 v d p):∃y:YA,v=y.v/\KM (WB w) y/\ke y:=by
 obtain⟨v0,v1,v2,i,L,K,n,rfl,_,_,h0,h1,h2⟩:=Joins.open_agg3 underlying26 wi wi hv h;obtain⟨o,n0,E,nl,e0,g,F,a3,a4,a5⟩:=Rn (cs:=[v0]) (f:=λy=>[tx y]) (Q:=λy=>y.length<=9223372036854775807) underlying22 (show prog.cellsOf 9=1 by kernel_rfl) wj (λ_=>rfl) QAo h0;obtain⟨m,n1,c1,rl,z,b1,b2,b3,b4,U⟩:=Rn (cs:=[v1]) (f:=λa:UM=>[a.1.v]) (Q:=λa=>(Qz (WB w) a.1.q a.1.n 2 (a.2.flatMap EX)/\Wp (WB w) a.2)/\a.2.length=a.1.n/\QLS a.1.n/\∀t∈a.2,QI1 t) underlying23 (show prog.cellsOf 54=1 by kernel_rfl) wj (λ_=>rfl) QBJ h1;obtain⟨k,sl,x,c,j⟩:=QGu h2;obtain rfl:=(bN e0).1;obtain rfl:=(bN z).1;obtain rfl:=(bN x).1;rw[QIZ]at g;rw[QGR]at b1;exact⟨⟨⟨o,n0,E⟩,nl,⟨m,n1,c1⟩,rl,k,sl⟩,rfl,⟨g,b1,λe he=>(b4 e he).1,c.row,F,b2,c.len⟩,⟨a3,a5,a4,b3,j,λe he=>⟨(b4 e he).2.1,(b4 e he).2.2.1,λt ht=>((b4 e he).1.2 t ht).2.1⟩⟩⟩
end
end
section
open Go.RowKit Go.ChangeShapes Go.WideShapes Ig
section
variable{H:Type}{enc:TypeId×Value->H}{w:World}
set_option maxRecDepth 100000 in
theorem QH4{t:TypeId}(ht:prog.underlying t=some (.int .u8)){b:Nat}{v:Value}{d:DataW H}{p:List MemPlace}(hv:eI prog w .any b t v)(h:e8 enc prog w 0 (λ_=>true) true t v d p):∃k:Nat,v = .int .u8 (k:Int)/\k<256:=by
 obtain⟨z,rfl,_,_,a⟩:=open_int ht hv h;have c:0<=z/\z<=255:=by simpa[Lit.wf,IntKind.min,IntKind.max,IntKind.signed,IntKind.bits]using a
 exact⟨z.toNat,by rw[Int.toNat_of_nonneg c.1],O⟩
end
end
theorem QFG{s:List UInt8}(a:Fits F w)(h:JW s=0):QX prog 7 [tx s] w F (.int .i64 (Na (Jr s).num)):=by
 have h1:=uz (x:=Jr s) a;rw[<-(XW h).1]at h1;exact h1
structure QxR(F:Gs)(r:Sr)(vs:List Xf):Prop where
 row:Qz F r.q r.n 2 (vs.flatMap Ln)
 len:vs.length=r.n
def QFF(x:Xf):∀v∈Ln x,v.oneCell'=true:=λv hv=>by
 simp only[Ln,eG,ep,or_false]at hv;rcases hv with rfl | rfl<;>rfl
def QEw(vs:List Xf):(UD vs).flatMap D0=vs.flatMap Ln:=by unfold UD;rw[List.flatMap_map];rfl
def QxR.bxa{r:Sr}{vs:List Xf}(h:QxR F r vs):qd F r (UD vs):=⟨by rw[QEw];exact h.row,by rw[Pz];exact h.len⟩
def vC.q{c:Sr}{vs:List Xf}(h:vC F c vs):QxR F c vs:=⟨h.1,h.2.1.symm⟩
structure QCS(n:Nat)(f:Nat->Xf) where
 i:Nat
 v:Value
 ob:List (Nat×Obj)
 le:i<=n
 hr:Q2 41 2 v i (((bB i).map f).flatMap Ln) ob
def QCS.start(n:Nat)(f:Nat->Xf):QCS n f:=⟨0,.slice none 0 0,[],aq _,.nil⟩
def QCS.next{n:Nat}{f:Nat->Xf}(s:QCS n f)(h:s.i<n){v:Value}{ob:List (Nat×Obj)}{x:Xf}(hr:Q2 41 2 v (s.i+1) (((bB s.i).map f).flatMap Ln++Ln x) ob)(hx:x=f s.i):QCS n f :=
 ⟨s.i+1,v,ob,h,by rw[eC,az,show List.map f [s.i]=[x] by rw[hx];rfl,QDK];exact hr⟩
structure QNu(va vb:List Xf):Prop where
 eb:∀k,k<va.length->GP (el va k) 45000/\GP (el vb k) 45000
 pr:∀k,k<va.length->∀j,j<=k->GP (XP (el va j) (el vb (k-j))) 100000
 cv:∀k,k<va.length->∀i,i<=k+1->GP (Vq va vb k i) 100000
def QIe{l:List Int}(h:k<l.length):Qg l k∈l:=by rw[ZJ h];exact List.getElem_mem h
theorem DG.drop{l:List Int}(hd:DG B9 l)(k:Nat):DG B9 (l.drop k):=λx hx=>hd x (List.mem_of_mem_drop hx)
structure QNv(P:List Tm)(all:List (List Xf))(n:Nat):Prop where
 len:∀v,v<all.length->(el all v).length=n+1
 ks:∀u∈P,u.2.length=all.length/\∀k∈u.2,0<=k/\k<=1000
 rt:∀u∈P,∀v,v<all.length->∀m,m<(Qg u.2 v).toNat->QNu (GS (Ki u.1 u.2 all n v) (el all v) m) (el all v)
 mn:∀u∈P,∀x∈Ki u.1 u.2 all n all.length,GP x 100000
 sm:∀j,j<=P.length->∀x∈Z6 (P.take j) all n,GP x 100000
structure QLH(rs:List (List Tm))(t:Xf)(vb:List Xf)(n:Nat):Prop where
 ra:∀k,k<n->∀i,i<rs.length->QNv (el rs i) (ZA t k::Jk rs t vb k) k
 cf:∀k,k<n->∀i,i<rs.length->GP (el (Z6 (el rs i) (ZA t k::Jk rs t vb k) k) k) 45000
def BB(l:List Rat):Nat:=l.foldr (λr q=>r.den*q) 1
def BA:∀l:List Rat,0<BB l
 |[]=>Nat.one_pos
 |r::l=>aW r.den_pos (BA l)
def N9:∀ {l:List Rat} {r:Rat},r∈l->r.den ∣ BB l
 |a::l,r,h=>by
  rcases List.mem_cons.1 h with rfl | h
  ·exact bF _ _
  exact bh (N9 h) (bI _ _)
theorem Ly:∀ {l:List Rat},(∀r∈l,J6 r<=k)->sz ((BB l:Nat):Int)<=l.length*k+1
 |[],_=>by rw[List.length_nil,bK];decide
 |r::l,h=>by
  have h1:=Ly λx hx=>h x (aK _ hx);have h2:sz (r.den:Int)<=k:=aC (Nat.le_max_right _ _) (h r wu);have h3:=Y6 (r.den:Int) ((BB l:Nat):Int);rw[<-bw]at h3;show sz ((r.den*BB l:Nat):Int)<=_;rw[aw,aM];omega
structure SmS(Z T D m:Nat)(rs:List (List Tm)):Prop where
 Nd:∀p∈rs,∀u∈p,J6 u.1<=Z/\ZW u.2 (m+1)<=D/\u.2.length=m+1/\∀k∈u.2,0<=k/\k<=12
 len:∀p∈rs,p.length<=T
 hn:rs.length=m
def Bo(rs:List (List Tm)):List Rat:=rs.flatMap λp=>p.map (·.1)
theorem yX{T:Nat}:∀ {rs:List (List Tm)},(∀p∈rs,p.length<=T)->(Bo rs).length<=rs.length*T
 |[],_=>aq _
 |p::rs,h=>by
  have h1:=yX λx hx=>h x (aK _ hx);have h2:=h p wu;show(p.map (·.1)++Bo rs).length<=_;rw[ax,ak,aw,aM];omega
def QB8(rs:List (List Tm))(l:List Rat):Nat:=60*(BB (Bo rs)*BB l)
def OV(rs:List (List Tm))(l:List Rat):0<QB8 rs l:=aW wj (aW (BA _) (BA _))
theorem QIh{Z T D:Nat}{rs:List (List Tm)}{l:List Rat}(h:SmS Z T D m rs)(a:∀r∈l,J6 r<=B):sz ((QB8 rs l:Nat):Int)<=8+m*T*Z+l.length*B:=by
 have h1:=Ly (l:=Bo rs) (k:=Z) λr hr=>by
  obtain⟨p,hp,hr⟩:=List.mem_flatMap.1 hr;obtain⟨u,hu,rfl⟩:=List.mem_map.1 hr;exact(h.Nd p hp u hu).1
 have h2:=Ly a;have h3:=Y6 ((60:Nat):Int) ((BB (Bo rs)*BB l:Nat):Int);have h4:=Y6 ((BB (Bo rs):Nat):Int) ((BB l:Nat):Int);have h5:sz ((60:Nat):Int)=6:=wj;have h6:(Bo rs).length*Z<=m*T*Z:=ae _ (h.hn ▸ yX h.len);rw[<-bw]at h3 h4;show sz ((60*(BB (Bo rs)*BB l):Nat):Int)<=_;omega
def QGf{rs:List (List Tm)}{l:List Rat}{r:Rat}(h:r∈l):r.den ∣ QB8 rs l:=bh (N9 h) (bh (bI _ _) (bI _ _))
def qD{Q:Nat}{r:Rat}(h0:0<Q)(hd:r.den ∣ Q)(a:J6 r<=B):Cl Q 1 B r:=Cl.of r h0 hd (aC (Nat.le_max_left _ _) a)
def jR{rs:List (List Tm)}{l:List Rat}{r:Rat}(h:r∈l)(a:∀r∈l,J6 r<=B):Cl (QB8 rs l) 1 B r:=qD (OV _ _) (QGf h) (a r h)
def k7(vb:List Xf):List Rat:=vb.flatMap λs=>[s.1,s.2]
def QAE:∀vb:List Xf,(k7 vb).length=2*vb.length
 |[]=>rfl
 |a::vb=>by show([a.1,a.2]++k7 vb).length=_;rw[ax,QAE vb,aw];simp;omega
def QAD{x:Xf}(h:x∈vb):x.1∈k7 vb/\x.2∈k7 vb:=⟨List.mem_flatMap.2 ⟨x,h,wu⟩,List.mem_flatMap.2 ⟨x,h,wu⟩⟩
def QIb(h:∀x∈vb,GP x B):∀r∈k7 vb,J6 r<=B:=λr hr=>by
 obtain⟨x,hx,hr⟩:=List.mem_flatMap.1 hr;simp only[eG,ep,or_false]at hr;rcases hr with rfl | rfl
 ·exact(h x hx).1
 exact(h x hx).2
theorem QJg{Z T D:Nat}{rs:List (List Tm)}{t:Xf}{l:List Rat}(h:SmS Z T D m rs)(hv:vb.length=m)(ht:t.1∈l/\t.2∈l)(hb:∀x∈vb,x.1∈l/\x.2∈l)(a:∀r∈l,J6 r<=B)(b:Z<=B)(c:n<=5):TyC (QB8 rs l) B D T n rs t vb:=by
 subst hv;refine⟨OV _ _,λk hk=>yE (OV _ _) (bh ?_ (bF 60 _)),λi hi u hu=>?_,λi hi=>h.len _ (Qy hi),⟨jR ht.1 a,jR ht.2 a⟩,λx hx=>⟨jR (hb x hx).1 a,jR (hb x hx).2 a⟩,h.hn⟩
 ·have:k=0\/k=1\/k=2\/k=3\/k=4:=O;rcases this with rfl | rfl | rfl | rfl | rfl<;>decide
 have h1:=h.Nd _ (Qy hi) u hu;refine⟨qD (OV _ _) ?_ (aC h1.1 b),h1.2.1,h1.2.2.1,λk hk=>⟨(h1.2.2.2 k hk).1,wg<|(h1.2.2.2 k hk).2⟩⟩;refine bh (N9 (l:=Bo rs) ?_) (bh (bF _ _) (bI _ _));exact List.mem_flatMap.2 ⟨_,Qy hi,aD (f:=λu:Tm=>u.1) hu⟩
theorem TyC.rok{Q D T:Nat}{rs:List (List Tm)}{t:Xf}(h:TyC Q B D T n rs t vb)(y:tyM Q B D T n<=45000):QLH rs t vb n:=by
 have H:=y;unfold tyM at y;have d:∀u w:Nat,u<=w->u*sz (Q:Int)<=w*sz (Q:Int):=λu w g=>ae _ g;have hm:∀k,k<n->∀i,i<rs.length->∀u∈el rs i,∀v,v<=vb.length+1->D4 Q (D+1) (D*(B+(n+1))+T) (1+ZW u.2 v) (B+ZW u.2 v*(B+(n+1))) (Ki u.1 u.2 (ZA t k::Jk rs t vb k) k v):=λk hk i hi u hu v hv =>
  CU h.q0 (L:=n+1) (h.Nd i hi u hu).1 (Dl h O) O v (by rw[Z9];exact hv)
 have f:∀i,i<rs.length->∀u∈el rs i,∀v,v<=vb.length+1->ZW u.2 v<=D/\ZW u.2 v*(B+(n+1))<=D*(B+(n+1)):=λi hi u hu v hv=>by
  have h1:=aC (Rf u.2 hv) (h.Nd i hi u hu).2.1;exact⟨h1,ae _ h1⟩
 have X:=d ((D+1)*n+(1+D)) ((D+1)*n+(D+2)) O;have U:=d ((D+1)*n+1) ((D+1)*n+(D+2)) O;have K:=d ((D+1)*n+(1+D+1)) ((D+1)*n+(D+2)) O;refine⟨λk hk i hi=>⟨λv hv=>(Dl h (k:=k) O v hv).2,λu hu=>⟨by rw[Z9];exact(h.Nd i hi u hu).2.2.1,(h.Nd i hi u hu).2.2.2⟩,λu hu v hv j x=>?_,λu hu=>?_,λj x=>?_⟩,λk hk i hi=>?_⟩
 ·rw[Z9]at hv;have h1:=hm k hk i hi u hu v O;have h2:=Dl h (k:=k) O v (by rw[Z9];exact hv);have h3:=CH h.q0 (L:=n+1) h1 h2.1 (by rw[X1,h2.2];exact aa _) (by rw[X1];omega) j;have h4:=f i hi u hu (v+1) hv;have h5:ZW u.2 v+j<=ZW u.2 (v+1):=by show _<=ZW u.2 v+_;omega
  have h6:ZW u.2 v*(B+(n+1))+j*(B+(n+1))<=D*(B+(n+1)):=by rw[<-aM];exact ae _ O
  have h7:=h3.mono h.q0 (d':=1+D) (b':=B+D*(B+(n+1))) O O;have o:(GS (Ki u.1 u.2 (ZA t k::Jk rs t vb k) k v) (el (ZA t k::Jk rs t vb k) v) j).length=k+1:=by rw[Kv,X1]
  have E:∀m,m<k+1->GP (el (GS (Ki u.1 u.2 (ZA t k::Jk rs t vb k) k v) (el (ZA t k::Jk rs t vb k) v) j) m) 45000:=λm hm=>h7.LV h.q0 (n:=n) O O _ (Qy O);have z:∀m,m<k+1->GP (el (el (ZA t k::Jk rs t vb k) v) m) 45000:=λm hm=>h2.1.LV h.q0 (n:=n) O O _ (Qy O);refine⟨λm a=>⟨E m O,z m O⟩,λm a c b=>(Sk (E c O) (z (m-c) O)).mono wj,λm a c b=>?_⟩;have h8:=V0.LV h.q0 (Ff h.q0 h7 h2.1 a O c b);refine h8.mono ?_;have g1:(D*(B+(n+1))+T)*m<=(D*(B+(n+1))+T)*n:=ah _ O;have Y:((D+1)*m+(1+D+1))*sz (Q:Int)<=((D+1)*n+(1+D+1))*sz (Q:Int):=d _ _ (by have:(D+1)*m<=(D+1)*n:=ah _ O;omega);omega
 ·rw[Z9];have h1:=hm k hk i hi u hu (vb.length+1) (aa _);have h4:=f i hi u hu (vb.length+1) (aa _);exact(h1.mono h.q0 (d':=1+D) (b':=B+D*(B+(n+1))) O O).LV h.q0 (n:=n) (by rw[X1];omega) O
 ·have F:=h.len i hi;have h1:=Mn h.q0 (L:=n+1) (D:=D) (p:=el rs i) (n:=k) (λu hu=>⟨(h.Nd i hi u hu).1,by rw[Z9];exact(h.Nd i hi u hu).2.1⟩) (Dl h O) O j x;exact h1.LV h.q0 (n:=n) (by rw[ZD];omega) O
 have F:=h.len i hi;have h1:=Mn h.q0 (L:=n+1) (D:=D) (p:=el rs i) (n:=k) (λu hu=>⟨(h.Nd i hi u hu).1,by rw[Z9];exact(h.Nd i hi u hu).2.1⟩) (Dl h O) O (el rs i).length (aa _);rw[aQ]at h1;exact h1.LV h.q0 (n:=n) (by rw[ZD];omega) O _ (Qy (by rw[ZD];omega))
def QEz:∀(ks:List Int) (m:Nat),(∀k∈ks,0<=k)->ks.length=m->((ZW ks m:Nat):Int)=ks.sum:=by
 intro ks;have key:∀(m:Nat) (ks:List Int),(∀k∈ks,0<=k)->m<=ks.length->((ZW ks m:Nat):Int)=(ks.take m).sum:=by
  intro m
  induction m with
  |zero=>intro ks _ _;rw[eE];rfl
  |succ m ih =>
   intro ks h hm;show((ZW ks m+(Qg ks m).toNat:Nat):Int)=_;rw[Zb (show m<ks.length by omega),List.sum_append,Int.natCast_add,ih ks h O];have h1:=h (Qg ks m) (QIe O);have h2:el ks m=Qg ks m:=(K7 O).symm;rw[h2];simp;omega
 intro m h a;rw[key m ks h O,<-a,aQ]
theorem jP{s:List UInt8}{d:Nat}(h:WL s d=true)(hz:10^d<=2^z):J6 (Jr s)<=z:=by
 simp only[WL,ai,decide_eq_true_eq,beq_iff_eq]at h;obtain⟨_,hc,h1,h2⟩:=h;have b:=(XW hc).1;generalize Jr s=x at b;have key:∀n:Nat,(fm n).length<=d->n<2^z:=λn c=>by
  have a:=Ku (JL n);rw[Jh]at a;exact fa (fa a (eV wj c)) hz
 have e:numOf (Q5 x)=XR x.num:=by
  unfold numOf;by_cases h:x.den=1
  ·obtain⟨h1,h2⟩:=MN h;rw[h2,aQ,h1]
  exact(VU h).2.2.1
 rw[b,e,QAU]at h1;have c:sz x.num<=z:=(J3 _ _).2 (key _ O);have hd:sz (x.den:Int)<=z:=by
  refine(J3 _ _).2 ?_;rw[fe];by_cases g:x.den=1
  ·have:(1:Nat)<=10^d:=Nat.one_le_pow _ _ wj;have hx:d≠0:=by
    intro h0;have:=YJ x.num.natAbs;have h3:(fm x.num.natAbs).length≠0:=λq=>this (List.length_eq_zero_iff.1 q);omega
   have:1<10^d:=Nat.one_lt_pow hx wj;omega
  refine key _ ?_;rw[b]at h2;unfold Fv at h2;rw[if_neg λe=>g ((RB x).1 e),(VU g).2.2.2]at h2;omega
 exact Nat.max_le.2 ⟨c,hd⟩
theorem uo{v:Int}{dd g:Nat}(h:qx y v dd g=true)(hz:10^g<=2^z)(hr:y.rl.length=y.rt.n):SmS z 4 dd y.rl.length y.rs/\(y.rl.length:Int)<=v:=by
 unfold qx at h;rw[ai,aR]at h;obtain⟨h0,h1⟩:=h;refine⟨⟨λp hp u hu=>?_,λp hp=>?_,by unfold YA.rs;rw[ak]⟩,by rw[hr];exact(pN h0).2.2.1⟩
 ·obtain⟨e,he,rfl⟩:=List.mem_map.1 hp;obtain⟨x,hx,rfl⟩:=List.mem_map.1 hu;have h2:=h1 e he;unfold pJ at h2;split at h2
  ·cases h2
  rename_i hg;rw[aB,List.any_eq_false]at h2;have h3:=h2 x hx;rw[Bool.not_eq_true,bj,aV,decide_eq_false_iff_not]at h3;have h4:ZY (VJ e.2) (y.rt.n:Int)=0:=by
   rcases Decidable.em (ZY (VJ e.2) (y.rt.n:Int)=0)with g | g
   ·exact g
   exact absurd (Or.inr g) hg
  have h5:=KR ((Rc h4).term x hx);have hlen:x.2.length=y.rl.length+1:=wg h5.1;refine⟨jP h3.2 hz,?_,hlen,h5.2.1⟩;have h6:=QEz x.2 (y.rl.length+1) (λk hk=>(h5.2.1 k hk).1) hlen;show ZW x.2 (y.rl.length+1)<=dd;have:=h3.1;omega
 obtain⟨e,he,rfl⟩:=List.mem_map.1 hp;have h2:=h1 e he;unfold pJ at h2;split at h2
 ·cases h2
 rename_i hg;have h3:¬((VJ e.2).length:Int)>4:=λg=>hg (Or.inl g);unfold Hs;rw[ak];omega
def SmS.mono{Z a T D b:Nat}{rs:List (List Tm)}(h:SmS Z T D m rs)(c:Z<=a)(d:D<=b):SmS a T b m rs:=⟨λp hp u hu=>⟨aC (h.Nd p hp u hu).1 c,aC (h.Nd p hp u hu).2.1 d,(h.Nd p hp u hu).2.2⟩,h.len,h.hn⟩
structure SmY(y:YA)(m:Nat):Prop where
 s:SmS 20 4 3 m y.rs
 rl:y.rl.length=m
 pl:∀e∈y.rl,e.2.length=e.1.n/\e.1.n<=1000/\∀t∈e.2,JW t.f=0
structure ShB(m:Nat)(x:List Xf):Prop where
 len:x.length=m
 sz:∀a∈x,GP a 160
 ord:QFY x
def gk{a d:Nat}(h:a<=c)(k:b<=d):a*b<=c*d:=ay h k
theorem QGT{v:Int}{dd g:Nat}(c:ke y)(hr:y.rl.length=y.rt.n)(a:jF y)(b:shS y=true)(h:qx y v dd g=true)(hz:10^g<=2^z)(h2:z<=20)(h3:dd<=3):SmY y y.rl.length/\(y.rl.length:Int)<=v:=by
 have h1:=uo h hz hr;refine⟨⟨h1.1.mono h2 h3,rfl,λe he=>⟨(c.rl e he).1,?_,λt ht=>?_⟩⟩,h1.2⟩
 ·unfold shS at b;simp only[ai,aR]at b;have h2:=b.2.1 e he;unfold shP at h2;simp only[ai,aB,decide_eq_false_iff_not]at h2;omega
 have h2:=a.pl e he;exact(KR (h2.term (t.f,t.k) (aD (f:=λt:Ng=>(t.f,t.k)) ht))).2.2.2
def QEx{c:Sr}{v:List Xf}{F:Gs}(h:v.length=c.n)(d:c.n<=1000000)(hz:∀a∈v,GP a 100000):BxT c (UD v):=⟨d,λs b=>by
 obtain⟨a,ha,rfl⟩:=List.mem_map.1 b;have h1:=hz a ha;have h2:=WA a.1;have h3:=WA a.2;have:=h1.1;have:=h1.2;exact⟨by show(Q5 a.1).length<=_;omega,by show(Q5 a.2).length<=_;omega⟩⟩
def QDv(a:Int):Od .neq (.int .i64 a) (.int .i64 a)=some (.bool false):=by simp[Od]
theorem QE6{t:Xf}{x:List Xf}(h:SmY y m)(hm:m<=2)(hx:ShB m x)(ht:J6 t.1<=56/\J6 t.2<=56)(j:n<=4):QLH y.rs t x n/\uF y.rs t x n/\∀b∈Jk y.rs t x n,∀a∈b,GP a 45000:=by
 have c:∀r∈t.1::t.2::k7 x,J6 r<=160:=λr hr=>by
  rcases List.mem_cons.1 hr with rfl | hr
  ·omega
  rcases List.mem_cons.1 hr with rfl | hr
  ·omega
  exact QIb hx.sz r hr
 have h1:=QIh h.s c;have h2:(t.1::t.2::k7 x).length<=6:=by
  show(k7 x).length+1+1<=6;rw[QAE,hx.len];omega
 have h3:=gk h2 (aa 160);have h4:m*4*20<=2*4*20:=gk (gk hm (aa 4)) (aa 20);have f:sz ((QB8 y.rs (t.1::t.2::k7 x):Nat):Int)<=1128:=O;have hc:=QJg (n:=n) h.s hx.len (t:=t) ⟨.head _,.tail _ (.head _)⟩ (λa ha=>⟨.tail _ (.tail _ (QAD ha).1),.tail _ (.tail _ (QAD ha).2)⟩) c wj O;generalize QB8 y.rs (t.1::t.2::k7 x)=Q at f hc;have d:tyM Q 160 3 4 n<=45000:=by
  obtain rfl | rfl | rfl | rfl | rfl:n=0\/n=1\/n=2\/n=3\/n=4:=O
  all_goals
   unfold tyM;omega
 refine⟨hc.rok d,hc.ok O,λb hb a ha=>?_⟩;obtain⟨i,hi,rfl⟩:=aE hb;rw[<-JB hi]at ha;rw[ZM]at hi;unfold tyM at d;have g:((3+1)*n+1)*sz (Q:Int)<=((3+1)*n+(3+2))*sz (Q:Int):=ae _ O;exact(gE hc n (aa _) i hi).LV hc.q0 (n:=n) (by rw[Kf y.rs _ x n hi];omega) O _ ha
structure QMr(n:Nat) where
 i:Nat
 le:i<=n
section
variable{P:Program}{N:Nat}{m:Sl}{Y:World->Prop}{ty:TypeId}
theorem QFN{T e:TypeId}{x:Operand}{lo:Option Operand}{vl:Option Value}{q:Option Addr}{sz:Nat}{g:Bool}(l:Nat)(hx:ev m x=some (.slice q n c))(el:UG m lo=some vl)(j:vl=some (.int .i64 (l:Int)))(h:GZ P T=some e)(i:Zm P e=some (g,sz))(d:l<=n)(hc:n<=c):
  Qt P N m Y (.slice T x lo none none) ty (.slice (if c=l then q else q.map λa=>a.add (l*sz)) (n-l) (c-l)):=λa w _ _ _ _ ha _=>by
 subst j;have f:l<=c:=aC d hc;have b:(fp T (.slice q n c) (some (.int .i64 (l:Int))) none none).run P w = .ok (.slice (if c=l then q else q.map λa=>a.add (l*sz)) (n-l) (c-l)) w:=by
  simp[fp,run_underlying (Jc h),Instr.sliceBounds,Instr.sliceBound,asIntOf,hc,d,f,Y0 i]
 simp[execOp,ha.ev hx,ha.UG el,Instr.sliceAt,run_underlying (Jc h),b]
end
theorem Qz.drop{q:Option Addr}{sz:Nat}(h:Qz F q n sz cs)(hc:n<=c)(l:Nat):Qz F (if c=l then q else q.map λa=>a.add (l*sz)) (n-l) sz (cs.drop (l*sz)):=by
 refine⟨by rw[List.length_drop,h.1,Nat.sub_mul],λh0=>?_⟩;obtain⟨b,off,d,T,g,f,e3⟩:=h.2 O;subst g;rw[if_neg O];refine⟨b,off+l*sz,d,T,by rw[Option.map_some,Kl],f,λj u hu=>?_⟩;rw[bU];rw[List.getElem?_drop]at hu;exact e3 _ u hu
theorem Cl.gn{D E:Nat}{y:Rat}(hx:Cl D 1 b x)(hy:Cl E 1 c y):Cl (D*E) 1 (b+c) (x*y):=by
 obtain⟨z,rfl,h1⟩:=hx;obtain⟨u,rfl,h2⟩:=hy;rw[au]at h1 h2;refine⟨z*u,?_,?_⟩
 ·rw[Rat.divInt_mul_divInt,au,au,au,bw]
 rw[fi,au,eB]
 calc z.natAbs*u.natAbs<=(2^b*D)*(2^c*E):=ay h1 h2
  _=2^b*2^c*(D*E):=by ac_rfl
theorem Cl.dvd{D E:Nat}(h:Cl D 1 b x)(h0:0<E)(hd:D ∣ E)(hb:b<=c):Cl E 1 c x:=by
 obtain⟨k,rfl⟩:=hd;obtain⟨z,rfl,h1⟩:=h;have hk:(k:Int)≠0:=by rintro hk;simp only[Int.natCast_eq_zero]at hk;subst hk;simp at h0
 refine⟨z*k,?_,?_⟩
 ·rw[au,au,bw,Rat.divInt_mul_right hk]
 rw[au]at h1 ⊢;rw[fi,fe,<-Nat.mul_assoc];exact ay (aC h1 (ae _ (eV wj hb))) (aa _)
def V0.gn{D E:Nat}{x y:Rat×Rat}(h:V0 D 1 b x)(k:V0 E 1 c y):V0 (D*E) 1 (b+c) (XP x y):=by
 have h11:=h.1.gn k.1;have h12:=h.1.gn k.2;have d:=h.2.gn k.1;have a:=h.2.gn k.2;exact NY (P:=Cl (D*E) 1 (b+c)) _ _ h11 h11 λz hz=>by
  simp only[eG,ep,or_false]at hz;rcases hz with rfl | rfl | rfl<;>assumption
def V0.dvd{D E:Nat}{x:Xf}(h:V0 D 1 b x)(h0:0<E)(hd:D ∣ E)(hb:b<=c):V0 E 1 c x:=⟨h.1.dvd h0 hd hb,h.2.dvd h0 hd hb⟩
def ka(N:Nat->Nat)(be b:Nat)(a:List Xf):Prop:=∀k,k<a.length->V0 (N k) 1 (be*k+b) (el a k)
section
variable{N M R:Nat->Nat}{be b c:Nat}{a a':List Xf}
def QMe(ha:ka N be b a)(hb:ka M be c a')(h0:∀k,0<R k)(d:∀i j,N i*M j ∣ R (i+j)){k:Nat}(hk:k<a.length)(f:a.length<=a'.length):∀i,i<=k+1->V0 (R k) 1 (be*k+(b+c)+i) (Vq a a' k i):=by
 intro i
 induction i with
 |zero=>intro _;exact V0.zero (h0 k)
 |succ i ih =>
  intro hi;rw[Bs];have h1:=ih O;have h2:=V0.gn (ha i O) (hb (k-i) O);have h3:=d i (k-i);rw[show i+(k-i)=k by omega]at h3;have g:be*i+be*(k-i)=be*k:=by rw[<-eW];congr 1;omega
  exact V0.add (h0 k) h1 (h2.dvd (h0 k) h3 (c:=be*k+(b+c)+i) O)
def QJm(ha:ka N be b a)(hb:ka M be c a')(h0:∀k,0<R k)(f:∀i j,N i*M j ∣ R (i+j))(d:a.length<=a'.length)(g:a.length<=L):ka R be (b+c+L) (Yi a a'):=λk hk=>by
 rw[BV]at hk;unfold Yi;rw[Z8 _ hk];exact(QMe ha hb h0 f hk d (k+1) (aa _)).mono (h0 k) (aa _) O
def QLi(h0:∀k,0<R k)(ha:ka R be b a)(hb:ka R be b a')(c:a.length<=a'.length):ka R be (b+1) (VY a a'):=λk hk=>by
 rw[Hh]at hk;unfold VY;rw[Z8 _ hk];exact V0.add (h0 k) (ha k hk) (hb k O)
def QMd{r:Rat}(h0:∀k,0<N k)(h:Cl (N 0) 1 b r):ka N be b (WT r n):=λk hk=>by
 rw[Kx]at hk
 match k,hk with
 |0,_=>show V0 (N 0) 1 (be*0+b) (r,r);rw[aY,ao];exact⟨h,h⟩
 |k+1,hk =>
  have a:el (WT r n) (k+1)=(0,0):=by rw[JB (by rw[Kx];exact hk)];simp[WT]
  rw[a];exact V0.zero (h0 _)
def QNY{t:Xf}(h0:∀k,0<N k)(h:V0 (N 0) 1 b t):ka N be b (ZA t n):=λk hk=>by
 rw[Vg]at hk
 match n,k,hk with
 |0,0,_=>show V0 (N 0) 1 (be*0+b) t;rw[aY,ao];exact h
 |n+1,0,_=>show V0 (N 0) 1 (be*0+b) t;rw[aY,ao];exact h
 |n+1,1,_=>exact⟨.one _ _ (h0 _),.one _ _ (h0 _)⟩
 |n+1,k+2,hk =>
  have a:el (ZA t (n+1)) (k+2)=(0,0):=by rw[JB (by rw[Vg];exact hk)];simp[ZA]
  rw[a];exact V0.zero (h0 _)
def ka.dvd(h:ka N be b a)(h0:∀k,0<M k)(hd:∀k,N k ∣ M k)(hb:b<=c):ka M be c a:=λk hk=>(h k hk).dvd (h0 k) (hd k) O
end
def sN(G E al k:Nat):Nat:=G^k*E^(al*k+1)
def mN(F G E al s k:Nat):Nat:=F*(G^k*E^(al*k+s))
section
variable{F G E al:Nat}(hF:0<F)(hG:0<G)(hE:0<E)
include hG hE
theorem O4(k:Nat):0<sN G E al k:=aW (ey hG) (ey hE)
include hF
theorem GV(s k:Nat):0<mN F G E al s k:=aW hF (aW (ey hG) (ey hE))
omit hF hG hE in
theorem dA(s i j:Nat):mN F G E al s i*sN G E al j ∣ mN F G E al (s+1) (i+j):=by
 have e:mN F G E al s i*sN G E al j=mN F G E al (s+1) (i+j):=by
  unfold mN sN
  rw[show al*(i+j)+(s+1)=(al*i+s)+(al*j+1) by rw[eW];omega,eB G i j,eB E (al*i+s) (al*j+1)]
  ac_rfl
 rw[e];exact ar _
omit hF hG hE in
theorem QIN{s u:Nat}(h:s<=u)(k:Nat):mN F G E al s k ∣ mN F G E al u k :=
 bL (ar _) (bL (ar _) (fg E O))
variable{be:Nat}
theorem QNM{s:Nat}{y z:List Xf}(hy:ka (mN F G E al s) be b y)(hz:ka (sN G E al) be B z)(a:y.length<=z.length)(c:y.length<=L):∀i,ka (mN F G E al (s+i)) be (b+i*(B+L)) (GS y z i):=by
 intro i
 induction i with
 |zero=>rw[aZ,bK,aZ];exact hy
 |succ i ih =>
  rw[Nb];have h1:=QJm (L:=L) ih hz (GV hF hG hE (s+i+1)) (dA (s+i)) (by rw[Kv];exact a) (by rw[Kv];exact c);exact h1.dvd (GV hF hG hE _) (λk=>ar _) (by rw[aM];omega)
theorem QNU{r:Rat}{ks:List Int}(hr:Cl F 1 B r)(ha:∀v,v<all.length->ka (sN G E al) be B (el all v)/\(el all v).length=n+1)(a:n+1<=L):∀v,v<=all.length->ka (mN F G E al (ZW ks v)) be (B+ZW ks v*(B+L)) (Ki r ks all n v):=by
 intro v
 induction v with
 |zero =>
  intro _;show ka (mN F G E al 0) be (B+0*(B+L)) (WT r n);rw[bK,aZ];refine QMd (GV hF hG hE 0) ?_;have e:mN F G E al 0 0=F:=by simp[mN]
  rw[e];exact hr
 |succ v ih =>
  intro hv;have h1:=ha v hv;rw[Nc];have h2:=QNM hF hG hE (L:=L) (ih O) h1.1 (by rw[X1,h1.2];exact aa _) (by rw[X1];exact a) (Qg ks v).toNat;refine h2.dvd (GV hF hG hE _) (λk=>ar _) ?_;show B+ZW ks v*(B+L)+_<=B+(ZW ks v+_)*(B+L);rw[aM];omega
theorem QLh{D:Nat}{p:List Tm}(hp:∀u∈p,Cl F 1 B u.1/\ZW u.2 all.length<=D)(ha:∀v,v<all.length->ka (sN G E al) be B (el all v)/\(el all v).length=n+1)(b:n+1<=L):∀j,j<=p.length->ka (mN F G E al D) be (B+D*(B+L)+j) (Z6 (p.take j) all n):=by
 intro j
 induction j with
 |zero=>intro _;exact QMd (GV hF hG hE D) (.zero 1 _)
 |succ j ih =>
  intro a;have hu:=hp _ (Qy a);rw[BX a];have h1:=QNU hF hG hE (ks:=(el p j).2) hu.1 ha b all.length (aa _);have h2:ZW (el p j).2 all.length*(B+L)<=D*(B+L):=ae _ hu.2;exact QLi (GV hF hG hE D) (ih O) (h1.dvd (GV hF hG hE D) (QIN hu.2) (c:=B+D*(B+L)+j) O) (by rw[ZD,X1];exact aa _)
end
structure TyD(F I E B al T n:Nat)(rs:List (List Tm))(t:Xf)(vb:List Xf):Prop where
 f0:0<F
 i0:0<I
 e0:0<E
 inv:∀k,k<n->k+1 ∣ I
 Nd:∀i,i<rs.length->∀u∈el rs i,Cl F 1 B u.1/\ZW u.2 (vb.length+1)<=al+1
 len:∀i,i<rs.length->(el rs i).length<=T
 tm:V0 E 1 B t
 box:∀x∈vb,V0 E 1 B x
 hn:rs.length=vb.length
def tyN(B al T n:Nat):Nat:=(al+1)*(B+(n+1))+T
section
variable{F I E B al T n:Nat}{rs:List (List Tm)}{t:Xf}{vb:List Xf}(h:TyD F I E B al T n rs t vb)
include h
theorem TyD.g0:0<F*I:=aW h.f0 h.i0
theorem QNJ:∀k,k<=n->∀i,i<vb.length->ka (sN (F*I) E al) (tyN B al T n) B (el (Jk rs t vb k) i):=by
 intro k;have e0:sN (F*I) E al 0=E:=by unfold sN;rw[aY,ao,eO,au,bD]
 induction k with
 |zero =>
  intro _ i hi;have m:el (Jk rs t vb 0) i=[el vb i]:=by
   show el (vb.map λx=>[x]) i=_;rw[JB (by rw[ak];exact hi),eu,JB hi]
  rw[m];intro j c;have f:j=0:=by simpa using c
  subst f;rw[e0,aY,ao];exact h.box _ (Qy hi)
 |succ k ih =>
  intro hk i hi;have ih:=ih O;have m:el (Jk rs t vb (k+1)) i=el (Jk rs t vb k) i++[XP (el (Z6 (el rs i) (ZA t k::Jk rs t vb k) k) k) ((((k+1:Nat):Int):Rat)⁻¹,(((k+1:Nat):Int):Rat)⁻¹)]:=by
   rw[Jk,Z8 _ hi]
  have o:(el (Jk rs t vb k) i).length=k+1:=Kf rs t vb k hi;have ha:∀v,v<(ZA t k::Jk rs t vb k).length->ka (sN (F*I) E al) (tyN B al T n) B (el (ZA t k::Jk rs t vb k) v)/\(el (ZA t k::Jk rs t vb k) v).length=k+1:=λv hv=>by
   rw[Z9]at hv
   match v,hv with
   |0,_=>exact⟨QNY (O4 h.g0 h.e0) (by rw[e0];exact h.tm),Vg t k⟩
   |v+1,hv=>exact⟨ih v O,Kf rs t vb k O⟩
  rw[m];intro j c;rw[ax,o]at c;rcases ek j (k+1)with g | g
  ·rw[Te O];exact ih i hi j O
  have d:j=k+1:=by simp at c;omega
  subst d;rw[PZ o];have a:i<rs.length:=by rw[h.hn];exact hi
  have h1:=QLh h.f0 h.g0 h.e0 (L:=n+1) (D:=al+1) (p:=el rs i) (λu hu=>⟨(h.Nd i a u hu).1,by rw[Z9];exact(h.Nd i a u hu).2⟩) ha O (el rs i).length (aa _);rw[aQ]at h1;have h2:=h1 k (by rw[ZD];omega);have w:=h.len i a;have b:Cl I 1 0 ((((k+1:Nat):Int):Rat)⁻¹):=yE h.i0 (h.inv k O);have h3:=V0.gn h2 (y:=((((k+1:Nat):Int):Rat)⁻¹,(((k+1:Nat):Int):Rat)⁻¹)) ⟨b,b⟩;refine h3.dvd (O4 h.g0 h.e0 _) ?_ ?_
  ·have e:mN F (F*I) E al (al+1) k*I=sN (F*I) E al (k+1):=by
    unfold mN sN;rw[fu,ee,bU]
    ac_rfl
   rw[e];exact ar _
  rw[ee];unfold tyN;omega
omit h in
theorem qg(Q k:Nat):sz ((Q^k:Nat):Int)<=k*sz ((Q:Nat):Int)+1:=by rw[Int.natCast_pow];exact RA _ _
omit h in
theorem vD(a b:Nat):sz ((a*b:Nat):Int)<=sz ((a:Nat):Int)+sz ((b:Nat):Int):=by rw[bw];exact Y6 _ _
theorem QCr{g e:Nat}(hg:sz ((F*I:Nat):Int)<=g)(he:sz ((E:Nat):Int)<=e)(hm:m<=n):∀b∈Jk rs t vb m,∀x∈b,GP x (tyN B al T n*m+B+(m*g+(al*m+1)*e+2)+2):=λb hb x hx=>by
 obtain⟨i,hi,rfl⟩:=aE hb;rw[<-JB hi]at hx;rw[ZM]at hi;obtain⟨k,hk,rfl⟩:=aE hx;rw[<-JB hk];have h1:=V0.LV (O4 h.g0 h.e0 k) (QNJ h m hm i hi k hk);rw[Kf rs t vb m hi]at hk;refine h1.mono ?_;have h2:=vD ((F*I)^k) (E^(al*k+1));have h3:=qg (F*I) k;have h4:=qg E (al*k+1);have h5:k*sz ((F*I:Nat):Int)<=m*g:=ay O hg;have h6:(al*k+1)*sz ((E:Nat):Int)<=(al*m+1)*e:=ay (Nat.succ_le_succ (ah _ O)) he;have h7:tyN B al T n*k<=tyN B al T n*m:=ah _ O;show tyN B al T n*k+B+1*sz ((sN (F*I) E al k:Nat):Int)+2<=_;unfold sN;omega
end
theorem yV{d:Nat}(h:Mx (d:Int) s=true):JW s.1=0/\JW s.2=0/\WL s.1 d=true/\WL s.2 d=true/\Jr s.1<=Jr s.2:=by
 unfold Mx at h;simp only[ai,aB,decide_eq_false_iff_not]at h;refine⟨Ek h.1,Ek h.2.1,h.1,h.2.1,Rat.not_lt.1 λk=>h.2.2 ((P2 _ _).2 k)⟩
def QB3{d:Nat}(h:Mx (d:Int) s=true):XF s.1 s.2=0:=by
 obtain⟨h1,h2,_,_,h5⟩:=yV h;have b:=XW h1;have a:=XW h2;rw[b.1,a.1];exact Tn b.2 a.2 h5
theorem pM{d:Nat}(h:l.all (Mx (d:Int))=true)(hz:10^d<=2^z):M6 l.length l=0/\QFY (lV l)/\(∀a∈lV l,GP a z):=by
 rw[aR]at h;refine⟨?_,λi hi=>?_,λa ha=>?_⟩
 ·unfold M6;rw[if_neg O];have key:∀m:List (List UInt8×List UInt8),(∀s∈m,Mx (d:Int) s=true)->Qn (m.map λs=>XF s.1 s.2)=0:=by
   intro m
   induction m with
   |nil=>intro _;rfl
   |cons s m ih =>
    intro hm;rw[bT,QB3 (hm s (.head _)),KI];exact ih λx hx=>hm x (.tail _ hx)
  exact key l h
 ·obtain⟨s,b,e⟩:=List.mem_map.1 (Qy hi);have c:Jp s=el (lV l) i:=e;rw[<-c];exact(yV (h s b)).2.2.2.2
 obtain⟨s,b,rfl⟩:=List.mem_map.1 ha;have h1:=yV (h s b);exact⟨jP h1.2.2.1 hz,jP h1.2.2.2.1 hz⟩
def QBf(v:List Xf):lV (UD v)=v:=by
 unfold lV UD;rw[bz];have e:(Jp∘λa:Xf=>(Q5 a.1,Q5 a.2))=id:=by
  funext a;show(Jr (Q5 a.1),Jr (Q5 a.2))=a;rw[Mi,Mi]
 rw[e,List.map_id]
theorem QAN{v:List Xf}(c:v.length=n)(hz:∀a∈v,GP a 1800)(b:QFY v):M6 n (UD v)=0:=by
 unfold M6;rw[if_neg (by rw[Pz];omega)];have key:∀u:List Xf,(∀a∈u,GP a 1800/\a.1<=a.2)->Qn ((UD u).map λs=>XF s.1 s.2)=0:=by
  intro u
  induction u with
  |nil=>intro _;rfl
  |cons a u ih =>
   intro hu;have h1:=hu a (.head _);have h2:XF (Q5 a.1) (Q5 a.2)=0:=Tn (Wr h1.1.1 (aa _)) (Wr h1.1.2 (aa _)) h1.2;show Qn (XF (Q5 a.1) (Q5 a.2)::(UD u).map λs=>XF s.1 s.2)=0;rw[h2,KI];exact ih λx hx=>hu x (.tail _ hx)
 refine key v λa ha=>⟨hz a ha,?_⟩;obtain⟨i,hi,rfl⟩:=aE ha;rw[<-JB hi];exact b i hi
def QLq{v:List Xf}(h:∀a∈v,GP a 1800):K1 v=false:=jN λa ha=>by rw[Wr (h a ha).1 (aa _),Wr (h a ha).2 (aa _)];rfl
structure NsT(y:YA)(x:ATk):Prop where
 few:qx y 2 2 4=true
 n0:y.rt.n≠0
 bn:x.bx.n=y.rt.n
 wn:x.wh.n=y.rt.n
 b:x.bl.all (Mx ((4:Nat):Int))=true
 w:x.wl.all (Mx ((6:Nat):Int))=true
 f:WL x.fr ((3:Nat):Int)=true
 t:WL x.te ((3:Nat):Int)=true
 lt:Jr x.fr<Jr x.te
def yW{s:List UInt8}{d:Nat}(h:WL s (d:Int)=true):s.length<=2*d+2:=by
 unfold WL at h;rw[ai,decide_eq_true_eq]at h;have:=h.1;omega
theorem QKx{r:Sr}{d:Nat}(b:l.length=r.n)(h2:r.n<=2)(hd:d<=6)(h:l.all (Mx (d:Int))=true):BxT r l:=⟨O,λs a=>by
 have h1:=yV (List.all_eq_true.1 h s a);have:=yW h1.2.2.1;have:=yW h1.2.2.2.1;exact⟨O,O⟩⟩
def QKr{q:Option Addr}{f:Nat->Xf}{v:List Xf}(h:Qz F q n 2 (((bB n).map f).flatMap Ln))(e:(bB n).map f=v):QxR F ⟨q,n,c⟩ v:=⟨by rw[<-e];exact h,by rw[<-e];simp⟩
def QJo{a b:Xf}(h:KG a b):Dy a.1 b/\Dy a.2 b:=by
 obtain⟨h1,h2,h3⟩:=h;unfold Dy;exact⟨⟨h1,bZ h2 h3⟩,⟨bZ h1 h2,h3⟩⟩
theorem ZZ.QJ6{a b:List Xf}(h:ZZ a b):QFY b:=λi hi=>by
 obtain⟨h1,h2,h3⟩:=h.2 i (h.1 ▸ hi);exact bZ h1 (bZ h2 h3)
end Go.Proofs.YtogkbhegfnklhaaGreatDoor
namespace Go.Proofs.YtogkbhegfnklhaaGreatDoor
variable{B L b c i j k m n o off z:Nat}{cs:List Value}{s:List UInt8×List UInt8}{y:YA}{w:World}{F:Gs}{l:List (List UInt8×List UInt8)}{vb:List Xf}{x:Rat}{all:List (List Xf)}{xs:List (Fr×Rat)}{S:World->Prop}
open Go.RowKit Ig
def Se:=Nat->Rat
variable{A:Se}
namespace Se
def tl(f:Se):Se:=λk=>f (k+1)
def sc(c:Rat)(f:Se):Se:=λk=>c*f k
def cv:Se->Se->Nat->Rat
 |f,g,0=>f 0*g 0
 |f,g,k+1=>f 0*g (k+1)+cv f.tl g k
instance :Add Se:=⟨λf g k=>f k+g k⟩
instance :Mul Se:=⟨cv⟩
def C(c:Rat):Se:=λk=>if k=0 then c else 0
def LQ:Se:=λ_=>0
def D(f:Se):Se:=λk=>((k+1:Nat):Rat)*f (k+1)
def Kl(f g:Se)(k:Nat):(f+g) k=f k+g k:=rfl
def gp(f g:Se):(f*g) 0=f 0*g 0:=rfl
def UH(f g:Se)(k:Nat):(f*g) (k+1)=f 0*g (k+1)+(f.tl*g) k:=rfl
def ext{f g:Se}(h:∀k,f k=g k):f=g:=funext h
theorem vV:∀(k:Nat) (f g h:Se),((f+g)*h) k=(f*h) k+(g*h) k
 |0,f,g,h=>by rw[gp,gp,gp,Kl,Rat.add_mul]
 |k+1,f,g,h=>by
  have:=vV k f.tl g.tl h;rw[UH,UH,UH,show(f+g).tl=f.tl+g.tl from rfl,this,Kl]
  grind
theorem uv(c:Rat):∀(k:Nat) (f g:Se),((sc c f)*g) k=c*(f*g) k
 |0,f,g=>by rw[gp,gp];show c*f 0*g 0=_;grind
 |k+1,f,g=>by
  have:=uv c k f.tl g;rw[UH,UH,show(sc c f).tl=sc c f.tl from rfl,this];show c*f 0*_+_=_
  grind
theorem QJM:∀(k:Nat) (f g:Se),(f*g) (k+1)=(f*g.tl) k+f (k+1)*g 0
 |0,f,g=>rfl
 |k+1,f,g=>by
  rw[UH,QJM k f.tl g,UH];show f 0*g (k+2)+((f.tl*g.tl) k+f (k+2)*g 0)=f 0*g (k+2)+(f.tl*g.tl) k+f (k+2)*g 0
  grind
theorem QDU:∀(k:Nat) (f g:Se),(f*g) k=(g*f) k
 |0,f,g=>eM _ _
 |k+1,f,g=>by
  rw[UH,QJM k g f,QDU k f.tl g]
  grind
theorem mul_comm(f g:Se):f*g=g*f:=ext λk=>QDU k f g
theorem QJl(f g:Se):(f*g).tl=sc (f 0) g.tl+f.tl*g:=ext λk=>UH f g k
theorem QAP:∀(k:Nat) (f g h:Se),(f*g*h) k=(f*(g*h)) k
 |0,f,g,h=>Rat.mul_assoc _ _ _
 |k+1,f,g,h=>by
  rw[UH,UH,QJl,vV,uv,QAP k f.tl g h,gp,UH g h]
  grind
theorem mul_assoc(f g h:Se):f*g*h=f*(g*h):=ext λk=>QAP k f g h
instance :Std.Associative (α:=Se) (·*·):=⟨mul_assoc⟩
instance :Std.Commutative (α:=Se) (·*·):=⟨mul_comm⟩
def QMi(f:Se):f+LQ=f:=ext λk=>bA _
theorem QDb:∀(k:Nat) (f:Se),(LQ*f) k=0
 |0,f=>fq _
 |k+1,f=>by rw[UH,show LQ.tl=LQ from rfl,QDb k f];show 0*_+0=(0:Rat);grind
def QN3(c:Rat):(C c).tl=LQ:=ext λk=>rfl
theorem QDd(c:Rat)(f:Se):∀k,(C c*f) k=c*f k
 |0=>rfl
 |k+1=>by rw[UH,QN3,QDb];show c*_+0=_;grind
theorem QLR:C 0=LQ:=ext λk=>by show(if k=0 then(0:Rat)else 0)=0;split<;>rfl
def one_mul(f:Se):C 1*f=f:=ext λk=>by rw[QDd,fy]
def mul_one(f:Se):f*C 1=f:=by rw[mul_comm,one_mul]
def QDD:∀(k:Nat) {f f' g g':Se},(∀i,i<=k->f i=f' i)->(∀i,i<=k->g i=g' i)->(f*g) k=(f'*g') k
 |0,f,f',g,g',h1,h2=>by rw[gp,gp,h1 0 (aa _),h2 0 (aa _)]
 |k+1,f,f',g,g',h1,h2=>by rw[UH,UH,h1 0 O,h2 (k+1) (aa _),QDD k (f:=f.tl) (f':=f'.tl) (λi hi=>h1 (i+1) O) λi hi=>h2 i O]
def Up(n:Nat)(f g:Se):Prop:=∀i,i<=n->f i=g i
theorem Up.mul{n:Nat}{f f' g a:Se}(h:Up n f f')(k:Up n g a):Up n (f*g) (f'*a):=λi hi=>QDD i (λj b=>h j O) λj b=>k j O
theorem Up.add{n:Nat}{f f' g a:Se}(h:Up n f f')(k:Up n g a):Up n (f+g) (f'+a):=λi hi=>by rw[Kl,Kl,h i hi,k i hi]
def Up.refl{n:Nat}(f:Se):Up n f f:=λ_ _=>rfl
def pw(x:Se):Nat->Se
 |0=>C 1
 |e+1=>pw x e*x
def Up.pw{n:Nat}{f g:Se}(h:Up n f g):∀e,Up n (Se.pw f e) (Se.pw g e)
 |0=>Up.refl _
 |e+1=>(h.pw e).mul h
def zY(W:Nat->Se)(ks:List Int):Nat->Se
 |0=>C 1
 |i+1=>zY W ks i*pw (W i) (Qg ks i).toNat
def Up.zY{n:Nat}{W V:Nat->Se}{ks:List Int}:∀ {m:Nat},(∀v,v<m->Up n (W v) (V v))->Up n (Se.zY W ks m) (Se.zY V ks m)
 |0,_=>Up.refl _
 |m+1,h=>(Up.zY λv hv=>h v O).mul ((h m O).pw _)
def lin(f:List Int->Se):List Tm->Se
 |[]=>LQ
 |t::l=>C t.1*f t.2+lin f l
def cmp(W:Nat->Se)(l:List Tm):Se:=lin (λks=>zY W ks ks.length) l
def dF(f:List Int->Se)(k:Nat):∀l,lin f l k=OF (λks=>f ks k) l
 |[]=>rfl
 |t::l=>by rw[lin,Kl,QDd,dF f k l];rfl
def QIR(f:List Int->Se)(p q:List Tm):lin f (p++q)=lin f p+lin f q:=ext λk=>by rw[dF,Kl,dF,dF,cS]
def QIn(W:Nat->Se)(p q:List Tm):cmp W (p++q)=cmp W p+cmp W q:=QIR _ p q
def Up.cmp{n m:Nat}{W V:Nat->Se}(h:∀v,v<m->Up n (W v) (V v)):∀ {l:List Tm},vA m l->Up n (Se.cmp W l) (Se.cmp V l)
 |[],_=>Up.refl _
 |t::l,a=>by
  refine Up.add (Up.mul (Up.refl _) ?_) (Up.cmp h a.tail);show Up n (Se.zY W t.2 t.2.length) (Se.zY V t.2 t.2.length);rw[a t wu];exact Up.zY h
def T:Se:=λk=>if k=1 then 1 else 0
structure Sol(rs:List (List Tm))(st:List Rat)(X:Nat->Se):Prop where
 t:X 0=T
 st:∀v,v<rs.length->X (v+1) 0=el st v
 ode:∀v,v<rs.length->D (X (v+1))=cmp X (el rs v)
def Dat{f g:Se}(h:D f=g)(k:Nat):f (k+1)=g k/((k+1:Nat):Rat):=by
 rw[<-h];show _=((k+1:Nat):Rat)*f (k+1)/((k+1:Nat):Rat);have:((k+1:Nat):Rat)≠0:=by
  intro e;have:((k+1:Nat):Rat)=((0:Nat):Rat):=e;have:=Rat.natCast_inj.1 this;omega
 rw[eM,Rat.mul_div_cancel this]
end Se
end Go.Proofs.YtogkbhegfnklhaaGreatDoor
namespace Go.Proofs.YtogkbhegfnklhaaGreatDoor
variable{B L b c i j k m n o off z:Nat}{cs:List Value}{s:List UInt8×List UInt8}{y:YA}{w:World}{F:Gs}{l:List (List UInt8×List UInt8)}{vb:List Xf}{x:Rat}{all:List (List Xf)}{xs:List (Fr×Rat)}{S:World->Prop}{A:Se}
open Go.RowKit Ig
namespace Se
def pr(A B:Se)(m:Nat):Nat->Rat
 |0=>0
 |i+1=>pr A B m i+(if i<=m then A i*B (m-i)else 0)
theorem QJG(A B:Se)(m:Nat):∀i,pr A B (m+1) (i+1)=A 0*B (m+1)+pr A.tl B m i
 |0=>by show 0+(if 0<=m+1 then A 0*B (m+1-0)else 0)=_+0;rw[if_pos O];show 0+A 0*B (m+1)=_;grind
 |i+1=>by
  rw[pr,QJG A B m i,pr];by_cases h:i<=m
  ·rw[if_pos h,if_pos O,show m+1-(i+1)=m-i by omega];show _+A (i+1)*_=_+(_+A (i+1)*_);grind
  rw[if_neg h,if_neg O];grind
theorem QBI:∀(m:Nat) (A B:Se),pr A B m (m+1)=(A*B) m
 |0,A,B=>by rw[gp,pr,pr,if_pos (aa _)];show 0+A 0*B 0=_;grind
 |m+1,A,B=>by rw[QJG,QBI m A.tl B,UH]
def gP(A B:Se)(m:Nat):∀ {i},m<i->pr A B m i=(A*B) m
 |i+1,h=>by
  by_cases e:i=m
  ·subst e;exact QBI i A B
  rw[pr,gP A B m (show m<i by omega),if_neg O,bA]
def QHv{A B:Se}{i:Nat}(h:A i=0)(m:Nat):pr A B m (i+1)=pr A B m i:=by
 rw[pr,h];split
 ·rw[fq,bA]
 rw[bA]
def Tt(rs:List (List Tm))(st:List Rat):Nat->Nat->Se
 |_,0=>T
 |0,v+1=>C (el st v)
 |k+1,v+1=>λi=>if i=k+1 then(cmp (Tt rs st k) (el rs v)) k/((k+1:Nat):Rat)else Tt rs st k (v+1) i
def QAR(rs:List (List Tm))(st:List Rat)(k:Nat):Tt rs st k 0=T:=by cases k<;>rfl
theorem QGz(rs:List (List Tm))(st:List Rat)(k v:Nat):∀j,Up k (Tt rs st (k+j) v) (Tt rs st k v)
 |0=>Up.refl _
 |j+1=>λi hi=>by
  rw[<-QGz rs st k v j i hi];cases v with
  |zero=>rw[QAR,QAR]
  |succ v =>
   show(if i=k+j+1 then _ else Tt rs st (k+j) (v+1) i)=_;rw[if_neg O]
def IG(rs:List (List Tm))(st:List Rat)(v:Nat):Se:=λi=>Tt rs st i v i
theorem vu(rs:List (List Tm))(st:List Rat)(k v:Nat):Up k (IG rs st v) (Tt rs st k v):=λi hi=>by
 have:=QGz rs st i v (k-i) i (aa _);rw[show i+(k-i)=k by omega]at this;exact this.symm
theorem QA0{rs:List (List Tm)}{st:List Rat}(a:∀p∈rs,vA (rs.length+1) p):Sol rs st (IG rs st) where
 t:=ext λk=>by cases k<;>rfl
 st:=λv hv=>rfl
 ode:=λv hv=>ext λk=>by
  show((k+1:Nat):Rat)*(if k+1=k+1 then(cmp (Tt rs st k) (el rs v)) k/((k+1:Nat):Rat)else _)=_;rw[if_pos rfl,Up.cmp (n:=k) (m:=rs.length+1) (W:=IG rs st) (V:=Tt rs st k) (λu hu=>vu rs st k u) (a _ (Qy hv)) k (aa _)];have:((k+1:Nat):Rat)≠0:=by
   intro e;have:=Rat.natCast_inj.1 (show((k+1:Nat):Rat)=((0:Nat):Rat)from e);omega
  rw[eM];exact Rat.div_mul_cancel this
def Gr(N:Nat->Nat)(be b n:Nat)(a:Se):Prop:=∀k,k<n->Cl (N k) 1 (be*k+b) (a k)
section
variable{N M R:Nat->Nat}{be b c n:Nat}{a a':Se}
def Gr.mono(h:Gr N be b n a)(h0:∀k,0<M k)(hd:∀k,N k ∣ M k)(hb:b<=c):Gr M be c n a:=λk hk=>(h k hk).dvd (h0 k) (hd k) O
def QFP(ha:Gr N be b n a)(hb:Gr M be c n a')(h0:∀k,0<R k)(d:∀i j,N i*M j ∣ R (i+j)){m:Nat}(hm:m<n):∀i,i<=n->Cl (R m) 1 (be*m+(b+c)+i) (pr a a' m i)
 |0,_=>Cl.zero 1 _
 |i+1,hi=>by
  have ih:=QFP ha hb h0 d hm i O;rw[pr];by_cases h:i<=m
  ·rw[if_pos h];have h1:=((ha i O).gn (hb (m-i) O)).dvd (h0 m) (by have:=d i (m-i);rwa [show i+(m-i)=m by omega]at this) (c:=be*m+(b+c)+i) (by
    have:be*m=be*i+be*(m-i):=by rw[<-eW];congr 1;omega
    omega)
   exact ih.add (h0 m) h1
  rw[if_neg h,bA];exact ih.mono (h0 m) (aa _) O
theorem Gr.mul(ha:Gr N be b n a)(hb:Gr M be c n a')(h0:∀k,0<R k)(d:∀i j,N i*M j ∣ R (i+j)):Gr R be (b+c+n) n (a*a'):=λm hm=>by
 rw[<-gP a a' m hm];exact(QFP ha hb h0 d hm n (aa _)).mono (h0 m) (aa _) O
def Gr.add(h0:∀k,0<R k)(ha:Gr R be b n a)(hb:Gr R be b n a'):Gr R be (b+1) n (a+a'):=λk hk=>by
 have:=(ha k hk).add (h0 k) (hb k hk);exact this.mono (h0 k) (aa _) O
theorem Gr.con{r:Rat}(h:Cl (N 0) 1 b r):Gr N be b n (C r):=λk hk=>by
 cases k with
 |zero=>show Cl _ _ _ (if 0=0 then r else 0);rw[if_pos rfl];rwa [aY,ao]
 |succ k=>show Cl _ _ _ (if k+1=0 then r else 0);rw[if_neg O];exact Cl.zero 1 _
structure QHB(A B:Se)(n:Nat):Prop where
 a:∀i,i<n->J6 (A i)<=100000000
 b:∀i,i<n->J6 (B i)<=100000000
 ab:∀i j,i<n->j<n->J6 (A i*B j)<=100000000
 p:∀m i,m<n->i<=n->J6 (pr A B m i)<=100000000
def Gr.sz{Z:Nat}(h:Gr N be b n a)(h0:∀k,0<N k)(hz:∀k,k<n->sz ((N k:Nat):Int)<=Z){k:Nat}(hk:k<n):J6 (a k)<=be*n+b+Z+2:=by
 have h1:=(h k hk).J6 (h0 k);have h2:=hz k hk;have h3:be*k<=be*n:=ah _ O;omega
theorem QHB.of{Z Y X:Nat}(ha:Gr N be b n a)(hb:Gr M be c n a')(f:∀k,0<N k)(hm:∀k,0<M k)(h0:∀k,0<R k)(h:∀i j,N i*M j ∣ R (i+j))(hz:∀k,k<n->sz ((N k:Nat):Int)<=Z)(hy:∀k,k<n->sz ((M k:Nat):Int)<=Y)(hx:∀k,k<n->sz ((R k:Nat):Int)<=X)
  (o:be*n+b+c+n+Z+Y+X<=40000000):QHB a a' n where
 a:=λi hi=>wg<|ha.sz f hz hi
 b:=λi hi=>wg<|hb.sz hm hy hi
 ab:=λi j hi g=>by have h1:=ha.sz f hz hi;have h2:=hb.sz hm hy g;have:=BN (a i) (a' j);omega
 p:=λm i d hi=>by
  have h1:=(QFP ha hb h0 h d i hi).J6 (h0 m);have h2:=hx m d;have h3:be*m<=be*n:=ah _ O;omega
end
def vF(W:Nat->Se)(c:Rat)(ks:List Int)(v e:Nat):Se:=C c*(zY W ks v*pw (W v) e)
def j6(W:Nat->Se)(c:Rat)(ks:List Int)(v e:Nat):vF W c ks v e*W v=vF W c ks v (e+1):=by
 unfold vF;rw[pw];ac_rfl
def QCo(W:Nat->Se)(c:Rat)(ks:List Int)(v:Nat):vF W c ks v (Qg ks v).toNat=vF W c ks (v+1) 0:=by
 unfold vF;rw[pw,mul_one];rfl
def uh(W:Nat->Se)(c:Rat)(ks:List Int):vF W c ks 0 0=C c:=by
 unfold vF;rw[zY,pw,mul_one,mul_one]
def QAM(W:Nat->Se){l:List Tm}{j:Nat}(a:j<l.length)(d:Tm)(hd:l[j]?=some d):cmp W (l.take (j+1))=cmp W (l.take j)+C d.1*zY W d.2 d.2.length:=by
 rw[List.take_succ,hd];show cmp W (l.take j++[d])=_;rw[QIn];show _+(C d.1*zY W d.2 d.2.length+LQ)=_;rw[QMi]
structure QHS(W:Nat->Se)(L:List Tm)(N n:Nat):Prop where
 l:∀t∈L,t.2.length=N/\PW t.2
 c:∀t∈L,J6 t.1<=100000000
 p:∀t∈L,∀v,v<N->∀e,e<(Qg t.2 v).toNat->QHB (vF W t.1 t.2 v e) (W v) n
 s:∀t∈L,∀i,i<n->J6 ((C t.1*zY W t.2 N) i)<=100000000
 z:∀j,j<=L.length->∀i,i<n->J6 (cmp W (L.take j) i)<=100000000
def QL1{F G E al s k:Nat}{f g e:Nat}(a:sz ((F:Nat):Int)<=f)(hg:sz ((G:Nat):Int)<=g)(he:sz ((E:Nat):Int)<=e):sz ((mN F G E al s k:Nat):Int)<=f+(k*g+1)+((al*k+s)*e+1):=by
 unfold mN;have h1:=vD F (G^k*E^(al*k+s));have h2:=vD (G^k) (E^(al*k+s));have h3:=qg G k;have h4:=qg E (al*k+s);have h5:k*sz ((G:Nat):Int)<=k*g:=ah _ hg;have h6:(al*k+s)*sz ((E:Nat):Int)<=(al*k+s)*e:=ah _ he;omega
section
variable{F G E be al B n:Nat}{W:Nat->Se}(hF:0<F)(hG:0<G)(hE:0<E)
include hF hG hE
theorem QAx{Bc:Nat}{c:Rat}{ks:List Int}{m:Nat}(hc:Cl F 1 Bc c)(a:∀v,v<m->Gr (sN G E al) be B n (W v)):∀v,v<=m->Gr (mN F G E al (ZW ks v)) be (Bc+ZW ks v*(B+n)) n (vF W c ks v 0)/\∀e,v<m->Gr (mN F G E al (ZW ks v+e)) be (Bc+(ZW ks v+e)*(B+n)) n (vF W c ks v e)
 |0,h=>by
  have h0:Gr (mN F G E al 0) be Bc n (vF W c ks 0 0):=by
   rw[uh];refine Gr.con (hc.dvd (GV hF hG hE 0 0) ?_ (aa _));unfold mN;exact bF _ _
  have e0:ZW ks 0=0:=rfl;refine⟨by rw[e0];simpa using h0,λe hv=>?_⟩;rw[e0,ao]
  induction e with
  |zero=>simpa using h0
  |succ e ih =>
   rw[<-j6];have:=Gr.mul ih (a 0 hv) (GV hF hG hE (e+1)) (dA (F:=F) (G:=G) (E:=E) (al:=al) e);refine this.mono (GV hF hG hE _) (λ_=>ar _) ?_;rw[aM,bD];omega
 |v+1,h=>by
  have ih:=(QAx (ks:=ks) hc a v O).2 (Qg ks v).toNat O;rw[QCo]at ih;have e0:ZW ks (v+1)=ZW ks v+(Qg ks v).toNat:=rfl;have h0:Gr (mN F G E al (ZW ks (v+1))) be (Bc+ZW ks (v+1)*(B+n)) n (vF W c ks (v+1) 0):=by rw[e0];exact ih
  refine⟨h0,λe hv=>?_⟩
  induction e with
  |zero=>exact h0
  |succ e ih =>
   rw[<-j6];have:=Gr.mul ih (a (v+1) hv) (GV hF hG hE (ZW ks (v+1)+e+1)) (dA (F:=F) (G:=G) (E:=E) (al:=al) (ZW ks (v+1)+e));refine this.mono (GV hF hG hE _) (λ_=>ar _) ?_;rw[<-bU,aM (ZW ks (v+1)+e),bD];omega
end
end Se
end Go.Proofs.YtogkbhegfnklhaaGreatDoor
namespace Go.Proofs.YtogkbhegfnklhaaGreatDoor
variable{B L b c i j k m n o off z:Nat}{cs:List Value}{s:List UInt8×List UInt8}{y:YA}{w:World}{F:Gs}{l:List (List UInt8×List UInt8)}{vb:List Xf}{x:Rat}{all:List (List Xf)}{xs:List (Fr×Rat)}{S:World->Prop}{A:Se}
open Go.RowKit Ig
def Cl.divN{D m:Nat}(h:Cl D 1 b x)(hm:0<m):Cl (D*m) 1 b (x/((m:Nat):Rat)):=by
 have h1:Cl m 1 0 (Rat.divInt 1 ((m:Nat):Int)):=⟨1,by rw[au],by rw[eO,bD,au];exact hm⟩;have h2:=h.gn h1;rw[aZ]at h2;have e:x/((m:Nat):Rat)=x*Rat.divInt 1 ((m:Nat):Int):=by
  rw[eU,<-bQ,Rat.divInt_eq_div,eU,Rat.intCast_one,fy]
 rw[e];exact h2
namespace Se
section
variable{F G E al be B Bc n:Nat}{W:Nat->Se}(hF:0<F)(hG:0<G)(hE:0<E)
include hF hG hE
theorem QKi{s t:Nat}(h:s<=t)(k:Nat):mN F G E al s k ∣ mN F G E al t k:=by
 unfold mN;exact bL (ar _) (bL (ar _) (fg E O))
theorem QCj{t:Tm}{N s:Nat}(hc:Cl F 1 Bc t.1)(b:t.2.length=N)(a:ZW t.2 N<=s)(c:∀v,v<N->Gr (sN G E al) be B n (W v)):Gr (mN F G E al s) be (Bc+s*(B+n)) n (C t.1*zY W t.2 t.2.length):=by
 have h:=(QAx hF hG hE (ks:=t.2) (m:=N) hc c N (aa _)).1;have e:vF W t.1 t.2 N 0=C t.1*zY W t.2 t.2.length:=by
  unfold vF;rw[b,pw,mul_one]
 rw[e]at h;exact h.mono (GV hF hG hE s) (QKi hF hG hE a) (Nat.add_le_add_left (ae _ a) _)
structure TmK(F Bc N s:Nat)(L:List Tm):Prop where
 c:∀t∈L,Cl F 1 Bc t.1
 l:∀t∈L,t.2.length=N
 s:∀t∈L,ZW t.2 N<=s
omit hF hG hE in
theorem TmK.tail{N s:Nat}{t:Tm}{L:List Tm}(h:TmK F Bc N s (t::L)):TmK F Bc N s L:=⟨λx hx=>h.c x (aK _ hx),λx hx=>h.l x (aK _ hx),λx hx=>h.s x (aK _ hx)⟩
omit hF hG hE in
theorem TmK.take{N s:Nat}{L:List Tm}(h:TmK F Bc N s L)(j:Nat):TmK F Bc N s (L.take j):=⟨λx hx=>h.c x (bP hx),λx hx=>h.l x (bP hx),λx hx=>h.s x (bP hx)⟩
theorem QCB{N s:Nat}(a:∀v,v<N->Gr (sN G E al) be B n (W v)):∀ {L:List Tm},TmK F Bc N s L->Gr (mN F G E al s) be (Bc+s*(B+n)+L.length) n (cmp W L)
 |[],_=>λk hk=>Cl.zero 1 _
 |t::L,h=>by
  have h1:=QCj hF hG hE (s:=s) (h.c t wu) (h.l t wu) (h.s t wu) a;have h2:=QCB a h.tail;have h0:=GV (al:=al) hF hG hE s;exact Gr.add h0 (h1.mono (c:=Bc+s*(B+n)+L.length) h0 (λ_=>ar _) (Nat.le_add_right _ _)) h2
theorem QHS.of{N s T f g e:Nat}{L:List Tm}(d:∀v,v<N->Gr (sN G E al) be B n (W v))(h:TmK F Bc N s L)(hp:∀t∈L,PW t.2)(z:L.length<=T)(w:sz ((F:Nat):Int)<=f)(hg:sz ((G:Nat):Int)<=g)(he:sz ((E:Nat):Int)<=e)
  (hz:be*n+Bc+s*(B+n)+T+B+n+3*(f+(n*g+1)+((al*n+s+1)*e+1))<=40000000):QHS W L N n:=by
 have hm:∀a k,a<=s+0->k<n->sz ((mN F G E al a k:Nat):Int)<=f+(n*g+1)+((al*n+s+1)*e+1):=λa k h1 hk=>by
  have h2:=QL1 (al:=al) (s:=a) (k:=k) w hg he;have h3:k*g<=n*g:=ae _ O;have h4:(al*k+a)*e<=(al*n+s+1)*e:=ae _ (by have:=ah al (show k<=n by omega);omega);omega
 have o:∀k,k<n->sz ((sN G E al k:Nat):Int)<=f+(n*g+1)+((al*n+s+1)*e+1):=λk hk=>by
  have h2:=vD (G^k) (E^(al*k+1));have h5:=qg G k;have h6:=qg E (al*k+1);have h3:k*sz ((G:Nat):Int)<=n*g:=ay O hg;have h4:(al*k+1)*sz ((E:Nat):Int)<=(al*n+s+1)*e:=ay (by have:=ah al (show k<=n by omega);omega) he;unfold sN;omega
 have hk:∀t∈L,∀v,v<=N->ZW t.2 v<=s:=λt ht v hv=>aC (Rf t.2 hv) (h.s t ht);refine⟨λt ht=>⟨h.l t ht,hp t ht⟩,λt ht=>?_,λt ht v hv b x=>?_,λt ht i hi=>?_,λj y i hi=>?_⟩
 ·have:=(h.c t ht).J6 hF;omega
 ·have h1:=(QAx hF hG hE (ks:=t.2) (m:=N) (h.c t ht) d v O).2 b hv;have h2:ZW t.2 v+b+1<=s:=by
   have:=hk t ht (v+1) O;have H:ZW t.2 (v+1)=ZW t.2 v+(Qg t.2 v).toNat:=rfl;omega
  have h3:(ZW t.2 v+b)*(B+n)<=s*(B+n):=ae _ O;exact QHB.of h1 (d v hv) (GV hF hG hE _) (O4 hG hE) (GV hF hG hE (ZW t.2 v+b+1)) (dA (F:=F) (G:=G) (E:=E) (al:=al) (ZW t.2 v+b)) (λk hk=>hm _ k O hk) o (λk hk=>hm _ k O hk) O
 ·have h1:=QCj hF hG hE (s:=s) (h.c t ht) (h.l t ht) (h.s t ht) d;rw[h.l t ht]at h1;have:=h1.sz (GV hF hG hE s) (λk hk=>hm s k O hk) hi;omega
 have h1:=QCB hF hG hE d (h.take j);have:=h1.sz (GV hF hG hE s) (λk hk=>hm s k O hk) hi;have:(L.take j).length<=L.length:=by rw[er];omega
 omega
theorem QE3{Iv d T o:Nat}{rs:List (List Tm)}{st:List Rat}(b:G=F*Iv)(g:∀k,k<o->(k+1) ∣ Iv)(hd:d<=al+1)(hr:∀p∈rs,TmK F Bc (rs.length+1) d p/\p.length<=T)(a:∀v,v<rs.length->Cl E 1 B (el st v))(f:Bc+d*(B+o)+T<=be+B):
  ∀n,n<=o+1->∀v,v<=rs.length->Gr (sN G E al) be B n (IG rs st v)
 |0,_,v,_=>λk hk=>absurd hk (eD k)
 |n+1,w,v,hv=>by
  have ih:=QE3 b g hd hr a f n O;intro k hk;by_cases c:k<n
  ·exact ih v hv k c
  obtain rfl:k=n:=O;have hp:=O4 (al:=al) hG hE;cases v with
  |zero =>
   show Cl _ _ _ (Tt rs st k 0 k);rw[QAR];show Cl _ _ _ (if k=1 then 1 else 0);split
   ·exact Cl.one 1 _ (hp k)
   exact Cl.zero 1 _
  |succ v =>
   cases k with
   |zero =>
    refine(a v O).dvd (hp 0) ?_ O;unfold sN;rw[eO,bD,aY,ao,au];exact ar _
   |succ k =>
    have i:∀u,u<rs.length+1->Gr (sN G E al) be B (k+1) (IG rs st u):=λu hu=>ih u O;obtain⟨h1,h2⟩:=hr _ (Qy (show v<rs.length by omega));have h3:=QCB hF hG hE i h1 k O;have e:IG rs st (v+1) (k+1)=cmp (IG rs st) (el rs v) k/((k+1:Nat):Rat):=by
     rw[Up.cmp (n:=k) (m:=rs.length+1) (W:=IG rs st) (V:=Tt rs st k) (λu hu=>vu rs st k u) h1.l k (aa _)];show(if k+1=k+1 then _ else _)=_;rw[if_pos rfl]
    rw[e];have h4:Cl (mN F G E al d k*(k+1)) 1 (be*k+(Bc+d*(B+(k+1))+(el rs v).length)) (cmp (IG rs st) (el rs v) k/((k+1:Nat):Rat)):=Cl.divN h3 O;refine h4.dvd (hp (k+1)) ?_ ?_
    ·obtain⟨q,h⟩:=g k O;have j:G^(k+1)=G^k*(F*((k+1)*q)):=by rw[fu,<-h,<-b]
     refine⟨q*E^(al+1-d),?_⟩;unfold mN sN;rw[j,show al*(k+1)+1=(al*k+d)+(al+1-d) by rw[ee];omega,eB]
     ac_rfl
    have h5:d*(B+(k+1))<=d*(B+o):=ah _ O;rw[ee];omega
end
end Se
end Go.Proofs.YtogkbhegfnklhaaGreatDoor
namespace Go.Proofs.YtogkbhegfnklhaaGreatDoor
variable{B L b c i j k m n o off z:Nat}{cs:List Value}{s:List UInt8×List UInt8}{y:YA}{w:World}{F:Gs}{l:List (List UInt8×List UInt8)}{vb:List Xf}{x:Rat}{all:List (List Xf)}{xs:List (Fr×Rat)}{S:World->Prop}{A:Se}
open Go.RowKit Ig
def Rdb(E:Env)(b off:Nat)(cs:List Value):Prop:=∀w,St E w->∀j v,cs[j]?=some v->w.cell? ⟨b,off+j,none⟩=some v
section
variable{P:Program}{N:Nat}{m:Sl}{E E0:Env}{w0:World}{F0:Gs}{bs:List (Nat×Obj)}{G:Gs->Prop}{ty:TypeId}
def Rdb.to(h:Rdb E0 b off cs)(c:∀w,St E w->St E0 w):Rdb E b off cs:=λw a=>h w (c w a)
theorem Rdb.own{T:TypeId}{fr:Nat×Nat}(hm:(b,Obj.cells cs.toArray T fr)∈bs):Rdb ⟨w0,F0,bs,G⟩ b 0 cs:=λw a j v hv=>by
 obtain⟨F,a⟩:=a;rw[Xe (a.bx _ hm).1,ao];exact hv
def vK{T:TypeId}{x:Operand}{vs:List Value}(j:Nat)(hr:Rdb E0 b off cs)(f:∀w,St E w->St E0 w)(hx:ev m x=some (.pointer (some ⟨b,off+j,none⟩)))(ht:Zm P T=some (true,k))(d:vs.length=k)(hu:∀i v,vs[i]?=some v->cs[j+i]?=some v):Qt P N m (St E) (.load T x) ty (.agg vs.toArray):=λa w _ _ _ _ ha c=>by
 have:=YH ht d (w:=w) (b:=b) (off:=off+j) (λi v hv=>by rw[bU];exact hr w (f w c) (j+i) v (hu i v hv));simp[execOp,ha.ev hx,Instr.loadAt,Instr.sureAddr,this]
end
def QIX(p:Fr×Rat):(GN p.1).length=4:=rfl
def Cx(h:i<xs.length):∀j v,(GN (el xs i).1)[j]?=some v->(YO xs)[i*4+j]?=some v:=λj v hv=>JX (f:=λp:Fr×Rat=>GN p.1) QIX h hv
def Ru(hi:i<xs.length)(x:Fr)(r:Rat):Yz (YO xs) (0+i*4) (GN x) (YO (xs.set i (x,r))):=by
 have e0:xs=xs.take i++el xs i::xs.drop (i+1):=by rw[<-Mz hi,eP]
 have b:xs.set i (x,r)=xs.take i++(x,r)::xs.drop (i+1):=by
  rw[bW,if_pos hi]
 have a:YO xs=YO (xs.take i)++(GN (el xs i).1++YO (xs.drop (i+1))):=by
  conv=>lhs;rw[e0]
  unfold YO;rw[eY,aH]
 have e3:YO (xs.set i (x,r))=YO (xs.take i)++(GN x++YO (xs.drop (i+1))):=by
  rw[b];unfold YO;rw[eY,aH]
 rw[a,e3,show 0+i*4=(YO (xs.take i)).length by rw[Ah,er];omega];exact BO I
def Vp.el(h:Vp F xs){i:Nat}(hi:i<xs.length):Ja F (el xs i).1 (el xs i).2:=h _ (Qy hi)
def Vp.set(h:Vp F xs){x:Fr}{r:Rat}(hx:Ja F x r)(i:Nat):Vp F (xs.set i (x,r)):=λp hp=>by
 rcases eF hp with hp | rfl
 ·exact h p hp
 exact hx
def Fe(hi:i<xs.length)(x:Fr×Rat)(j:Nat):el (xs.set i x) j=if j=i then x else el xs j:=by
 unfold el;rw[List.getD_eq_getElem?_getD,List.getD_eq_getElem?_getD,List.getElem?_set];by_cases e:i=j
 ·subst e;rw[if_pos rfl,if_pos hi,if_pos rfl];rfl
 rw[if_neg e,if_neg (λh=>e h.symm)]
structure FzI(n:Nat) where
 i:Nat
 xs:List (Fr×Rat)
 le:i<=n
 hx:xs.map (·.2)=bO i 0
def FzI.len(s:FzI n):s.xs.length=s.i:=by
 have:=congrArg eQ s.hx;simpa using this
abbrev Zs(n:Nat):={c:Nat×List (Fr×Rat) // c.2.map (·.2)=bO n 0}
def Zs.len(c:Zs n):c.1.2.length=n:=by
 have:=congrArg eQ c.2;simpa using this
theorem Zs.at(c:Zs n){i:Nat}(hi:i<n):(el c.1.2 i).2=0:=by
 have a:=c.len;have h:=congrArg (λl=>l[i]?) c.2;simp only[List.getElem?_map,List.getElem?_replicate,hi,if_true]at h;rw[List.getElem?_eq_getElem O]at h;rw[JB O];simpa using h
section
variable{w0:World}{F0:Gs}{bs:List (Nat×Obj)}{G:Gs->Prop}
theorem jG{n:Nat}(h1:1<=n)(x:n<=1000000):Jy prog 82 [.int .i64 (n:Int)] ⟨w0,F0,bs,G⟩ (λ(c:Zs n)=>.slice (some ⟨c.1.1,0,none⟩) n n) (λc=>⟨w0,F0,(c.1.1,.cells (YO c.1.2).toArray 87 (0,0))::bs,λF=>G F/\Vp F c.1.2⟩):=by
 refine Jy.intro func82 rfl wm rfl rfl<|QNz<|wQ rfl<|wR rfl<|Gf (n:=n) (bytes:=64) rfl rfl Zg Qm Yu rfl QJV O O λm=>Vz (E':=⟨w0,F0,(m,.cells (YO []++Jz zFr (n-0)).toArray 87 (0,0))::bs,G⟩) w6<|wQ rfl<|QG<|wR rfl<|QA (Qb rfl Zg)<|QMu rfl<|QMt<|QQ<|Jf (ι:=FzI n) [(3,_),(8,_)] (λi=>[(9,.int .i64 ((i.i:Nat):Int))]) (λi=>(m,.cells (YO i.xs++Jz zFr (n-i.i)).toArray 87 (0,0))::bs) (λi F=>Vp F i.xs) (λi=>n-i.i) (⟨0,[],aq _,rfl⟩) wT wS QNG (λ_ _ _ h=>by cases h) λi=>?_
 have hi:=i.le;refine wA 6 I ?_;refine QP I (λb=>?_) λb=>?_
 ·have d:i.i<n:=wg<|QOW b
  refine QOn 13 I<|QL I (λ_ _ f k=>f_g (n:=0) f O O) λa=>QA (Ql (i:=i.i) rfl rfl Zg Qm O)<|QV (vs:=GN a) rfl rfl rfl Qm I .here (QCz i.len O a ((0:Int):Rat)) wV<|QE<|Qf<|QD<|QB<|QA (Qk I I O)<|wB 2 I ?_
  exact Qh (⟨i.i+1,i.xs++[(a,((0:Int):Rat))],d,by rw[az,i.hx,List.replicate_succ'];rfl⟩) (by show n-(i.i+1)<n-i.i;omega) wU QNG (λF ⟨⟨w,o⟩,j⟩=>⟨w,λp hp=>by
   rcases List.mem_append.1 hp with hp | hp
   ·exact o p hp
   rw[List.mem_singleton.1 hp];exact j⟩)
 have g:i.i=n:=wg<|QOX b
 refine Q7 ?_;refine QG<|QB ?_
 have hz:Jz zFr (n-i.i)=[]:=by rw[show n-i.i=0 from by omega];rfl
 rw[hz,List.append_nil];refine QOm 5 I ?_;exact Zr (⟨(m,i.xs),by show i.xs.map (·.2)=_;rw[i.hx,g]⟩) I (wN I) rfl w6
structure QAZ(xs:List (Fr×Rat))(A:Se)(n:Nat):Prop where
 len:n<=xs.length
 at_:∀i,i<n->(el xs i).2=A i
abbrev Ps(A:Se)(n:Nat):={c:Nat×List (Fr×Rat) // c.2.length=n/\QAZ c.2 A n}
structure PdI(A B:Se)(n:Nat) where
 i:Nat
 xs:List (Fr×Rat)
 le:i<=n
 hl:xs.length=n
 hx:∀m,m<n->(el xs m).2=Se.pr A B m i
structure PdJ(A B:Se)(n i:Nat) where
 k:Nat
 xs:List (Fr×Rat)
 le:k<=n-i
 hl:xs.length=n
 hx:∀m,m<n->(el xs m).2=if i<=m/\m<i+k then Se.pr A B m (i+1)else Se.pr A B m i
def QHz{B:Se}(hx:∀m,m<n->(el xs m).2=if i<=m/\m<i+(n-i)then Se.pr A B m (i+1)else Se.pr A B m i):∀m,m<n->(el xs m).2=Se.pr A B m (i+1):=λm hm=>by
 rw[hx m hm];by_cases h:i<=m
 ·rw[if_pos O]
 rw[if_neg O,Se.pr,if_neg h,bA]
def QFW{B:Se}(hi:i+k<n)(a:xs.length=n)(hx:∀m,m<n->(el xs m).2=if i<=m/\m<i+k then Se.pr A B m (i+1)else Se.pr A B m i)(x:Fr):∀m,m<n->(el (xs.set (i+k) (x,Se.pr A B (i+k) i+A i*B k)) m).2=if i<=m/\m<i+(k+1)then Se.pr A B m (i+1)else Se.pr A B m i:=λm hm=>by
 rw[Fe O];by_cases e:m=i+k
 ·subst e;rw[if_pos rfl,if_pos O,Se.pr,if_pos O,show i+k-i=k by omega]
 rw[if_neg e,hx m hm];by_cases h:i<=m/\m<i+k
 ·rw[if_pos h,if_pos O]
 rw[if_neg h,if_neg O]
theorem QDj{B:Se}{nb ba oa ca bb ob cb:Nat}{xa xb:List (Fr×Rat)}(h1:1<=n)(hn:n<=1000000)(hnb:n<=nb)(hcb:nb<=cb)(hA:Rdb ⟨w0,F0,bs,G⟩ ba oa (YO xa))(hB:Rdb ⟨w0,F0,bs,G⟩ bb ob (YO xb))(ha:QAZ xa A n)(hb:QAZ xb B n)(hX:∀F,G F->Vp F xa/\Vp F xb)(hz:Se.QHB A B n):
  Jy prog 160 [.slice (some ⟨ba,oa,none⟩) n ca,.slice (some ⟨bb,ob,none⟩) nb cb] ⟨w0,F0,bs,G⟩ (λ(c:Ps (A*B) n)=>.slice (some ⟨c.1.1,0,none⟩) n n) (λc=>⟨w0,F0,(c.1.1,.cells (YO c.1.2).toArray 87 (0,0))::bs,λF=>G F/\Vp F c.1.2⟩):=by
 have hal:=ha.len;have hbl:=hb.len;refine Jy.intro func160 rfl wm rfl rfl<|QNz<|wQ rfl<|wR rfl<|QA (Qb rfl Zg)<|Xv rfl (aS _) (jG h1 hn) λz=>?_
 have L:=z.len;refine QOm 7 I<|QA (Qb I Zg)<|QOm 4 I<|Jf (ι:=PdI A B n) [(0,_),(1,_),(5,_),(13,_),(14,_)] (λi=>[(15,.int .i64 ((i.i:Nat):Int))]) (λi=>(z.1.1,.cells (YO i.xs).toArray 87 (0,0))::bs) (λi F=>Vp F i.xs) (λi=>n-i.i) (⟨0,z.1.2,aq _,L,λm hm=>z.at hm⟩) wW wS QNG w8 λi=>?_
 have hi:=i.le;have o:=i.hl;refine wA 6 I ?_;refine QP I (λy=>?_) λy=>?_
 ·have g:i.i<n:=wg<|QOW y
  have K:∀F,Vp F xa->Ja F (el xa i.i).1 (A i.i):=λF h=>by rw[<-ha.at_ _ g];exact h.el O
  refine QOn 7 I<|QA (Ql (i:=i.i) rfl rfl Zg Qm O)<|QA (vK (i.i*4) hA (λw h=>h.imp (aj _ _) λ_ h=>h.1.1) I Qm (vs:=GN (el xa i.i).1) rfl (Cx O))<|Qe Yu λb7=>QMv I<|QV (vs:=[_,_,_,_]) I I I Qm I .here .h4 wV<|QOm 5 I<|QA (wJ I Qm .here)<|QL I (λ_ F f k=>jO f (K F (hX F k.1.1).1)) λ_=>QOm 3 I ?_
  refine QP I (λH=>?_) λH=>?_
  ·have hA0:A i.i=0:=Li.1 (by have:=QOW H;simpa using this);refine Q7 ?_;refine QB<|QA (Qk I I O)<|wB 2 I ?_
   exact Qh (⟨i.i+1,i.xs,g,o,λm hm=>by rw[i.hx m hm,Se.QHv hA0]⟩) (by show n-(i.i+1)<n-i.i;omega) wX (aj _ _) λF h=>⟨h.1.1,h.1.2⟩
  refine QN ?_;refine QOo 5 I<|QA (Qb I Zg)<|QMu I<|QA (Jv I I O)<|QA (MQ (n-i.i) rfl rfl wM Zg Qm O)<|QA (Qb I Zg)<|QOm 4 I<|Jf (ι:=PdJ A B n i.i) [(0,_),(1,_),(5,_),(6,_),(7,_),(13,_),(14,_),(15,_),(28,_),(29,_)] (λk=>[(30,.int .i64 ((k.k:Nat):Int))]) (λk=>(b7,.cells (GN (el xa i.i).1).toArray 87 (0,0))::(z.1.1,.cells (YO k.xs).toArray 87 (0,0))::bs) (λk F=>Vp F k.xs) (λk=>n-i.i-k.k) (⟨0,i.xs,aq _,o,λm hm=>by rw[if_neg O];exact i.hx m hm⟩) wb wS QNG (λ_ h=>h.1.2) λk=>?_
  have hk:=k.le;have j:=k.hl;refine wA 6 I ?_;refine QP I (λx=>?_) λx=>?_
  ·have hlt2:k.k<n-i.i:=wg<|QOW x
   have Y:∀F,Vp F xb->Ja F (el xb k.k).1 (B k.k):=λF h=>by rw[<-hb.at_ _ O];exact h.el O
   have U:∀F,Vp F k.xs->Ja F (el k.xs (i.i+k.k)).1 (Se.pr A B (i.i+k.k) i.i):=λF h=>by
    have h1:=k.hx (i.i+k.k) O;rw[if_neg O]at h1;rw[<-h1];exact h.el O
   refine QOn 7 I<|QA (Ql (i:=k.k) rfl rfl Zg Qm O)<|QA (vK (k.k*4) hB (λw h=>h.imp (.cons _ (aj _ _)) λ_ h=>h.1.1.1.1) I Qm (vs:=GN (el xb k.k).1) rfl (Cx O))<|Qe Yu λb9=>QMv I<|QV (vs:=[_,_,_,_]) I I I Qm I .here .h4 wV<|QMt<|Jq 15 QNG mixed wi wi ?_
   simp only[eX,eE,eZ,fh];refine QK (QC I)<|QK (QC I)<|QK (QC I)<|QK (Qk I I O)<|QK (QC I)<|QK (QC I)<|QK (QC I)<|QK (Qk I I O)<|QK (Ql (i:=i.i+k.k) rfl wM Zg Qm O)<|QK (DR (vs:=GN (el k.xs (i.i+k.k)).1) rfl Qm .u2 rfl (by rw[ao];exact Cx O))<|QK (wJ I Qm .u1)<|QK (wJ I Qm .here)<|QZ I (λ_ F f h=>EN f (K F (hX F h.1.1.1.1).1) (Y F (hX F h.1.1.1.1).2) (hz.a _ O) (hz.b _ O)) λx47=>QZ I (λ_ F f h=>RJ f (U F h.1.2) h.2 (hz.p _ _ O O) (hz.ab _ _ O O)) λd=>QK (Ql (i:=i.i+k.k) rfl wM Zg Qm O)<|Zf<|QV (vs:=GN d) rfl rfl rfl Qm I .u2 (Ru O d (Se.pr A B (i.i+k.k) i.i+A i.i*B k.k)) wV<|QE<|Qf<|QD<|QB<|QA (Qk I I O)<|wB 2 I ?_
   exact Qh (⟨k.k+1,k.xs.set (i.i+k.k) (d,_),O,by rw[aA];exact j,QFW O j k.hx d⟩) (by show n-i.i-(k.k+1)<n-i.i-k.k;omega) wc (aj _ _) λF h=>⟨h.1.1.1,h.1.1.2.set h.2 _⟩
  have E:k.k=n-i.i:=wg<|QOX x
  refine Q7 ?_;refine QB<|QA (Qk I I O)<|wB 2 I ?_
  exact Qh (⟨i.i+1,k.xs,g,j,QHz (by have:=k.hx;rw[E]at this;exact this)⟩) (by show n-(i.i+1)<n-i.i;omega) wX (aj _ _) λF h=>⟨h.1.1.1,h.2⟩
 have X:i.i=n:=wg<|QOX y
 refine Q7 ?_;refine wA 7 I ?_;exact Zr (⟨(z.1.1,i.xs),o,by show n<=i.xs.length;omega,λm hm=>by show(el i.xs m).2=_;rw[i.hx m hm,X,Se.gP _ _ _ hm]⟩) I (wN I) rfl λw h=>h.GW λF h=>⟨h.1.1,h.2⟩
end
theorem UE:GZ prog 70=some 72:=wi
structure Rw where
 b:Nat
 cap:Nat
 xs:List (Fr×Rat)
variable{rl:List Rw}
instance :Inhabited Rw:=⟨⟨0,0,[]⟩⟩
def Rw.v(r:Rw)(n:Nat):Value:=.slice (some ⟨r.b,0,none⟩) n r.cap
structure QMq(E:Env)(rl:List Rw)(W:Nat->Se)(N n:Nat):Prop where
 len:rl.length=N
 rd:∀v,v<N->Rdb E (el rl v).b 0 (YO (el rl v).xs)
 at_:∀v,v<N->QAZ (el rl v).xs (W v) n/\n<=(el rl v).cap
structure CoI(W:Nat->Se)(L:List Tm)(n:Nat) where
 j:Nat
 xs:List (Fr×Rat)
 le:j<=L.length
 hl:xs.length=n
 hx:∀m,m<n->(el xs m).2=Se.cmp W (L.take j) m
structure CoV(W:Nat->Se)(c:Rat)(ks:List Int)(N n:Nat) where
 v:Nat
 b:Nat
 xs:List (Fr×Rat)
 le:v<=N
 hl:xs.length=n
 hx:QAZ xs (Se.vF W c ks v 0) n
structure CoE(W:Nat->Se)(c:Rat)(ks:List Int)(n v:Nat) where
 e:Nat
 b:Nat
 xs:List (Fr×Rat)
 le:e<=(Qg ks v).toNat
 hl:xs.length=n
 hx:QAZ xs (Se.vF W c ks v e) n
structure CoA(W:Nat->Se)(L:List Tm)(n j:Nat) where
 i:Nat
 xs:List (Fr×Rat)
 le:i<=n
 hl:xs.length=n
 hx:∀m,m<n->(el xs m).2=if m<i then Se.cmp W (L.take (j+1)) m else Se.cmp W (L.take j) m
def QGi{W:Nat->Se}{L:List Tm}{t:Tm}(b:j<L.length)(ht:L[j]?=some t)(hi:i<n)(c:xs.length=n)(hx:∀m,m<n->(el xs m).2=if m<i then Se.cmp W (L.take (j+1)) m else Se.cmp W (L.take j) m){s:Rat}(a:s=(Se.C t.1*Se.zY W t.2 t.2.length) i)(x:Fr):∀m,m<n->(el (xs.set i (x,Se.cmp W (L.take j) i+s)) m).2=if m<i+1 then Se.cmp W (L.take (j+1)) m else Se.cmp W (L.take j) m:=λm hm=>by
 rw[Fe O];by_cases e:m=i
 ·subst e;rw[if_pos rfl,if_pos O,Se.QAM W b t ht,a];rfl
 rw[if_neg e,hx m hm];by_cases h:m<i
 ·rw[if_pos h,if_pos O]
 rw[if_neg h,if_neg O]
theorem QHe(z:Zs n)(W:Nat->Se)(ks:List Int)(x:Fr)(c:Rat):QAZ (z.1.2.set 0 (x,c)) (Se.vF W c ks 0 0) n where
 len:=by rw[aA,z.len];exact aa _
 at_:=λi hi=>by
  rw[Fe (by rw[z.len];omega),Se.uh];show _=(if i=0 then c else 0);by_cases e:i=0
  ·rw[if_pos e,if_pos e]
  rw[if_neg e,if_neg e,z.at hi]
def QJj{ts:List Zl}(a:j<ts.length):(KP ts)[j]?=some (el ts j).t:=by
 unfold KP;rw[List.getElem?_map,List.getElem?_eq_getElem a,JB a];rfl
section
variable{w0:World}{F0:Gs}{bs:List (Nat×Obj)}{G:Gs->Prop}
theorem QEP{W:Nat->Se}{s:Sr}{ts:List Zl}{q:Option Addr}{kc N:Nat}(h1:1<=n)(hn:n<=1000000)(hN:1<=N)(hts:ts.length<=1000000)(hP:∀F,G F->Ws F s ts (KP ts))(hR:∀F,G F->Qz F q N 1 (rl.map λr=>r.v n))(hO:QMq ⟨w0,F0,bs,G⟩ rl W N n)(hX:∀F,G F->∀v,v<N->Vp F (el rl v).xs)(hz:Se.QHS W (KP ts) N n):
  Jy prog 83 [s.v,.slice q N kc] ⟨w0,F0,bs,G⟩ (λ(c:Ps (Se.cmp W (KP ts)) n)=>.slice (some ⟨c.1.1,0,none⟩) n n) (λc=>⟨w0,F0,(c.1.1,.cells (YO c.1.2).toArray 87 (0,0))::bs,λF=>G F/\Vp F c.1.2⟩):=by
 obtain⟨sq,sn,sc⟩:=s;have hrl:=hO.len;have rv:∀v,v<N->(rl.map λr=>r.v n)[v*1]?=some ((el rl v).v n):=λv hv=>X0 (f:=λr:Rw=>r.v n) O;refine Jy.intro func83 rfl wm rfl rfl<|RT (H:=λF=>ts.length=sn) (λF hF=>(hP F hF).2.2.2.2)<|QNz<|wQ rfl<|wR rfl<|QA (Qs (n:=N) 0 (λF h=>hR F h.1) rfl rfl UE Mc O)<|QA (Qu (n:=N) (0*1) (λF h=>hR F h.1) O rfl Mc (rv 0 O))<|QA (Qb rfl Zg)<|wQ rfl<|wR rfl<|Xv rfl (aS _) (jG h1 hn) λz=>?_
 have hzl:=z.len;refine QOm 7 I<|QA (Qb I D9)<|QOm 3 I<|XD _ (λ_ F _ h=>h.1.2) λhsn=>QQ<|Jf (ι:=CoI W (KP ts) n) [(1,_),(5,_),(6,_),(20,_),(21,_)] (λi=>[(22,.int .i64 ((i.j:Nat):Int))]) (λi=>(z.1.1,.cells (YO i.xs).toArray 87 (0,0))::bs) (λi F=>Vp F i.xs) (λi=>ts.length-i.j) (⟨0,z.1.2,aq _,hzl,λm hm=>z.at hm⟩) wW wS QNG w8 λi=>?_
 simp only[aF,bm];have hi:=i.le;rw[GY]at hi;have hil:=i.hl;refine wA 6 I ?_;refine QP I (λhc2=>?_) λhc2=>?_
 ·have hlt:i.j<ts.length:=wg<|QOW hc2
  have K:=Qy hlt;have y:(el ts i.j).t∈KP ts:=aD K;obtain⟨hkl,hpw⟩:=hz.l _ y;have hl1000:=hpw.2;have hcz:=hz.c _ y;refine QOn 6 I<|QA (Qs (n:=sn) (i.j) (λF h=>(hP F h.1.1.1).1) rfl rfl D9 KN O)<|QA (J0 (n:=sn) (vs:=[.int .i64 (el ts (i.j)).x.n.s,.slice (el ts (i.j)).x.n.q (el ts (i.j)).x.n.n (el ts (i.j)).x.n.cap,.int .i64 (el ts (i.j)).x.d.s,.slice (el ts (i.j)).x.d.q (el ts (i.j)).x.d.n (el ts (i.j)).x.d.cap,.slice (el ts (i.j)).r.q (el ts (i.j)).r.n (el ts (i.j)).r.cap]) ((i.j)*5) (λF h=>(hP F h.1.1.1).1) O rfl KN I λj v hv=>JX (f:=GU) (l:=ts) jL O hv)<|Qe D2 λb8=>QV (vs:=[_,_,_,_,_]) I I I KN I .here .h5 wW<|QOm 5 I<|Xv I (aS _) (jG h1 hn) λz2=>?_
  have hzl2:=z2.len;refine QOm 6 I<|QA (QH I P1 Qm)<|QA (wJ I Qm .u1)<|QA (Ql (i:=0) rfl rfl Zg Qm O)<|QV (vs:=GN (el ts i.j).x) rfl rfl rfl Qm I .here (Ru O (el ts i.j).x (el ts i.j).t.1) wV<|QOm 5 I<|QA (QH I P0 Qx)<|QA (Qa I Qx .u1 (.skip (.skip (.skip (.skip .h1)))))<|QA (Qb I Qd)<|QOm 3 I<|XD _ (λ_ F _ h=>((hP F h.1.1.1.1).2.1 _ K).2.2.1) λhrn=>QQ<|Jf (ι:=CoV W (el ts i.j).t.1 (el ts i.j).t.2 N n) [(1,_),(5,_),(6,_),(8,_),(20,_),(21,_),(22,_),(33,_),(34,_)] (λk=>[(9,.slice (some ⟨k.b,0,none⟩) n n),(35,.int .i64 ((k.v:Nat):Int))]) (λk=>(k.b,.cells (YO k.xs).toArray 87 (0,0))::(b8,.cells (GU (el ts i.j)).toArray 186 (0,0))::(z.1.1,.cells (YO i.xs).toArray 87 (0,0))::bs) (λk F=>Vp F k.xs) (λk=>N-k.v) (⟨0,z2.1.1,z2.1.2.set 0 ((el ts i.j).x,(el ts i.j).t.1),aq _,by rw[aA];exact hzl2,QHe z2 W _ _ _⟩) wa wT QNG (λF h=>h.2.set ((hP F h.1.1.1.1).2.1 _ K).1 0) λk=>?_
  simp only[aF,bm];have hk:=k.le;have hkl2:=k.hl;refine wA 6 I ?_;refine QP I (λY=>?_) λY=>?_
  ·have g:k.v<N:=wg<|QOW Y
   have hdv:=hpw.el (show k.v<(el ts i.j).t.2.length by omega);refine QOn 7 I<|QA (Qs (n:=(el ts i.j).r.n) (k.v) (λF h=>(((hP F h.1.1.1.1.1).2.1 _ K).2).1) rfl rfl Qd Qo O)<|QA (Qu (n:=(el ts i.j).r.n) ((k.v)*1) (λF h=>(((hP F h.1.1.1.1.1).2.1 _ K).2).1) O rfl Qo (JN (o:=(el ts i.j).t.2) O))<|QOm 11 I<|Jf (ι:=CoE W (el ts i.j).t.1 (el ts i.j).t.2 n k.v) [(1,_),(5,_),(6,_),(8,_),(10,_),(20,_),(21,_),(22,_),(33,_),(34,_),(35,_),(40,_)] (λe=>[(9,.slice (some ⟨e.b,0,none⟩) n n),(41,.int .i64 ((e.e:Nat):Int))]) (λe=>(e.b,.cells (YO e.xs).toArray 87 (0,0))::(b8,.cells (GU (el ts i.j)).toArray 186 (0,0))::(z.1.1,.cells (YO i.xs).toArray 87 (0,0))::bs) (λe F=>Vp F e.xs) (λe=>(Qg (el ts i.j).t.2 k.v).toNat-e.e) (⟨0,k.b,k.xs,aq _,hkl2,k.hx⟩) we wT QNG w8 λe=>?_
   simp only[aF,bm];have he:=e.le;refine wA 6 I ?_;refine QP I (λX=>?_) λX=>?_
   ·have hle:e.e<(Qg (el ts i.j).t.2 k.v).toNat:=wg<|QOW X
    refine QOn 8 I<|QA (Qs (n:=N) k.v (λF h=>hR F h.1.1.1.1.1.1) rfl rfl UE Mc O)<|QA (Qu (n:=N) (k.v*1) (λF h=>hR F h.1.1.1.1.1.1) O rfl Mc (rv k.v g))<|Xv I (aS _) (QDj (nb:=n) (A:=Se.vF W (el ts i.j).t.1 (el ts i.j).t.2 k.v e.e) (B:=W k.v) (xa:=e.xs) (xb:=(el rl k.v).xs) h1 hn (aa _) (hO.at_ _ g).2 (Rdb.own List.mem_cons_self) ((hO.rd _ g).to λw h=>h.imp (.cons _ (.cons _ (aj _ _))) λF h=>h.1.1.1.1.1.1) e.hx (hO.at_ _ g).1 (λF h=>⟨h.2,hX F h.1.1.1.1.1.1 _ g⟩) (hz.p _ y _ g _ hle)) λc=>wB 2 I<|Qf<|QD<|QB<|QA (Qk I I O)<|wB 2 I ?_
    exact Qh (⟨e.e+1,c.1.1,c.1.2,hle,c.2.1,(congrArg (λA=>QAZ c.1.2 A n) (Se.j6 W _ _ _ _)).mp c.2.2⟩) (by show(Qg (el ts i.j).t.2 k.v).toNat-(e.e+1)<(Qg (el ts i.j).t.2 k.v).toNat-e.e;omega) ⟨rfl,rfl,rfl,rfl,rfl,rfl,rfl,rfl,rfl,rfl,rfl,rfl,rfl,rfl,trivial⟩ (.cons_cons _ (aj _ _)) λF h=>⟨h.1.1,h.2⟩
   have hge3:e.e=(Qg (el ts i.j).t.2 k.v).toNat:=wg<|QOX X
   refine Q7 ?_;refine QB<|QA (Qk I I O)<|wB 2 I ?_
   exact Qh (⟨k.v+1,e.b,e.xs,g,e.hl,by have:=e.hx;rwa [hge3,Se.QCo]at this⟩) (by show N-(k.v+1)<N-k.v;omega) wc QNG λF h=>⟨h.1.1,h.2⟩
  have hge2:k.v=N:=wg<|QOX Y
  have hst:∀m,m<n->(el k.xs m).2=(Se.C (el ts i.j).t.1*Se.zY W (el ts i.j).t.2 (el ts i.j).t.2.length) m:=λm hm=>by
   have:=k.hx.at_ m hm;rw[this,hge2,hkl];unfold Se.vF;rw[Se.pw,Se.mul_one]
  have hsz:∀m,m<n->J6 (el k.xs m).2<=100000000:=λm hm=>by
   rw[hst m hm,hkl];exact hz.s _ y m hm
  refine Q7 ?_;refine wR I<|QA (Qb I Zg)<|QOm 4 I<|Jf (ι:=CoA W (KP ts) n i.j) [(1,_),(5,_),(6,_),(20,_),(21,_),(22,_),(51,_),(52,_)] (λa=>[(53,.int .i64 ((a.i:Nat):Int))]) (λa=>(k.b,.cells (YO k.xs).toArray 87 (0,0))::(b8,.cells (GU (el ts i.j)).toArray 186 (0,0))::(z.1.1,.cells (YO a.xs).toArray 87 (0,0))::bs) (λa F=>Vp F a.xs) (λa=>n-a.i) (⟨0,i.xs,aq _,hil,λm hm=>by rw[if_neg O];exact i.hx m hm⟩) wZ wS QNG (λF h=>h.1.1.2) λa=>?_
  simp only[aF,bm];have hai:=a.le;have hal:=a.hl;refine wA 6 I ?_;refine QP I (λU=>?_) λU=>?_
  ·have E:a.i<n:=wg<|QOW U
   have haf:∀F,Vp F a.xs->Ja F (el a.xs a.i).1 (Se.cmp W ((KP ts).take i.j) a.i):=λF h=>by
    have h1:=a.hx a.i E;rw[if_neg O]at h1;rw[<-h1];exact h.el O
   refine QOn 7 I<|QA (Ql (i:=a.i) rfl rfl Zg Qm O)<|QA (DR (vs:=GN (el k.xs a.i).1) rfl Qm .here rfl (by rw[ao];exact Cx O))<|Qe Yu λb13=>QMv I<|QV (vs:=[_,_,_,_]) I I I Qm I .here .h4 wV<|QMt<|Jq 9 QNG mixed wi wi ?_
   simp only[eX,eE,eZ,fh];refine QK (QC I)<|QK (QC I)<|QK (QC I)<|QK (QC I)<|QK (Ql (i:=a.i) rfl rfl Zg Qm O)<|QK (DR (vs:=GN (el a.xs a.i).1) rfl Qm .u3 rfl (by rw[ao];exact Cx O))<|QK (wJ I Qm .here)<|QZ I (λ_ F f h=>RJ f (haf F h.2) (h.1.2.el O) (hz.z _ (by rw[GY];omega) _ E) (hsz _ E)) λL=>QK (Ql (i:=a.i) rfl rfl Zg Qm O)<|Zf<|QV (vs:=GN L) rfl rfl rfl Qm I .u3 (Ru O L (Se.cmp W ((KP ts).take i.j) a.i+(el k.xs a.i).2)) wV<|QE<|Qf<|QD<|QB<|QA (Qk I I O)<|wB 2 I ?_
   exact Qh (⟨a.i+1,a.xs.set a.i (L,_),E,by rw[aA];exact hal,QGi (by rw[GY];omega) (QJj hlt) E hal a.hx (hst _ E) L⟩) (by show n-(a.i+1)<n-a.i;omega) wa (aj _ _) λF h=>⟨h.1.1,h.1.2.set h.2 _⟩
  have hge5:a.i=n:=wg<|QOX U
  refine Q7 ?_;refine QB<|QA (Qk I I O)<|wB 2 I ?_
  exact Qh (⟨i.j+1,a.xs,by rw[GY];omega,hal,λm hm=>by rw[a.hx m hm,if_pos O]⟩) (by show ts.length-(i.j+1)<ts.length-i.j;omega) wX (.cons _ (aj _ _)) λF h=>⟨h.1.1.1.1,h.2⟩
 have hge:i.j=ts.length:=wg<|QOX hc2
 refine Q7 ?_;refine wA 7 I ?_;exact Zr (⟨(z.1.1,i.xs),hil,by show n<=i.xs.length;omega,λm hm=>by
  show(el i.xs m).2=_;rw[i.hx m hm,hge,eK (by rw[GY];exact aa _)]⟩) I (wN I) rfl λw h=>h.GW λF h=>⟨h.1.1.1,h.2⟩
end
section
open Go Go.RowKit Ig
section
variable[Dr][df:Df]
section
variable{P:Program}{Q:Exit->Act->World->Prop}
theorem qf{d:Region.Mode}{b:Array Oper}{g:World->Prop}(h:∀w,S w->g w):∀(fuel:Nat) (listed:Array Bool) (a:Act) (w:World),wpAnyH P d b Q S fuel listed a w->wpAnyH P d b Q g fuel listed a w
 |0,_,_,_,c=>c
 |fuel+1,_,_,_,c=>⟨c.1,λi hi=>wpOp_mono (λj w' f=>⟨h _ f.1,qf h fuel _ j w' f.2⟩) (c.2 i hi)⟩
def Cp(P:Program)(l:List Oper)(Q:Exit->Act->World->Prop):(World->Prop)->Nat->List Nat->Act->World->Prop
 |_,0,_,a,w=>Q .normal a w
 |S,n+1,r,a,w=>match BD l r with
  |some i=>∃o v,l[i]?=some o/\YieldsIf P l.toArray S o v a/\Cp P l Q S n (r.erase i) (a.put o.dst v) w
  |none=>∀i∈r,Y8 l r i=true->wpOp P l.toArray (λ_ _ _=>False) i (λb w'=>∃S':World->Prop,(∀w,S' w->S w)/\S' w'/\Cp P l Q S' n (r.erase i) b w') a w
theorem QDf{l:List Oper}(hB:Bz l=true)(hQ:∀c a d v w,Q (.panic c) (Act.put a d v) w->Q (.panic c) a w):
  ∀(m:Nat) (S:World->Prop) (r:List Nat) (listed:Array Bool) (a:Act) (w:World),r.length=m->r.Pairwise (·<·)->(∀i,i∈r↔i<l.length/\listed.getD i true=false)->listed.size=l.length ->
   (∀j oj,l.toArray[j]?=some oj->listed.getD j false=true->∀e∈oj.after,eH .any e=true->listed.getD e.on false=true)->S w->Cp P l Q S m r a w->wpAnyH P .any l.toArray Q S m listed a w:=by
 have hB':=hB;simp only[Bz,ai]at hB';obtain⟨⟨hns,K⟩,_⟩:=hB';have hsel:=Region.noSelect_spec hns;intro m
 induction m with
 |zero =>
  intro S r listed a w hm F hr U hcl hS h;have:r=[]:=List.length_eq_zero_iff.1 hm;subst this;refine⟨?_,h⟩;rw[List.eq_nil_iff_forall_not_mem];intro i hi;obtain⟨h1,o,ho,_⟩:=mem_ready.1 hi;have g:i<l.length:=by have:=(Array.getElem?_eq_some_iff.1 ho).1;simpa using this
  have:=(hr i).2 ⟨g,h1⟩;cases this
 |succ m ih =>
  intro S r listed a w hm F hr U hcl hS h;have b:∀j,j∈bV .any l.toArray listed↔j∈r/\Y8 l r j=true:=by
   intro j;rw[mem_ready,hr j];constructor
   ·rintro⟨h1,o,ho,h2⟩;have g:j<l.length:=by have:=(Array.getElem?_eq_some_iff.1 ho).1;simpa using this
    refine⟨⟨g,h1⟩,?_⟩;unfold Y8;have f:l[j]?=some o:=by simpa using ho
    rw[f];rw[bY];intro e he;cases hb:eH .any e with
    |false=>rfl
    |true =>
     have:=h2 e he hb;simp only[fj,fk,aB,eR,decide_eq_false_iff_not];intro hmem;have h3:=((hr e.on).1 hmem).2;rw[getD_both h3]at this;cases this
   rintro⟨⟨g,h1⟩,h2⟩;obtain⟨o,ho,hed⟩:=Xo K g;refine⟨h1,o,ho,λe he hb=>?_⟩;unfold Y8 at h2;have f:l[j]?=some o:=by simpa using ho
   rw[f,bY]at h2;have:=h2 e he;rw[hb]at this;simp only[fj,fk,aB,eR,decide_eq_false_iff_not]at this;cases hv:listed.getD e.on false with
   |true=>rfl
   |false =>
    have hel:=hed e he hb;exact absurd ((hr e.on).2 ⟨O,getD_in O hv⟩) this
  have next:∀j,j∈bV .any l.toArray listed->∀(S:World->Prop) a' w',S w'->Cp P l Q S m (r.erase j) a' w'->wpAnyH P .any l.toArray Q S m (listed.setIfInBounds j true) a' w':=by
   intro j E S a' w' hS' h';have H:=((b j).1 E).1;have hjsz:j<listed.size:=by rw[U];exact((hr j).1 H).1
   refine ih S (r.erase j) _ a' w' (by rw[List.length_erase_of_mem H];omega) (F.sublist List.erase_sublist) (λk=>?_) (by simpa using U) (λk ok hk hl e he hb=>?_) hS' h'
   ·rw[List.Nodup.mem_erase_iff (F.imp λh=>Nat.ne_of_lt h),hr k];by_cases x:j=k
    ·subst x;simp[hjsz]
    rw[getD_set_ne true x];simp[Ne.symm x]
   by_cases x:j=k
   ·subst x;obtain⟨_,oj,y,z⟩:=mem_ready.1 E;have:ok=oj:=bS (hk.symm.trans y);subst this;exact getD_set_true (z e he hb)
   rw[getD_set_ne false x]at hl;exact getD_set_true (hcl k ok hk hl e he hb)
  unfold Cp at h;cases hp:BD l r with
  |some j =>
   rw[hp]at h;obtain⟨oj,v,L,hy,h'⟩:=h;have y:l.toArray[j]?=some oj:=by simpa using L
   have H:j∈r:=List.mem_of_find?_eq_some hp;have X:=List.find?_some hp;simp only[ai]at X;have hq:Jn oj.op=true:=by have:=X.1;unfold S5 at this;rw[L]at this;exact this
   have E:j∈bV .any l.toArray listed:=(b j).2 ⟨H,X.2⟩;have hjs:=mem_ready.1 E;have happ:∀k ok,l.toArray[k]?=some ok->k≠j->listed.getD k true=false->(∀e∈ok.after,eH .any e=true->e.on≠j)->oj.apart l.toArray ok=true:=by
    intro k ok hok hkj hun hno;have hnw:bJ .any l.toArray k j=false:=by
     cases hv:bJ .any l.toArray k j with
     |false=>rfl
     |true =>
      obtain⟨o',f,e,he,hb,Y⟩:=eL hv;have:o'=ok:=bS (f.symm.trans hok);subst this;exact absurd Y (hno e he hb)
    have hnw2:bJ .any l.toArray j k=false:=by
     cases hv:bJ .any l.toArray j k with
     |false=>rfl
     |true =>
      obtain⟨o',f,e,he,hb,Y⟩:=eL hv;obtain⟨_,o2,ho2,z⟩:=hjs;have:o'=o2:=bS (f.symm.trans ho2);subst this;have:=z e he hb;rw[Y,getD_both hun]at this;cases this
    rcases Nat.lt_or_gt_of_ne hkj with g | hgt
    ·have:=BU hB g (by simpa using hok) (by simpa using y) (by simp[hq]);rw[hnw2]at this;exact EY (by simpa using this)
    have:=BU hB hgt (by simpa using y) (by simpa using hok) (by simp[hq]);rw[hnw]at this;simpa using this
   exact wpAnyH_first y hsel (λc a w h=>hQ c a _ v w h) m listed a w happ E hy hS (next j E S _ w hS h')
  |none =>
   rw[hp]at h
   match r,hm,F,hr,h,b,next with
   |i::r,hm,F,hr,h,b,next =>
    have hil:=(hr i).1 wu;have hmin:∀j,j<i->listed.getD j false=true:=by
     intro j E;cases hv:listed.getD j false with
     |true=>rfl
     |false =>
      have hjl:j<l.length:=O;have:=(hr j).2 ⟨hjl,getD_in O hv⟩;rcases List.mem_cons.1 this with e | e
      ·omega
      have:=(List.pairwise_cons.1 F).1 j e;omega
    obtain⟨oi,hoi,hed⟩:=Xo K hil.1;have hri:i∈bV .any l.toArray listed:=mem_ready.2 ⟨hil.2,oi,hoi,λe he hb=>hmin _ (hed e he hb)⟩;refine⟨λh0=>(by rw[h0]at hri;cases hri),λj E=>?_⟩;have hj':=(b j).1 E;exact RW (wpOp_mono (λa' w' ⟨S',F,h1,h2⟩=>⟨F _ h1,qf F _ _ _ _ (next j E S' a' w' h1 h2)⟩) (h j hj'.1 hj'.2))
theorem kh{l:List Oper}{Q':Exit->Act->World->Prop}(k:Bz l=true)(g:∀c a w,¬Q' (.panic c) a w){a:Act}{w:World}(f:S w)(h:Cp P l Q' S l.length (ew 0 l.length) a w):
  wpAny P .any l.toArray Q' l.length (Array.replicate l.length false) a w:=by
 refine wpAny_of_held _ _ _ _ (QDf k (λc a d v w h=>absurd h (g c _ w)) l.length S (ew 0 l.length) _ a w wu List.pairwise_lt_range' (λi=>?_) wu (λj m _ b=>(by rw[getD_replicate_false]at b;cases b)) f h);rw[List.mem_range'_1];constructor
 ·intro h;have:i<l.length:=O;simp[this]
 intro h;omega
theorem ql{b:Nat}{a:Act}{l:List Oper}(hm:P.follows .mixedOrders=true)(f:Bz l=true)(d:S { w with drawn:=w.drawn+1 })
  (h:Cp P l (Xp (Q .normal)) S l.length (ew 0 l.length) a { w with drawn:=w.drawn+1 }):(Code.region b l.toArray true).wp P Q a w:=by
 refine wp_region_any hm ?_;have:=kh (P:=P) (Q':=Xp (Q .normal)) f (λc a w h=>h) d h;simpa using VH (Q':=Q) (λe a w h=>by cases e<;>first | exact h | exact h.elim) _ _ _ _ this
end
section
variable{P:Program}{Q:Exit->Act->World->Prop}{N:Nat}{m:Sl}{E E0:Env}{l:List Oper}{r r':List Nat}{w0:World}{F0:Gs}{bs:List (Nat×Obj)}{G:Gs->Prop}
def JV(P:Program)(l:List Oper)(Q:Exit->Act->World->Prop)(E0:Env)(r:List Nat)(N:Nat)(m:Sl)(E:Env):Prop:=(∀w,St E w->St E0 w)->∀a w,JH N m a->St E w->Cp P l Q (St E0) r.length r a w
def QGA(P:Program)(l:List Oper)(Q:Exit->Act->World->Prop)(E:Env)(r:List Nat):Act->World->Prop:=λa w=>∃S':World->Prop,(∀w,S' w->St E w)/\S' w/\Cp P l Q S' r.length r a w
def QFM(P:Program)(l:List Oper)(Q:Exit->Act->World->Prop)(E:Env)(r:List Nat):Act->World->Prop:=λa w=>Cp P l Q (St E) r.length r a w
theorem LH(h:JV P l Q E0 r N m E):JD P l.toArray (Xp (QFM P l Q E0 r)) E0 [] N m E:=λc a w ha b=>h c a w ha b
theorem QMs{E1:Env}(h1:∀w,St E1 w->St E0 w)(h2:∀w,St E w->St E1 w)(h:JV P l Q E1 r N m E):JD P l.toArray (Xp (QGA P l Q E0 r)) E0 [] N m E:=λ_ a w ha b=>⟨St E1,h1,h2 w b,h h2 a w ha b⟩
theorem QHH(h:JV P l Q E0 r N m E):JD P l.toArray (Xp (QGA P l Q E0 r)) E0 [] N m E:=λc a w ha b=>⟨St E0,λ_ h=>h,c w b,h c a w ha b⟩
theorem LI(i:Nat){o:Oper}(hp:BD l r=some i)(b:l[i]?=some o)(he:r.erase i=r')(h:JD P l.toArray (Xp (QFM P l Q E0 r')) E0 [o] N m E):JV P l Q E0 r N m E:=by
 intro f a w ha c;subst he;have hi:i∈r:=List.mem_of_find?_eq_some hp;rw[EP hi];unfold Cp;rw[hp];have d:Jn o.op=true:=by
  have:=List.find?_some hp;simp only[ai]at this;have:=this.1;unfold S5 at this;rw[b]at this;exact this
 rcases h f a w ha c with ⟨_,v,h1,h2⟩ | ⟨h1,_⟩
 ·exact⟨o,v,b,h1,h2⟩
 rw[d]at h1;cases h1
theorem uW{o:Oper}{K:Act->World->Prop}(ho:l[i]?=some o)(hq:Jn o.op=false)(h:JD P l.toArray (Xp K) E0 [o] N m E)(hE:∀w,St E w->St E0 w){a:Act}{w:World}(ha:JH N m a)(hw:St E w):
  wpOp P l.toArray (λ_ _ _=>False) i (λa' w'=>St E0 w'/\K a' w') a w:=by
 have ho':l.toArray[i]?=some o:=by simpa using ho
 unfold wpOp;simp only[ho'];rcases h hE a w ha hw with ⟨h1,_⟩ | ⟨_,h2⟩
 ·rw[hq]at h1;cases h1
 split
 ·rename_i g;rw[if_pos g]at h2;exact .inl h2
 rename_i g;rw[if_neg g]at h2;exact h2
theorem QDc(i:Nat){o:Oper}(hp:BD l r=none)(k:r.filter (Y8 l r)=[i])(g:l[i]?=some o)(f:Jn o.op=false)(he:r.erase i=r')(h:JD P l.toArray (Xp (QGA P l Q E0 r')) E0 [o] N m E)(hr:r≠[]:=by decide):JV P l Q E0 r N m E:=by
 intro y a w ha d;subst he;obtain⟨x,s,rfl⟩:=List.exists_cons_of_ne_nil hr;show Cp P l Q (St E0) (s.length+1) (x::s) a w;unfold Cp;rw[hp];intro j c b;have hm:j∈(x::s).filter (Y8 l (x::s)):=List.mem_filter.2 ⟨c,b⟩;rw[k]at hm;cases List.mem_singleton.1 hm;refine wpOp_mono (λF w' ⟨_,S',h1,h2,h3⟩=>⟨S',h1,h2,?_⟩) (uW g f h y ha d);have z:s.length=((x::s).erase i).length:=by
  have:=EP c;rw[aw]at this;omega
 rw[z];exact h3
theorem QI2{f:Nat}{c:List (Nat×Obj)}(b:c.Sublist bs)(hm:P.follows .mixedOrders=true)(g:Bz l=true)(hr:ew 0 l.length=r)(h:JV P l (Xp (Q .normal)) ⟨w0,F0,c,G⟩ r N m ⟨w0,F0,bs,G⟩):J P (.region f l.toArray true) Q N m ⟨w0,F0,bs,G⟩:=λa w ha d=>by
 subst hr;refine ql hm g ((d.imp b λ_ h=>h).drew) ?_;have:=h (λ_ h=>h.imp b λ_ h=>h) a _ ha d.drew;simpa using this
theorem QI3(h:Fin Q .normal N m E):JV P l (Xp (Q .normal)) E0 [] N m E:=λ_=>h
end
end
end
def MO(r:Rw):Nat×Obj:=(r.b,.cells (YO r.xs).toArray 87 (0,0))
def bcV(n:Nat)(p:Nat×Nat):Value:=.slice (some ⟨p.1,0,none⟩) n p.2
def Rw.bc(r:Rw):Nat×Nat:=(r.b,r.cap)
def QJC(rl:List Rw)(n:Nat):rl.map (λr=>r.v n)=(rl.map Rw.bc).map (bcV n):=by rw[bz];rfl
def Own.right{l:List (Nat×Obj)}{o:Obj}{f:Obj->List (Nat×Obj)}(h:Own l b o f)(r:List (Nat×Obj)):Own (l++r) b o (λo'=>f o'++r):=by
 induction h with
 |here=>exact .here
 |there _ ih=>exact .there ih
def QFK(hi:i<rl.length):rl=rl.take i++el rl i::rl.drop (i+1):=by rw[<-Mz hi,eP]
def QFX(hi:i<rl.length)(bs:List (Nat×Obj)):GD (rl.map MO++bs) (el rl i).b (.cells (YO (el rl i).xs).toArray 87 (0,0)) (λo'=>(rl.take i).map MO++((el rl i).b,o')::((rl.drop (i+1)).map MO++bs)) ((rl.take i).map MO++((rl.drop (i+1)).map MO++bs)):=by
 have e:rl.map MO++bs=(rl.take i).map MO++MO (el rl i)::((rl.drop (i+1)).map MO++bs):=by
  conv=>lhs;rw[QFK hi]
  rw[az,bT,fc,aF]
 rw[e];exact GD.skip .here _
def Ft(rl:List Rw)(i:Nat)(xs:List (Fr×Rat)):List Rw:=rl.set i ⟨(el rl i).b,(el rl i).cap,xs⟩
def QDh(hi:i<rl.length)(xs:List (Fr×Rat))(bs:List (Nat×Obj)):(rl.take i).map MO++((el rl i).b,Obj.cells (YO xs).toArray 87 (0,0))::((rl.drop (i+1)).map MO++bs)=(Ft rl i xs).map MO++bs:=by
 unfold Ft;rw[bW,if_pos hi,az,bT,fc,aF];rfl
def vH(rl:List Rw)(i:Nat)(xs:List (Fr×Rat)):(Ft rl i xs).length=rl.length:=aA ..
theorem QFE(hi:i<rl.length)(xs:List (Fr×Rat)):(Ft rl i xs).map Rw.bc=rl.map Rw.bc:=by
 unfold Ft;rw[List.map_set];refine List.ext_getElem? λj=>?_;rw[List.getElem?_set];by_cases e:i=j
 ·subst e;rw[if_pos rfl,if_pos (by simpa using hi),List.getElem?_map,List.getElem?_eq_getElem hi,JB hi];rfl
 rw[if_neg e]
def QFD(hi:i<rl.length)(xs:List (Fr×Rat))(j:Nat):el (Ft rl i xs) j=if j=i then⟨(el rl i).b,(el rl i).cap,xs⟩else el rl j:=by
 unfold Ft el;rw[List.getD_eq_getElem?_getD,List.getD_eq_getElem?_getD,List.getElem?_set];by_cases e:i=j
 ·subst e;rw[if_pos rfl,if_pos hi,if_pos rfl];rfl
 rw[if_neg e,if_neg (λh=>e h.symm),List.getD_eq_getElem?_getD]
theorem St.QDJ{w0:World}{F0:Gs}{bs:List (Nat×Obj)}:∀ {l:List Rw} {G:Gs->Prop},St ⟨w0,F0,l.map MO++bs,G⟩ w->St ⟨w0,F0,bs,λF=>G F/\∀r∈l,F r.b=some ((YO r.xs).toArray,87)⟩ w
 |[],_,h=>h.GW λF h=>⟨h,λ_ h=>by cases h⟩
 |r::l,G,h=>by
  have h1:=St.freeze (w0:=w0) (F0:=F0) [] (post:=l.map MO++bs) (b:=r.b) h;have h2:=St.QDJ (l:=l) h1;exact h2.GW λF h=>⟨h.1.1,λx hx=>by
   rcases List.mem_cons.1 hx with rfl | hx
   ·exact h.1.2
   exact h.2 x hx⟩
structure uK(o:Nat)(f:Nat->Se)(rl:List Rw):Prop where
 at_:∀u,u<rl.length->(el rl u).xs.length=o+1/\(∀i,i<o+1->(el (el rl u).xs i).2=f u i)/\(el rl u).cap=o+1
def QEb(F:Gs)(rl:List Rw):Prop:=∀r∈rl,Vp F r.xs
def QEb.set(h:QEb F rl){xs:List (Fr×Rat)}(hx:Vp F xs)(i:Nat):QEb F (Ft rl i xs):=λr hr=>by
 rcases eF hr with hr | rfl
 ·exact h r hr
 exact hx
def uK.set{f g:Nat->Se}(h:uK o f rl)(hi:i<rl.length)(b:j<o+1){x:Fr}{r:Rat}(hr:r=g i j)(hg:∀u,u<rl.length->∀m,m<o+1->u≠i\/m≠j->f u m=g u m):uK o g (Ft rl i ((el rl i).xs.set j (x,r))) where
 at_:=λu hu=>by
  rw[vH]at hu;rw[QFD hi];by_cases e:u=i
  ·subst e;obtain⟨h1,h2,h3⟩:=h.at_ u hu;rw[if_pos rfl];refine⟨by show((el rl u).xs.set j _).length=_;rw[aA];exact h1,λm hm=>?_,h3⟩;show(el ((el rl u).xs.set j (x,r)) m).2=_;rw[Fe O];by_cases a:m=j
   ·subst a;rw[if_pos rfl];exact hr
   rw[if_neg a,h2 m hm,hg u hu m hm (.inr a)]
  obtain⟨h1,h2,h3⟩:=h.at_ u hu;rw[if_neg e];exact⟨h1,λm hm=>by rw[h2 m hm,hg u hu m hm (.inl e)],h3⟩
def uK.snoc{f:Nat->Se}(h:uK o f rl){b:Nat}{xs:List (Fr×Rat)}(a:xs.length=o+1)(hx:∀i,i<o+1->(el xs i).2=f rl.length i):uK o f (rl++[⟨b,o+1,xs⟩]) where
 at_:=λu hu=>by
  rw[ax,List.length_singleton]at hu;by_cases e:u<rl.length
  ·have:el (rl++[(⟨b,o+1,xs⟩:Rw)]) u=el rl u:=by unfold el;rw[List.getD_eq_getElem?_getD,List.getD_eq_getElem?_getD,List.getElem?_append_left e]
   rw[this];exact h.at_ u e
  have c:u=rl.length:=O;subst c;have:el (rl++[(⟨b,o+1,xs⟩:Rw)]) rl.length=⟨b,o+1,xs⟩:=by unfold el;rw[List.getD_eq_getElem?_getD,List.getElem?_append_right (aa _),eN];rfl
  rw[this];exact⟨a,hx,rfl⟩
structure SvI(o N:Nat)(f:Nat->Se) where
 v:Nat
 y:Value
 ob:List (Nat×Obj)
 rl:List Rw
 le:v<=N
 hl:rl.length=v
 hr:Q2 72 1 y v ((rl.map Rw.bc).map (bcV (o+1))) ob
 hx:uK o f rl
abbrev SvX(o:Nat)(a:Se):={xs:List (Fr×Rat) // xs.length=o+1/\∀i,i<o+1->(el xs i).2=a i}
structure SkI(o N:Nat)(rs:List (List Tm))(st:List Rat)(BC:List (Nat×Nat)) where
 k:Nat
 rl:List Rw
 le:k<=o
 hl:rl.length=N
 hb:rl.map Rw.bc=BC
 hx:uK o (Se.Tt rs st k) rl
structure SuI(n N:Nat)(BC:List (Nat×Nat)) where
 u:Nat
 y:Value
 ob:List (Nat×Obj)
 le:u<=N
 hr:Q2 72 1 y u ((BC.take u).map (bcV n)) ob
structure SwI(o N k n:Nat)(rs:List (List Tm))(st:List Rat)(BC:List (Nat×Nat)) where
 v:Nat
 rl:List Rw
 le:v<=n
 hl:rl.length=N
 hb:rl.map Rw.bc=BC
 hx:uK o (λu=>if u<=v then Se.Tt rs st (k+1) u else Se.Tt rs st k u) rl
structure QDa(rs:List (List Tm))(st:List Rat)(o:Nat):Prop where
 le:o<=16
 c:∀k,k<o->∀v,v<rs.length->Se.QHS (Se.Tt rs st k) (el rs v) (rs.length+1) (k+1)
structure QMp(F:Gs)(d:Sr×List Rw)(X:Nat->Se)(N o:Nat):Prop where
 row:Qz F d.1.q N 1 (d.2.map λr=>r.v (o+1))
 n:d.1.n=N
 cap:N<=d.1.cap
 len:d.2.length=N
 at_:∀v,v<N->Qz F (some ⟨(el d.2 v).b,0,none⟩) (o+1) 4 (YO (el d.2 v).xs)/\Vp F (el d.2 v).xs/\(el d.2 v).xs.length=o+1/\(∀i,i<o+1->(el (el d.2 v).xs i).2=X v i)/\(el d.2 v).cap=o+1
def QHk{a:List (Nat×Nat)}{u:Nat}(h:u<a.length)(n:Nat):(a.take (u+1)).map (bcV n)=(a.take u).map (bcV n)++[bcV n (el a u)]:=by rw[Zb h,az];rfl
def QG0(rs:List (List Tm))(st:List Rat)(k v:Nat):Se.Tt rs st (k+1) (v+1) (k+1)=Se.cmp (Se.Tt rs st k) (el rs v) k/((k+1:Nat):Rat):=by
 show(if k+1=k+1 then _ else _)=_;rw[if_pos rfl]
def kF(rs:List (List Tm))(st:List Rat){k v i:Nat}(h:v=0\/i≠k+1):Se.Tt rs st (k+1) v i=Se.Tt rs st k v i:=by
 cases v with
 |zero=>rw[Se.QAR,Se.QAR]
 |succ v =>
  show(if i=k+1 then _ else Se.Tt rs st k (v+1) i)=_;rw[if_neg (h.resolve_left O)]
def QH8(k:Nat):(((k+1:Nat):Rat)).num≠0:=by rw[Rat.num_natCast];omega
def QH7(k:Nat)(h:k<=16):J6 ((((k+1:Nat):Int)):Rat)<=100000000:=by
 have h1:=FY ((k+1:Nat):Int);have h2:sz ((k+1:Nat):Int)<=100:=by
  have:k=0\/k=1\/k=2\/k=3\/k=4\/k=5\/k=6\/k=7\/k=8\/k=9\/k=10\/k=11\/k=12\/k=13\/k=14\/k=15\/k=16:=O;rcases this with rfl | rfl | rfl | rfl | rfl | rfl | rfl | rfl | rfl | rfl | rfl | rfl | rfl | rfl | rfl | rfl | rfl<;>decide +kernel
 omega
theorem QEM{c:Sr×List Px}{rs:List (List Tm)}{st:List Rat}{o:Nat}(hF:Fits F w)(hGl:JU F)(hy:KM F y)(hr:NW F c rs)(hrs:rs.length=y.nm.n)(hsn:y.st.n=y.nm.n)(hn:y.nm.n<=1000)(hst:∀v,v<y.nm.n->(el y.sl v).1=Q5 (el st v)/\(el y.sl v).1.length<=1000000)(hts:∀e∈c.2,e.2.length<=1000000)(ho:QDa rs st o):
  QU prog 33 [.agg (IY y c).toArray,.int .i64 (o:Int)] w F (λ(d:Sr×List Rw)=>d.1.v) (λd F=>QMp F d (Se.IG rs st) (y.nm.n+1) o):=by
 have ho1:=ho.le;have hyl:=hy.Sq;have hrn:=hr.EC;have hcl:=hr.len;refine QU.go (G:=λF=>JU F/\KM F y/\NW F c rs) func33 hF ⟨hGl,hy,hr⟩ ?_;refine QNz<|Qv rfl (vs:=[_,_,_,_,_]) rfl λb2=>wQ rfl<|QNz<|wQ rfl<|QG<|QNz<|QA (QH rfl QGW Qo)<|QA (Qa rfl Qo .here (.skip (.skip (.skip .h1))))<|QMu rfl<|QMt<|QQ<|Jf (ι:=SvI o (y.nm.n+1) (Se.Tt rs st 0)) [(1,_),(2,_),(15,_)] (λi=>[(5,i.y),(16,.int .i64 ((i.v:Nat):Int))]) (λi=>(i.rl.reverse.map MO++[(b2,.cells (IY y c).toArray 66 (0,0))])++i.ob) (λi F=>QEb F i.rl) (λi=>y.nm.n+1-i.v) (⟨0,.slice none 0 0,[],[],aq _,rfl,.nil,⟨λ_ h=>by cases h⟩⟩) wU wT QNG (λ_ _ _ h=>by cases h) λi=>?_
 have hi:=i.le;have E:=i.hl;refine wA 6 I ?_;refine QP I (λhc2=>?_) λhc2=>?_
 ·have hlt:i.v<y.nm.n+1:=wg<|QOW hc2
  refine QOn 13 I<|QA (Qk I I O) ?_
  rw[show((o:Int)+1)=((o+1:Nat):Int)from rfl];refine Xv I (aS _) (jG (n:=o+1) O O) (λz=>?_);have Y:=z.len;refine QOm 3 I ?_;refine P4 (ι:=SvX o (Se.Tt rs st 0 i.v)) [(1,_),(2,_),(5,_),(7,_),(15,_),(16,_)] (λ_=>[]) (λx=>(z.1.1,.cells (YO x.1).toArray 87 (0,0))::((i.rl.reverse.map MO++[(b2,.cells (IY y c).toArray 66 (0,0))])++i.ob)) (λx F=>Vp F x.1) wX ?_ ?_
  ·refine QG ?_;refine QOn 5 I ?_;refine QP I (λg=>?_) λg=>?_
   ·obtain⟨u,hu⟩:∃u,i.v=u+1:=⟨i.v-1,wg<|QOW g⟩;have hs:=hst u O;refine wA 2 I<|QA (QH I QB5 H5)<|QA (QH I Vv ZF)<|QA (Qa I ZF (Own.there (Own.right (Own.skip .here _) _)) (.skip (.skip .h1)))<|QMu I<|QA (Jv I I O)<|QA (Qs (n:=y.st.n) u (λF h=>h.1.1.2.1.st) rfl wM ZG Xb O)<|QA (QH I Vu JQ)<|QA (Qu (n:=y.st.n) (u*2+0) (λF h=>h.1.1.2.1.st) O rfl JQ (JX (f:=D0) (l:=y.sl) (λ_=>rfl) O rfl))<|QL I (λ_ _ f h=>MS f h.1.1.1 hs.1 O) λX=>QA (Ql (i:=0) rfl rfl Zg Qm O)<|QV (vs:=GN X) rfl rfl rfl Qm I .here (Ru O X (el st u)) wV<|QE ?_
    exact Xw ⟨z.1.2.set 0 (X,el st u),by rw[aA];exact Y,λj K=>by
     rw[Fe O,hu];show _=(if j=0 then el st u else 0);by_cases e:j=0
     ·rw[if_pos e,if_pos e]
     rw[if_neg e,if_neg e,z.at K]⟩ wX QNG λF h=>⟨h.1,h.1.2.set h.2 0⟩
   have hv0:i.v=0:=wg<|QOX g
   refine wA 6 I ?_;refine QP I (λa=>?_) λa=>?_
   ·have ho0:0<o:=wg<|QOW a
    refine wA 2 I<|QL I (λ_ _ f h=>f_g (n:=1) f O O) λU=>QA (Ql (i:=1) rfl rfl Zg Qm O)<|QV (vs:=GN U) rfl rfl rfl Qm I .here (Ru O U ((1:Int):Rat)) wV<|QE ?_
    exact Xw ⟨z.1.2.set 1 (U,((1:Int):Rat)),by rw[aA];exact Y,λj K=>by
     rw[Fe O,hv0];show _=(if j=1 then(1:Rat)else 0);by_cases e:j=1
     ·rw[if_pos e,if_pos e];rfl
     rw[if_neg e,if_neg e,z.at K]⟩ wX QNG λF h=>⟨h.1,h.1.2.set h.2 1⟩
   have ho0:o=0:=wg<|QOX a
   refine QN ?_;exact Xw ⟨z.1.2,Y,λj K=>by
    rw[z.at K,hv0];show(0:Rat)=(if j=1 then(1:Rat)else 0);rw[if_neg O]⟩ wX QNG λF h=>⟨h,h.2⟩
  intro x;refine wA 3 I<|JC I (Jc UE) Mc QEm I I λb42=>X5 (bs':=((z.1.1,.cells (YO x.1).toArray 87 (0,0))::(i.rl.reverse.map MO++[(b2,.cells (IY y c).toArray 66 (0,0))]))++i.ob) (eT wu) ?_
  refine Z1 (ob:=i.ob) (n:=i.v) (k:=1) (sz:=1) (news:=[bcV (o+1) (z.1.1,o+1)]) I I UE Mc QEm I QGq i.hr (Src.row (off:=0) w8 (λj v hv=>by rw[ao];rw[List.getElem?_toArray];exact hv) rfl) O O (λv hv=>by rw[List.mem_singleton.1 hv];rfl) (λv43 ob43 hr43=>?_);refine wB 2 I<|Qf<|QD<|QB<|QA (Qk I I O)<|wB 2 I ?_
  exact Qh (⟨i.v+1,v43,ob43,i.rl++[⟨z.1.1,o+1,x.1⟩],hlt,by rw[ax,E];rfl,by rw[az,az];exact hr43,i.hx.snoc x.2.1 (by rw[E];exact x.2.2)⟩) (by show y.nm.n+1-(i.v+1)<y.nm.n+1-i.v;omega) wW (by rw[List.reverse_append];exact fz _) (λF h=>⟨h.1.1.1.1,λr hr=>by
   rcases List.mem_append.1 hr with hr | hr
   ·exact h.1.1.1.2 r hr
   rw[List.mem_singleton.1 hr];exact h.1.2⟩)
 have hge:i.v=y.nm.n+1:=wg<|QOX hc2
 obtain⟨BC,H⟩:∃BC,BC=i.rl.map Rw.bc:=⟨_,rfl⟩;have hBl:BC.length=y.nm.n+1:=by rw[H,ak,E,hge]
 have hBc:∀p∈BC,p.2=o+1:=λp hp=>by
  rw[H]at hp;obtain⟨r,hr,rfl⟩:=List.mem_map.1 hp;obtain⟨j,K,rfl⟩:=aE hr;have:=(i.hx.at_ j K).2.2;rw[JB K]at this;exact this
 refine Q7 ?_;obtain⟨r5,hv5,hrn5,hrc5,hfix5⟩:=Q2.fix (w0:=w) (F0:=F) (bs1:=i.rl.reverse.map MO++[(b2,.cells (IY y c).toArray 66 (0,0))]) (G:=_) i.hr;refine P5 hfix5 ?_;rw[hv5];dsimp only[Sr.v];rw[hrn5,<-H,hge];refine qV (bs':=i.rl.map MO++[(b2,.cells (IY y c).toArray 66 (0,0))]) ((List.reverse_perm _).map MO |>.append_right _)<|wA 8 I<|Jf (ι:=SkI o (y.nm.n+1) rs st BC) [(1,_),(2,_),(5,_),(45,_)] (λk=>[(46,.int .i64 ((k.k:Nat):Int))]) (λk=>k.rl.map MO++[(b2,.cells (IY y c).toArray 66 (0,0))]) (λk F=>QEb F k.rl) (λk=>o-k.k) (⟨0,i.rl,aq _,E.trans hge,H.symm,i.hx⟩) wV wS QNG (λF h=>h.1.2) λk=>?_
 have hk:=k.le;have hkl:=k.hl;refine wA 6 I ?_;refine QP I (λg=>?_) λg=>?_
 ·have hlk:k.k<o:=wg<|QOW g
  refine QOn 19 I<|QA (Qb I UE)<|QOm 4 I<|Jf (ι:=SuI (k.k+1) (y.nm.n+1) BC) [(1,_),(2,_),(5,_),(8,_),(45,_),(46,_),(49,_),(50,_)] (λu=>[(9,u.y),(51,.int .i64 ((u.u:Nat):Int))]) (λu=>(k.rl.map MO++[(b2,.cells (IY y c).toArray 66 (0,0))])++u.ob) (λu F=>True) (λu=>y.nm.n+1-u.u) (⟨0,.slice none 0 0,[],aq _,.nil⟩) wZ wT wu wy λu=>?_
  have hu:=u.le;refine wA 6 I ?_;refine QP I (λa=>?_) λa=>?_
  ·have hlu:u.u<y.nm.n+1:=wg<|QOW a
   have hcu:=hBc _ (Qy (show u.u<BC.length by omega));refine QOn 6 I<|QA (Qs (n:=y.nm.n+1) u.u (λF h=>h.1.1.2) rfl rfl UE Mc O)<|QA (Qu (n:=y.nm.n+1) (u.u*1) (λF h=>h.1.1.2) O rfl Mc (X0 (f:=bcV (o+1)) (l:=BC) O))<|QOm 7 I<|QA (Qk I I O)<|QA (MQ (k.k+1) rfl rfl rfl Zg Qm O)<|JC I (Jc UE) Mc QEm I I λb60=>?_
   refine Z1 (ob:=u.ob) (n:=u.u) (k:=1) (sz:=1) (news:=[bcV (k.k+1) (el BC u.u)]) I I UE Mc QEm I QGq u.hr (Src.row (off:=0) w8 (λj v hv=>by rw[ao];rw[List.getElem?_toArray];exact hv) rfl) O O (λv hv=>by rw[List.mem_singleton.1 hv];rfl) (λv61 ob61 hr61=>?_);refine wB 2 I<|Qf<|QD<|QB<|QA (Qk I I O)<|wB 2 I ?_
   exact Qh (⟨u.u+1,v61,ob61,hlu,by rw[QHk O];exact hr61⟩) (by show y.nm.n+1-(u.u+1)<y.nm.n+1-u.u;omega) wb QNG λF h=>⟨h.1.1,trivial⟩
  have hgu:u.u=y.nm.n+1:=wg<|QOX a
  refine Q7 ?_;obtain⟨r9,hv9,hrn9,hrc9,hfix9⟩:=Q2.fix (w0:=w) (F0:=F) (bs1:=k.rl.map MO++[(b2,.cells (IY y c).toArray 66 (0,0))]) (G:=_) u.hr;refine P5 hfix9 ?_;rw[hv9];dsimp only[Sr.v];rw[hrn9,hgu,eK O];refine QNz<|QA (QH I C2 Gg)<|QA (Qa I Gg (Own.skip .here _) (.skip (.skip (.skip (.skip .h1)))))<|QA (Qb I Nw)<|QOm 4 I ?_
  refine Jf (ι:=SwI o (y.nm.n+1) k.k y.nm.n rs st BC) [(1,_),(2,_),(5,_),(8,_),(9,_),(45,_),(46,_),(64,_),(65,_)] (λv=>[(66,.int .i64 ((v.v:Nat):Int))]) (λv=>v.rl.map MO++[(b2,.cells (IY y c).toArray 66 (0,0))]) (λv F=>QEb F v.rl) (λv=>y.nm.n-v.v) (⟨0,k.rl,aq _,hkl,k.hb,⟨λu hu=>by
   obtain⟨h1,h2,h3⟩:=k.hx.at_ u hu;refine⟨h1,λi hi=>?_,h3⟩;rw[h2 i hi];show Se.Tt rs st k.k u i=(if u<=0 then Se.Tt rs st (k.k+1) u else Se.Tt rs st k.k u) i;by_cases e:u<=0
   ·rw[if_pos e,kF rs st (.inl O)]
   rw[if_neg e]⟩⟩) wa wS QNG (λF h=>h.1.1.2) λv=>?_
  have hv:=v.le;have hvl:=v.hl;refine wA 6 I ?_;refine QP I (λhc5=>?_) λhc5=>?_
  ·have hlv:v.v<y.nm.n:=wg<|QOW hc5
   have hco:=ho.c k.k hlk v.v O;rw[hrs]at hco;have hcm:=hts _ (Qy (show v.v<c.2.length by omega));obtain⟨x1,x2,x3⟩:=v.hx.at_ (v.v+1) O;have hbv:(el BC (v.v+1))=((el v.rl (v.v+1)).b,(el v.rl (v.v+1)).cap):=by
    refine(congrArg (λl=>el l (v.v+1)) v.hb).symm.trans ?_;show el (v.rl.map Rw.bc) (v.v+1)=_;rw[JB (by rw[ak];omega),eu,JB (show v.v+1<v.rl.length by omega)];rfl
   refine QOn 7 I<|QA (Qs (n:=c.1.n) v.v (λF h=>h.1.1.1.1.1.1.2.2.row) rfl rfl Nw Gi O)<|QA (Qu (n:=c.1.n) (v.v*1) (λF h=>h.1.1.1.1.1.1.2.2.row) O rfl Gi (X0 (f:=λe:Px=>e.1.v) (l:=c.2) O))<|QOm 4 I<|QI2 (r:=[0,1,2,3,4,5,6,7,8,9,10,11,12,13,14,15,16,17,18]) tA mixed wi rfl<|LI 0 wi rfl rfl<|QK (QC I)<|LH<|LI 1 wi rfl rfl<|QK (QC I)<|LH<|LI 2 wi rfl rfl<|QK (Qk I I O)<|LH<|LI 3 wi rfl rfl<|QK (Qs (n:=y.nm.n+1) (v.v+1) (λF h=>h.1.1.1.1.2) rfl rfl UE Mc O)<|LH<|LI 4 wi rfl rfl<|QK (Qu (n:=y.nm.n+1) ((v.v+1)*1) (λF h=>h.1.1.1.1.2) O rfl Mc (X0 (f:=bcV (o+1)) (l:=BC) O))<|LH<|LI 5 wi rfl rfl<|QK (QC I)<|LH<|LI 6 wi rfl rfl<|QK (Qk I I O)<|LH<|LI 7 wi rfl rfl<|QK (QC I)<|LH<|LI 8 wi rfl rfl<|QK (QC I)<|LH ?_
   refine LI 10 wi rfl rfl<|QK (QC I)<|LH<|LI 13 wi rfl rfl<|QK (QC I)<|LH<|LI 14 wi rfl rfl<|QK (Qk I I O)<|LH ?_
   rw[show((k.k:Int)+1)=((k.k+1:Nat):Int)from rfl];rw[hbv];refine QDc 9 wi wi rfl rfl rfl ?_;refine Oq I (aS _) (QEP (W:=Se.Tt rs st k.k) (s:=(el c.2 v.v).1) (ts:=(el c.2 v.v).2) (N:=y.nm.n+1) (n:=k.k+1) (rl:=v.rl) O O O hcm (λF h=>(h.1.1.1.1.1.1.2.2.at O).1) (λF h=>by rw[QJC,v.hb];exact h.1.2) ⟨hvl,λu hu=>Rdb.own (List.mem_append_left _ (List.mem_map.2 ⟨_,Qy O,rfl⟩)),λu hu=>by
    obtain⟨y1,y2,y3⟩:=v.hx.at_ u O;refine⟨⟨O,λi hi=>?_⟩,O⟩;rw[y2 i O];show(if u<=v.v then Se.Tt rs st (k.k+1) u else Se.Tt rs st k.k u) i=Se.Tt rs st k.k u i;by_cases e:u<=v.v
    ·rw[if_pos e];exact kF rs st (.inr O)
    rw[if_neg e]⟩ (λF h u hu=>h.2 _ (Qy O)) (by rw[(hr.at O).2];exact hco)) (λd w h=>h.imp tA λF h=>h.1) λd=>?_
   have hdl:=d.2.1;refine QMs (E1:=⟨w,F,[(d.1.1,.cells (YO d.1.2).toArray 87 (0,0))],_⟩) (λw h=>h.imp tA λF h=>h.1) (λw h=>h.imp tB λF h=>h)<|LI 11 wi rfl rfl<|QK (Ql (i:=k.k) rfl rfl Zg Qm O)<|LH<|LI 12 wi rfl rfl<|QK (DR (vs:=GN (el d.1.2 k.k).1) rfl Qm .here rfl (by rw[ao];exact Cx O))<|LH<|QDc 15 wi wi rfl rfl rfl<|QZ I (λ_ _ f h=>f_g (n:=((k.k+1:Nat):Int)) f O O) λx86=>QHH<|QDc 16 wi wi rfl rfl rfl<|QZ I (λ_ _ f h=>QGU f (h.1.2.el (show k.k<d.1.2.length by omega)) h.2 (by rw[bQ];exact QH8 k.k) (by rw[d.2.2.at_ _ O];have:=hco.z (el rs v.v).length (aa _) k.k O;rw[aQ]at this;rw[(hr.at O).2];exact this) (QH7 k.k O)) λL=>QHH<|LI 17 wi rfl rfl<|QK (Ql (i:=k.k+1) rfl rfl Zg Qm O)<|LH<|QDc 18 wi wi rfl rfl rfl<|Jg (vs:=GN L) rfl rfl rfl Qm I (.there (QFX O _)) tB (λ_ h=>h.1.1) (Ru O L ((el d.1.2 k.k).2/(((k.k+1:Nat):Int):Rat))) wV<|QHH<|QI3<|FV (bs':=(d.1.1,.cells (YO d.1.2).toArray 87 (0,0))::((Ft v.rl (v.v+1) ((el v.rl (v.v+1)).xs.set (k.k+1) (L,(el d.1.2 k.k).2/(((k.k+1:Nat):Int):Rat)))).map MO++[(b2,.cells (IY y c).toArray 66 (0,0))])) (eT (by rw[<-QDh O]))<|Qf<|QD<|QB<|QA (Qk I I O)<|wB 2 I ?_
   exact Qh (⟨v.v+1,_,hlv,(vH _ _ _).trans hvl,(QFE O _).trans v.hb,v.hx.set O O (by
     show _=(if v.v+1<=v.v+1 then Se.Tt rs st (k.k+1) (v.v+1)else Se.Tt rs st k.k (v.v+1)) (k.k+1);rw[if_pos (aa _),QG0,d.2.2.at_ _ O,(hr.at O).2,bQ]) (λu hu m hm hne=>by
     show(if u<=v.v then Se.Tt rs st (k.k+1) u else Se.Tt rs st k.k u) m=(if u<=v.v+1 then Se.Tt rs st (k.k+1) u else Se.Tt rs st k.k u) m;by_cases e:u<=v.v
     ·rw[if_pos e,if_pos O]
     rw[if_neg e];by_cases e2:u<=v.v+1
     ·rw[if_pos e2];exact(kF rs st (.inr (hne.resolve_left O))).symm
     rw[if_neg e2])⟩) (by show y.nm.n-(v.v+1)<y.nm.n-v.v;omega) wb (aj _ _) λF h=>⟨h.1.1.1.1,h.1.1.1.2.set ((h.1.1.1.2 _ (Qy O)).set h.2 _) _⟩
  have hgv:v.v=y.nm.n:=wg<|QOX hc5
  refine Q7 ?_;refine QB<|QA (Qk I I O)<|wB 2 I ?_
  exact Qh (⟨k.k+1,v.rl,hlk,hvl,v.hb,⟨λu hu=>by
   obtain⟨h1,h2,h3⟩:=v.hx.at_ u hu;refine⟨h1,λi hi=>?_,h3⟩;rw[h2 i hi];show(if u<=v.v then Se.Tt rs st (k.k+1) u else Se.Tt rs st k.k u) i=Se.Tt rs st (k.k+1) u i;rw[if_pos O]⟩⟩) (by show o-(k.k+1)<o-k.k;omega) wW QNG λF h=>⟨h.1.1.1.1,h.2⟩
 have hgk:k.k=o:=wg<|QOX g
 refine Q7 ?_;refine P5 (λw h=>St.QDJ h)<|wA 7 I ?_
 exact QO (⟨⟨r5.q,y.nm.n+1,r5.cap⟩,k.rl⟩) I (wN I) rfl (λF h=>⟨by rw[QJC,k.hb];exact h.1.1.2,rfl,(by show y.nm.n+1<=r5.cap;omega),hkl,λv hv=>by
  obtain⟨h1,h2,h3⟩:=k.hx.at_ v O;have hm:=Qy (show v<k.rl.length by omega);refine⟨Qz.of (h.2 _ hm) (by rw[Ah,h1]),h.1.2 _ hm,h1,λi hi=>?_,h3⟩;rw[h2 i hi,hgk];exact(Se.vu rs st o v i O).symm⟩)
theorem QIW{q:Option Addr}{f:Nat}{p:(List UInt8×List UInt8)->Bool}{c1 c2:List Value}{G0:Gs->Prop}(x:Fits F w)(hg:∀F F',Gs.le F F'->G0 F->G0 F')(h0:G0 F)(o:Qz F q n 2 (l.flatMap D0))(y:l.length=n)(hb:n<=1000000)(hc:∀e∈l,∀w F,Fits F w->G0 F->QX prog f (c1++[.agg #[tx e.1,tx e.2]]++c2) w F (.bool (p e))):QU prog 221 [.slice q n c,.func (.func f) c1.toArray c2.toArray] w F (λ(k:Int)=>.int .i64 k) (λk _=>decide (k>=0)=l.any p):=by
 refine QU.intro (G:=λF=>G0 F/\Qz F q n 2 (l.flatMap D0)) func221 rfl wm rfl rfl x (λF' h=>⟨hg F F' h h0,o.le h⟩)<|QNz<|wQ rfl<|QG<|wR rfl<|QA (Qb rfl ZG)<|QMu rfl<|QMt<|QQ<|J2 (ι:=Dp l p) [(0,_),(1,_),(7,_)] (λi=>[(8,.int .i64 ((i.i:Nat):Int))]) (λi=>l.length-i.i) (Dp.start _ _) wU wS λi=>?_
 have hi:=i.le;refine wA 6 I ?_;refine QP I (λa=>?_) λa=>?_
 ·have d:i.i<l.length:=wg<|QOW a
  have g:=Qy d;refine QOn 15 I<|QA (Qs (n:=n) i.i w8 rfl rfl ZG Xb O)<|QA (J0 (n:=n) (vs:=[tx (el l i.i).1,tx (el l i.i).2]) ((i.i)*2) w8 O rfl Xb I λj v hv=>JX (f:=D0) (l:=l) (λ_=>rfl) O hv)<|GQ (c1:=c1) (c2:=c2) rfl rfl (λw F f k=>hc _ g w F f k.1) λ_=>QE<|QD ?_
  refine QP I (λa=>?_) λa=>?_
  ·have b:=a;refine wA 6 I<|X4 ?_
   exact QO (((i.i:Nat):Int)) I (wN I) (rfl) λF _=>by rw[decide_eq_true O,List.any_eq_true.2 ⟨_,g,b⟩]
  have b:=a;refine QN<|Qf<|QD<|QB<|QA (Qk I I O)<|wB 2 I ?_
  exact Qh (i.next d b) (by show l.length-(i.i+1)<l.length-i.i;omega) wV QNG w7
 have m:l.length<=i.i:=wg<|QOX a
 refine Q7 ?_;refine wA 6 I ?_;exact QO ((-1:Int)) I (wN I) (rfl) λF _=>by rw[Bool.eq_false_iff.2 (i.stop m)];rfl
theorem QGe{q:Option Addr}{f:Nat}{p:(List UInt8×List UInt8)->Bool}{c1 c2:List Value}{G0:Gs->Prop}(g:Fits F w)(hg:∀F F',Gs.le F F'->G0 F->G0 F')(h0:G0 F)(d:Qz F q n 2 (l.flatMap D0))(b:l.length=n)(hb:n<=1000000)(hc:∀e∈l,∀w F,Fits F w->G0 F->QX prog f (c1++[.agg #[tx e.1,tx e.2]]++c2) w F (.bool (p e))):QX prog 158 [.slice q n c,.func (.func f) c1.toArray c2.toArray] w F (.bool (l.any p)):=by
 refine QU.intro (G:=λF=>G0 F/\Qz F q n 2 (l.flatMap D0)) func158 rfl wm rfl rfl g (λF' a=>⟨hg F F' a h0,d.le a⟩)<|QNz<|wQ rfl<|wR rfl<|QMu rfl<|QL rfl (λ_ _ f k=>QIW (p:=p) f hg k.1 k.2 b hb hc) λi=>J5 _ (λ_ _ f h=>h.2) λh7=>QA (QM rfl rfl rfl)<|wQ rfl<|QW ?_
 exact QO2 I I (congrArg af h7.symm) wy
theorem QIU{a b:List UInt8}(c:Fits F w):QX prog 159 [.agg #[tx a,tx b]] w F (.bool (a != b)):=by
 refine QU.go (G:=λF=>True) func159 c trivial ?_;refine QNz<|Qv I (vs:=[_,_]) I λb1=>QOm 5 I<|QA (QH I Vu JQ)<|QA (Qa I JQ .here .h1)<|QA (QH I WM JQ)<|QA (Qa I JQ .here (.skip .h1))<|QA (xf I I)<|wQ I<|QW ?_
 exact QO2 I I (rfl) wy
theorem QEK{q:Option Addr}(d:Fits F w)(b:Qz F q n 2 (l.flatMap D0))(a:l.length=n)(hb:n<=1000000):QX prog 81 [.slice q n c] w F (.bool (!(l.any λs=>s.1 != s.2))):=by
 refine QU.go (G:=λF=>Qz F q n 2 (l.flatMap D0)) func81 d b ?_;refine wA 8 I<|QL I (λw F g k=>QGe (f:=159) (c1:=[]) (c2:=[]) (p:=λs=>s.1 != s.2) (G0:=λ_=>True) g (λ_ _ _ _=>trivial) trivial k a hb λe he w F g _=>QIU g) λ_=>QA (Jw I)<|wQ I<|QW ?_
 exact QO2 I I (rfl) wy
theorem QDl{c:Sr×List Px}{o:Nat}(j:Fits F w)(hy:KM F y)(i:y.st.n<=1000000)(x:o<=16)(hx:∀s∈y.sl,s.1=s.2):QX prog 32 [.agg (IY y c).toArray,.int .i64 (o:Int)] w F (.int .i64 0):=by
 have a:=hy.Sq;have d:(y.sl.any λs=>s.1 != s.2)=false:=List.any_eq_false.2 λs g=>by simp[hx s g]
 refine QU.go (G:=λF=>KM F y) func32 j hy ?_;refine QNz<|Qv I (vs:=[_,_,_,_,_]) I λb2=>wQ I<|QG<|JO QNG mixed wi<|QK (QC I)<|QK (QM (v:=.bool false) rfl rfl (congrArg (λb=>some (af b)) (decide_eq_false O)))<|QK (QC I)<|JF I I<|QK (QC I)<|JF I I<|QK (QM (v:=.bool false) rfl rfl (congrArg (λb=>some (af b)) (decide_eq_false O)))<|QK (QS I I I)<|QZ I (λ_ _ f k=>W5 (b:=false) f) λ_=>QK (QH I QB5 H5)<|QK (QH I Vv ZF)<|QK (Qa I ZF .here (.skip (.skip .h1)))<|QZ I (λ_ _ f k=>QEK f k.1.st a i) λ_=>?_
 rw[d];refine QK (Jw I)<|QZ I (λ_ _ f k=>W5 (b:=false) f) λ_=>?_
 refine JK I (Jc Yv) WR Fj I I (λm=>?_) (λw h=>h.imp tB λF h=>h.1.1.1);refine QZ I (λ_ _ f k=>BG (l:=[0,0]) f (Qz.of k.2 I) wj) (λ_=>QK (QF I)<|Qw<|QD<|QW ?_);exact QO2 I I (rfl) wy
theorem QGK{q:Option Addr}{c:Nat}(x:Fits F w)(d:JU F)(o:Qz F q n 4 (YO xs))(m:Vp F xs)(i:xs.length=n)(j:n<=1000000)(hz:∀p∈xs,J6 p.2<=1800):
  QU prog 34 [.slice q n c] w F (λ(c:Sr)=>.tuple #[c.v,.int .i64 0]) (λc F=>Qz F c.q c.n 1 ((jI xs).map tx)/\c.n=n/\c.n<=c.cap):=by
 have b:(xs.any λe:Fr×Rat=>XV e.2)=false:=List.any_eq_false.2 λe he=>by rw[Wr (hz e he) (aa _)];decide
 refine QU.go (G:=λF=>JU F/\Qz F q n 4 (YO xs)/\Vp F xs) func34 x ⟨d,o,m⟩ ?_;refine wA 10 I<|QL I (λw F g k=>QAL (f:=86) (c1:=[]) (c2:=[]) (p:=λe:Fr×Rat=>XV e.2) (G0:=λF=>JU F/\Vp F xs) g (λF F' a h=>⟨h.1.le a,h.2.le a⟩) ⟨k.1,k.2.2⟩ k.2.1 i j λe he w F g hG=>SH g hG.1 (hG.2 e he) (wg<|hz e he)) λ_=>?_
 rw[b];refine QMt<|Zq I<|QOn 5 I<|QL I (λ_ _ f k=>zQ f k.1.1 k.1.2.1 k.1.2.2 i j λp hp=>wg<|hz p hp) λy=>QOm 5 I ?_
 exact Xm (y) rfl (wO I I) (rfl) w8
theorem xA:GZ prog 33=some 45:=wi
def YA.s0(y:YA):List Rat:=y.vs.map Prod.fst
def eqI9(a:Int):Od .eql (.int .i64 a) (.int .i64 a)=some (.bool true):=by simp[Od]
def QLr(a:Int):Od .neq (.int .i64 a) (.int .i64 a)=some (.bool false):=by simp[Od]
def Fl(A:Se)(o:Nat):List (List UInt8):=(bB (o+1)).map λk=>Q5 (A k)
def Lk(A:Se)(o:Nat):(Fl A o).length=o+1:=by simp[Fl]
def QHn(A:Se){o k:Nat}(h:k<o+1):el (Fl A o) k=Q5 (A k):=by
 rw[JB (by rw[Lk];exact h)];simp[Fl]
def QHp(a:xs.length=o+1)(h:∀i,i<o+1->(el xs i).2=A i):jI xs=Fl A o:=by
 refine List.ext_getElem (by simp[jI,Fl,a]) λi h1 h2=>?_;have hi:i<xs.length:=by simpa[jI]using h1
 have:=h i O;rw[JB hi]at this;simp[jI,Fl,this]
def SxR(F:Gs)(c:Sr)(A:Se)(o:Nat):Prop:=Qz F c.q (o+1) 1 ((Fl A o).map tx)/\c.n=o+1
structure SeI(n:Nat) where
 i:Nat
 y:Value
 ob:List (Nat×Obj)
 tl:List Sr
 le:i<=n
 hl:tl.length=i
 hr:Q2 45 1 y i (tl.map Sr.v) ob
structure QNr(F:Gs)(c:Sr×List Sr)(X:Nat->Se)(n o:Nat):Prop where
 row:Qz F c.1.q n 1 (c.2.map Sr.v)
 nn:c.1.n=n
 len:c.2.length=n
 at_:∀v,v<n->SxR F (el c.2 v) (X (v+1)) o
def QIc{tl:List Sr}(r:Sr){i v:Nat}(a:tl.length=i)(hv:v<i+1):el (tl++[r]) v=if v=i then r else el tl v:=by
 unfold el;rw[List.getD_eq_getElem?_getD,List.getD_eq_getElem?_getD];by_cases e:v=i
 ·subst e;rw[if_pos rfl,List.getElem?_append_right O,a,eN];rfl
 rw[if_neg e,List.getElem?_append_left O]
structure QLF(y:YA)(o:Nat):Prop where
 ok:QDa y.rs y.s0 o
 ex:∀s∈y.sl,s.1=s.2
 sz:∀v,v<=y.nm.n->∀k,k<o+1->J6 (Se.IG y.rs y.s0 v k)<=1800
def QE2(h:∀s∈y.sl,XF s.1 s.2=0)(ht:Sg y){v:Nat}(hv:v<y.sl.length):(el y.sl v).1=Q5 (el y.s0 v)/\(el y.sl v).1.length<=1000000:=by
 have hm:=Qy hv;refine⟨(XW (B3 (h _ hm)).1).1.trans (congrArg Q5 ?_),(ht.st _ hm).1⟩;rw[JB hv,JB (by simpa[YA.s0,YA.vs]using hv)];simp only[YA.s0,YA.vs,eu];rfl
def QHq{c:Sr×List Px}(h:NW F c y.rs)(ht:Sg y){e:Px}(he:e∈c.2):e.2.length<=1000000:=by
 have h1:KP e.2∈y.rs:=by rw[<-h.val];exact aD he
 obtain⟨a,ha,b⟩:=List.mem_map.1 h1;have e3:=congrArg eQ b;have h3:=(ht.tm a ha).2.2;simp only[Hs,VJ,KP,ak]at e3;omega
theorem cY{o:Nat}(hF:Fits F w)(d:JU F)(hy:KM F y)(ht:Sg y)(he:y.e=0)(ho:QLF y o):QU prog 9 [y.v,.int .i64 (o:Int)] w F (λ(c:Sr×List Sr)=>.tuple #[c.1.v,.int .i64 0]) (λc F=>QNr F c (Se.IG y.rs y.s0) y.nm.n o):=by
 have z:=hy.ok he;have hn0:=z.n0;have hn1:=z.n1;have hsn:=z.sn;have hyl:=hy.Sq;have ho16:=ho.ok.le;have hrs:y.rs.length=y.nm.n:=by have:=hy.EC;have:=z.rn;simp only[YA.rs,ak];omega
 refine QU.go (G:=λF=>JU F/\KM F y) func9 hF ⟨d,hy⟩ ?_;refine QNz<|Qv I (vs:=[_,_,_]) I λb2=>QOm 6 I<|QA (wI I H5 .here)<|QL I (λ_ _ f k=>QDI (y:=y) f k.1 k.2 ht he) λc15=>wB 3 I<|Qe uT λb6=>QV (vs:=[_,_,_,_,_]) I I I UC I .here .h5 wW<|QOm 7 I<|QA (QM (v:=.bool true) rfl rfl (eqI9 _))<|QMt<|WV I<|QB<|QA (QR (vs:=[_,_,_,_,_]) I UC .here .h5 rfl)<|QMu I<|QL I (λ_ _ f k=>QDl f k.1.2 O ho16 ho.ex) λ_=>QOm 7 I<|QA (QM (v:=.bool false) rfl rfl (QLr _))<|QE<|QD ?_
 refine Zq rfl<|QOn 4 I<|wQ rfl<|QG<|QNz<|QA (QR (vs:=[_,_,_,_,_]) rfl UC .here .h5 rfl)<|QMu rfl<|QL rfl (λ_ _ f k=>QEM (y:=y) (c:=c15) (rs:=y.rs) (st:=y.s0) (o:=o) f k.1.1.1 k.1.1.2 k.1.2 hrs hsn O (λv hv=>QE2 z.st ht O) (λe he=>QHq k.1.2 ht he) ho.ok) λm=>J5 _ (λw F hF ⟨⟨⟨⟨d,hy⟩,E⟩,_⟩,b⟩=>ff b.n (ff b.cap b.len)) λe28=>?_
 obtain⟨e28,k28,l28⟩:=e28;refine QA (QFN 1 rfl rfl rfl UE Mc O O) ?_;rw[e28];obtain⟨q9,hq9⟩:∃q9,q9=(if m.1.cap=1 then m.1.q else m.1.q.map λa=>a.add (1*1)):=⟨_,rfl⟩;rw[<-hq9,show y.nm.n+1-1=y.nm.n from by omega];have x:∀F,QMp F m (Se.IG y.rs y.s0) (y.nm.n+1) o->Qz F q9 y.nm.n 1 ((m.2.map λr=>r.v (o+1)).drop (1*1)):=λF h=>by
  have:=h.row.drop h.cap 1;rw[<-hq9]at this;exact this
 refine QA (Qb I UE)<|QOm 4 I<|Jf (ι:=SeI y.nm.n) [(29,_),(30,_)] (λi=>[(8,i.y),(31,.int .i64 ((i.i:Nat):Int))]) (λi=>[_,_]++i.ob) (λi F=>∀v,v<i.i->SxR F (el i.tl v) (Se.IG y.rs y.s0 (v+1)) o) (λi=>y.nm.n-i.i) (⟨0,.slice none 0 0,[],[],aq _,rfl,.nil⟩) wT wT QNG (λ_ _ v h=>absurd h (eD v)) λi=>?_
 have hi:=i.le;have K:=i.hl;refine wA 6 I ?_;refine QP I (λX=>?_) λX=>?_
 ·have hlt:i.i<y.nm.n:=wg<|QOW X
  refine QOn 6 I<|QA (Qs (n:=y.nm.n) i.i (λF h9=>(x _ h9.1.2)) I I UE Mc O) ?_
  refine QA (Qu (n:=y.nm.n) ((i.i)*1) (λF h9=>(x _ h9.1.2)) O rfl Mc (by rw[List.getElem?_drop,show 1*1+(i.i)*1=((i.i)+1)*1 from by omega];exact X0 (f:=λr:Rw=>r.v (o+1)) (l:=m.2) O)) ?_;refine QOm 6 I ?_;obtain⟨hb1,hb2⟩:True/\True:=⟨trivial,trivial⟩;refine QL I (λw F hF ⟨⟨⟨⟨⟨d,hy⟩,E⟩,_⟩,b⟩,hT⟩=>QGK (n:=o+1) (xs:=(el m.2 (i.i+1)).xs) hF d (b.at_ _ O).1 (b.at_ _ O).2.1 (b.at_ _ O).2.2.1 O (λp hp=>by
   obtain⟨j,hj,rfl⟩:=aE hp;have g:=(b.at_ (i.i+1) O).2.2;rw[<-JB hj,g.2.1 j O];exact ho.sz _ O _ O)) λc37=>?_
  refine J5 _ (λw F hF ⟨⟨⟨⟨⟨⟨d,hy⟩,E⟩,_⟩,b⟩,hT⟩,Y⟩=>ff Y.2.1 (QHp (b.at_ (i.i+1) O).2.2.1 (b.at_ (i.i+1) O).2.2.2.1)) (λH=>?_);obtain⟨H,x37⟩:=H;refine QOm 11 I<|QA (QM (v:=.bool false) rfl rfl (QLr _))<|QMt<|Zq I<|QOn 5 I<|JC I (Jc xA) US QJc I I λb45=>?_
  refine Z1 (bs1:=[_,_]) (ob:=i.ob) (n:=i.i) (k:=1) (sz:=1) (news:=[c37.v]) I I xA US QJc I QJW i.hr (Src.row (off:=0) w8 (λj q hq=>by rw[ao];rw[List.getElem?_toArray];exact hq) rfl) O O (λv hv=>by rw[List.mem_singleton.1 hv];rfl) (λv46 ob46 hr46=>?_);refine wB 2 I<|Qf<|QD<|QB<|QA (Qk I I O)<|wB 2 I ?_
  exact Qh (⟨i.i+1,v46,ob46,i.tl++[c37],hlt,by rw[ax,K];rfl,by rw[az];exact hr46⟩) (by show y.nm.n-(i.i+1)<y.nm.n-i.i;omega) wV QNG (λF ⟨⟨⟨⟨⟨⟨⟨d,hy⟩,E⟩,_⟩,b⟩,hT⟩,Y⟩,hs45⟩=>⟨⟨⟨⟨⟨d,hy⟩,E⟩,trivial⟩,b⟩,λv hv=>by
   have hv:v<i.i+1:=hv;rw[QIc c37 K hv];by_cases e:v=i.i
   ·rw[if_pos e,e];refine⟨?_,H⟩;have:=Y.1;rw[x37,H]at this;exact this
   rw[if_neg e];exact hT v O⟩)
 have L:i.i=y.nm.n:=wg<|QOX X
 refine Q7 ?_;refine QG ?_;obtain⟨r8,hv8,hrn8,hrc8,U⟩:=Q2.fix (w0:=w) (F0:=F) (bs1:=[_,_]) (G:=_) i.hr;refine P5 U ?_;rw[hv8];dsimp only[Sr.v];refine QOn 7 I ?_;exact Xm (((r8,i.tl):Sr×List Sr)) I (wO I I) (rfl) λF h9=>⟨by have:=h9.2;rw[L]at this;exact this,hrn8.trans L,K.trans L,λv hv=>h9.1.2 v O⟩
structure Pd(F b T N:Nat)(d:Int)(l:List Tm):Prop where
 len:l.length<=T
 t:∀u∈l,Cl F 1 b u.1/\u.2.length=N/\(∀x∈u.2,0<=x)/\u.2.sum<=d
def exY(s:List UInt8×List UInt8):Bool:=s.1==s.2
theorem QA4(m:Fits F w)(hy:KM F y)(o:y.st.n<=9223372036854775807):QX prog 5 [y.v] w F (.bool (y.sl.all exY)):=by
 have j:=hy.Sq;refine QU.intro (G:=λF=>KM F y) func5 rfl wm rfl rfl m (λF' g=>hy.le g)<|QNz<|Qv rfl (vs:=[_,_,_]) rfl λb1=>wQ rfl<|QG<|QNz<|wQ rfl<|QQ<|J2 (ι:=Wq y.sl exY) [(1,_)] (λi=>[(3,.int .i64 ((i.i:Nat):Int))]) (λi=>y.sl.length-i.i) (Wq.start _ _) wS wS λi=>?_
 simp only[aF,bm];have hi:=i.le;refine wA 4 I<|QA (QH I Vv ZF)<|QA (Qa I ZF .here (.skip (.skip .h1)))<|QA (Qb I ZG)<|QOm 3 I ?_
 refine QP I (λa=>?_) λa=>?_
 ·have b:i.i<y.sl.length:=wg<|QOW a
  have k:=Qy b;refine QOn 5 I<|JO QNG mixed wi<|QK (QH I Vv ZF)<|QK (Qa I ZF .here (.skip (.skip .h1)))<|QK (QC I)<|QK (Qs (n:=y.st.n) i.i (λF hy=>hy.st) rfl rfl ZG Xb O)<|QK (QH I Vu JQ)<|QK (Qu (n:=y.st.n) ((i.i)*2+0) (λF hy=>hy.st) O rfl JQ (JX (f:=D0) (l:=y.sl) Yy O rfl))<|QK (QH I Vv ZF)<|QK (Qa I ZF .here (.skip (.skip .h1)))<|QK (QC I)<|QK (Qs (n:=y.st.n) i.i (λF hy=>hy.st) rfl rfl ZG Xb O)<|QK (QH I WM JQ)<|QK (Qu (n:=y.st.n) ((i.i)*2+1) (λF hy=>hy.st) O rfl JQ (JX (f:=D0) (l:=y.sl) Yy O rfl))<|QK (xf I I)<|Qw<|QD ?_
  refine QP I (λa=>?_) λa=>?_
  ·have c:exY (el y.sl i.i)=false:=by have h:=a;rw[aB]at h;exact h
   refine wA 6 I ?_
   repeat first|refine Pv ?_|refine MJ ?_
   exact QO2 I I (congrArg af (i.hit b c)) wy
  have c:exY (el y.sl i.i)=true:=by have h:=a;rw[aV]at h;exact h
  refine QN<|Qf<|QOo 3 I<|QA (Qk I I O)<|wB 2 I ?_
  exact Qh (i.next b c) (by show y.sl.length-(i.i+1)<y.sl.length-i.i;omega) wT QNG w6
 have d:y.sl.length<=i.i:=wg<|QOX a
 refine Kc ?_
 repeat first|refine XI ?_|refine XA wm ?_
 refine XJ<|QOo 7 I ?_
 exact QO2 I I (congrArg af (i.stop d)) wy
def dR(y:YA):Nat:=BB (Bo y.rs)
def dS(y:YA):Nat:=BB y.s0
def dP(P:List Tm):Nat:=BB (P.map (·.1))
structure Lz(y:YA):Prop where
 m1:1<=y.rs.length
 m2:y.rs.length<=2
 nm:y.nm.n=y.rs.length
 s0:y.s0.length=y.rs.length
 ex:∀s∈y.sl,s.1=s.2
 can:∀p∈y.rs,Canon p
 r:∀k,k<y.rs.length->Pd (dR y) 30 3 (y.rs.length+1) 2 (el y.rs k)
 s:∀v,v<y.rs.length->Cl (dS y) 1 30 (el y.s0 v)
 zr:sz ((dR y:Nat):Int)<=181
 zs:sz ((dS y:Nat):Int)<=61
theorem QJv{F G E al be Bc s T f g e:Nat}{rs:List (List Tm)}{st:List Rat}(d:0<F)(hG:0<G)(h:0<E)(a:o<=16)(c:∀v,v<rs.length+1->Se.Gr (sN G E al) be B (o+1) (Se.IG rs st v))(hr:∀k,k<rs.length->Se.TmK F Bc (rs.length+1) s (el rs k)/\(∀t∈el rs k,PW t.2)/\(el rs k).length<=T)
  (b:sz ((F:Nat):Int)<=f) (hg:sz ((G:Nat):Int)<=g) (he:sz ((E:Nat):Int)<=e) (hz:be*o+Bc+s*(B+o)+T+B+o+3*(f+(o*g+1)+((al*o+s+1)*e+1))<=40000000):QDa rs st o :=
 ⟨a,λk hk v hv=>by
  obtain⟨h1,h2,h3⟩:=hr v hv;refine Se.QHS.of (F:=F) (G:=G) (E:=E) (al:=al) (be:=be) (B:=B) (Bc:=Bc) (T:=T) (f:=f) (g:=g) (e:=e) d hG h (λu hu i hi=>?_) h1 h2 h3 b hg he ?_
  ·rw[<-Se.vu rs st k u i O];exact c u hu i O
  have m:be*(k+1)<=be*o:=ah _ O;have j:s*(B+(k+1))<=s*(B+o):=ah _ O;have a3:(k+1)*g<=o*g:=ae _ O;have a4:(al*(k+1)+s+1)*e<=(al*o+s+1)*e:=ae _ (by have:=ah al (show k+1<=o by omega);omega);omega⟩
structure Lp(y:YA)(P:List Tm):Prop where
 can:Canon P
 p:Pd (dP P) 14 3 (y.rs.length+1) 2 P
 z:sz ((dP P:Nat):Int)<=43
section
variable{y:YA}{P:List Tm}(h:Lz y)(hp:Lp y P)
def vx(y:YA)(P:List Tm):Rat:=Se.cmp (Se.IG y.rs y.s0) P 0
def sx(y:YA)(P:List Tm):List Rat:=y.s0++[vx y P]
include h hp
end
def UJ(A:Se)(n:Nat)(a:List Xf):Prop:=a.length=n+1/\∀k,k<=n->el a k=(A k,A k)
def ud(a b:Rat):XP (a,a) (b,b)=(a*b,a*b):=by
 unfold XP WU;simp[Xx]
theorem UJ.cst(c:Rat)(n:Nat):UJ (Se.C c) n (WT c n):=⟨Kx c n,λk hk=>by
 cases k with
 |zero=>rfl
 |succ k =>
  have e:Se.C c (k+1)=0:=if_neg O;rw[e];show el (bO n ((0,0):Xf)) k=_;rw[JB (by rw[List.length_replicate];omega)];simp⟩
theorem UJ.clk:∀n,UJ Se.T n (ZA (0,0) n)
 |0=>⟨rfl,λk hk=>by cases (show k=0 by omega);rfl⟩
 |n+1=>⟨Vg _ _,λk hk=>by
  match k,hk with
  |0,_=>rfl
  |1,_=>rfl
  |k+2,hk =>
   have e:Se.T (k+2)=0:=if_neg O;rw[e];show el (bO n ((0,0):Xf)) k=_;rw[JB wv];simp⟩
section
variable{A B:Se}{n:Nat}{a b:List Xf}
theorem UJ.plus(ha:UJ A n a)(hb:UJ B n b):UJ (A+B) n (VY a b):=⟨(Hh a b).trans ha.1,λk hk=>by
 unfold VY;rw[Z8 _ (by rw[ha.1];omega),ha.2 k hk,hb.2 k hk];rfl⟩
def QDT(ha:UJ A n a)(hb:UJ B n b){m:Nat}(hm:m<=n):∀i,i<=m+1->Vq a b m i=(Se.pr A B m i,Se.pr A B m i)
 |0,_=>rfl
 |i+1,hi=>by
  rw[Bs,QDT ha hb hm i O,ha.2 i O,hb.2 (m-i) O,ud,Se.pr,if_pos O];rfl
theorem UJ.times(ha:UJ A n a)(hb:UJ B n b):UJ (A*B) n (Yi a b):=⟨(BV a b).trans ha.1,λk hk=>by
 unfold Yi;rw[Z8 _ (by rw[ha.1];omega),QDT ha hb hk (k+1) (aa _),Se.QBI]⟩
def UJ.pwr(ha:UJ A n a)(hb:UJ B n b):∀e,UJ (A*Se.pw B e) n (GS a b e)
 |0=>by show UJ (A*Se.C 1) n a;rw[Se.mul_one];exact ha
 |e+1=>by
  have h:=(UJ.pwr ha hb e).times hb;unfold GS;rw[eC,fb,Se.pw,<-Se.mul_assoc];exact h
end
def UJ.zY{W:Nat->Se}(c:Rat)(ks:List Int)(h:∀v,v<all.length->UJ (W v) n (el all v)):∀i,i<=all.length->UJ (Se.C c*Se.zY W ks i) n (Ki c ks all n i)
 |0,_=>by show UJ (Se.C c*Se.C 1) n (WT c n);rw[Se.mul_one];exact UJ.cst c n
 |i+1,hi=>by
  have h1:=(UJ.zY c ks h i O).pwr (h i O) (Qg ks i).toNat;unfold Ki;rw[eC,fb,Se.zY,<-Se.mul_assoc];exact h1
theorem UJ.QNL{W:Nat->Se}{p:List Tm}(h:∀v,v<all.length->UJ (W v) n (el all v))(hp:∀u∈p,u.2.length=all.length):UJ (Se.cmp W p) n (Z6 p all n):=by
 have key:∀j,j<=p.length->UJ (Se.cmp W (p.take j)) n (Z6 (p.take j) all n):=by
  intro j
  induction j with
  |zero =>
   intro _;show UJ Se.LQ n (WT 0 n);rw[<-Se.QLR];exact UJ.cst 0 n
  |succ j ih =>
   intro a;rw[BX a,Se.QAM W a (el p j) (by rw[JB a];exact List.getElem?_eq_getElem a)];refine(ih O).plus ?_;rw[hp _ (Qy a)];exact UJ.zY _ _ h _ (aa _)
 have h1:=key p.length (aa _)
 rwa [aQ]at h1
theorem QCk{rs:List (List Tm)}{st:List Rat}(c:st.length=rs.length)(b:∀p∈rs,vA (rs.length+1) p):∀k i,i<rs.length->UJ (Se.IG rs st (i+1)) k (el (Jk rs (0,0) (st.map λs=>(s,s)) k) i)
 |0,i,hi=>by
  have e:el (Jk rs (0,0) (st.map λs=>(s,s)) 0) i=[(el st i,el st i)]:=by
   show el ((st.map λs=>(s,s)).map λx=>[x]) i=_;rw[JB wv];simp[JB (show i<st.length by omega)]
  rw[e];refine⟨rfl,λk hk=>?_⟩;obtain rfl:k=0:=O;rw[(Se.QA0 b).st i hi];rfl
 |k+1,i,hi=>by
  have d:i<(st.map λs=>(s,s)).length:=wv;have ih:=QCk c b k;have a:=Kf rs (0,0) (st.map λs=>(s,s)) k d;have h1:UJ (Se.cmp (Se.IG rs st) (el rs i)) k (Z6 (el rs i) (ZA (0,0) k::Jk rs (0,0) (st.map λs=>(s,s)) k) k):=by
   refine UJ.QNL (λv hv=>?_) λu hu=>?_
   ·rw[aw,ZM,ak]at hv
    match v,hv with
    |0,_=>rw[(Se.QA0 b).t];exact UJ.clk k
    |v+1,hv=>exact ih v O
   rw[aw,ZM,ak,c];exact b _ (Qy hi) u hu
  rw[Jk,Z8 _ d];refine⟨by rw[ax,a];rfl,λj h=>?_⟩;rcases ek j (k+1)with g | g
  ·rw[Te O];exact(ih i hi).2 j O
  obtain rfl:j=k+1:=O;have f:Se.IG rs st (i+1) (k+1)=Se.cmp (Se.IG rs st) (el rs i) k*((((k+1:Nat):Int):Rat)⁻¹):=by
   rw[Se.Dat ((Se.QA0 b).ode i hi) k,eU];rfl
  rw[PZ a,h1.2 k (aa _),ud,f]
def wdS(w:Rat)(a:Xf):Xf:=(a.1-w,a.2+w)
structure TsF(y:YA)(wd:List UInt8):Prop where
 few:qx y 2 2 4=true
 ex:y.sl.all exY=true
 fw:WL wd ((4:Nat):Int)=true
 sg:0<=Jr wd
structure TsB(y:YA)(n:Nat)(t:List UInt8×List UInt8)(r:Sr)(l:List (List UInt8×List UInt8)):Prop where
 bt:BxT r l
 se:Ll y t l n=0
 sk:QLH y.rs (Jp t) (lV l) n/\uF y.rs (Jp t) (lV l) n/\∀b∈Jk y.rs (Jp t) (lV l) n,∀a∈b,GP a 45000
 sz:∀b∈Jk y.rs (Jp t) (lV l) n,∀a∈b,GP a 1800
theorem QCg{Q:Nat}{rs:List (List Tm)}{t:Xf}(h:SmS 14 4 2 m rs)(hv:vb.length=m)(h0:0<Q)(ht:V0 Q 1 20 t)(hb:∀x∈vb,V0 Q 1 20 x)(a:n<=4):TyD (BB (Bo rs)) 12 Q 20 1 4 n rs t vb:=by
 subst hv;refine⟨BA _,wj,h0,λk hk=>?_,λi hi u hu=>?_,λi hi=>h.len _ (Qy hi),ht,hb,h.hn⟩
 ·have:k=0\/k=1\/k=2\/k=3:=O;rcases this with rfl | rfl | rfl | rfl<;>decide
 have h1:=h.Nd _ (Qy hi) u hu;exact⟨qD (BA _) (N9 (l:=Bo rs) (List.mem_flatMap.2 ⟨_,Qy hi,aD (f:=λu:Tm=>u.1) hu⟩)) (aC h1.1 wj),h1.2.1⟩
theorem QGV{rs:List (List Tm)}(h:SmS 14 4 2 m rs)(hm:m<=2):sz ((BB (Bo rs):Nat):Int)<=113:=by
 have h1:=Ly (l:=Bo rs) (k:=14) λr hr=>by
  obtain⟨p,hp,hr⟩:=List.mem_flatMap.1 hr;obtain⟨u,hu,rfl⟩:=List.mem_map.1 hr;exact(h.Nd p hp u hu).1
 have h4:(Bo rs).length<=m*4:=h.hn ▸ yX h.len;have h5:(Bo rs).length*14<=8*14:=ae _ O;omega
def QB4{rs:List (List Tm)}(h:SmS 14 4 2 m rs)(hm:m<=2):sz ((BB (Bo rs)*12:Nat):Int)<=117:=by
 have h1:=QGV h hm;have h2:=vD (BB (Bo rs)) 12;have h3:sz ((12:Nat):Int)=4:=wj;omega
def tsz(h0:1<=n)(a:n<=4):tyN 20 1 4 n*n+20+(n*117+(1*n+1)*43+2)+2<=1800:=by
 have:n=1\/n=2\/n=3\/n=4:=O;rcases this with rfl | rfl | rfl | rfl<;>decide
section
variable{y:YA}{wd:List UInt8}(h:TsF y wd)(hl:ke y)(hrl:y.rl.length=y.rt.n)(hyo:y.e=0->jF y)(hsl:y.sl.length=y.st.n)
include h hl hrl hyo hsl
theorem TsF.sm:y.e=0/\shS y=true/\SmY y y.rt.n/\SmS 14 4 2 y.rt.n y.rs/\y.rt.n<=2/\y.nm.n=y.rt.n:=by
 have h0:=h.few;have h1:C1 y 2 4=true:=by unfold qx at h0;rw[ai]at h0;exact h0.1
 have h2:=pN h1;have h3:=QGT (dd:=2) (g:=4) (z:=14) hl hrl (hyo h2.2.1) h2.1 h0 wj wj wj;have h4:=uo (dd:=2) (g:=4) (z:=14) h0 wj hrl;rw[hrl]at h3 h4;exact⟨h2.2.1,h2.1,h3.1,h4.1,O,(hyo h2.2.1).rn.symm⟩
theorem TsF.sn:y.st.n=y.rt.n/\y.rs.length=y.rt.n/\y.s0.length=y.rs.length:=by
 obtain⟨he,b,c,a,hm,f⟩:=h.sm hl hrl hyo hsl;have d:=hyo he;have h1:=d.sn;have h2:=a.hn;exact⟨O,h2,by simp only[YA.s0,YA.vs,ak];omega⟩
theorem TsF.st:y.sl.all (Mx ((4:Nat):Int))=true:=by
 have h0:=h.few;have h1:C1 y 2 4=true:=by unfold qx at h0;rw[ai]at h0;exact h0.1
 refine List.all_eq_true.2 λs a=>?_;rcases(pN h1).2.2.2 with e | e
 ·rw[e]at hsl;rw[List.eq_nil_of_length_eq_zero hsl]at a;cases a
 exact e.2 s a
theorem TsF.same:lV y.sl=y.s0.map λs=>(s,s):=by
 unfold lV YA.s0 YA.vs;rw[bz,bz];refine List.map_congr_left λs a=>?_;have h1:=List.all_eq_true.1 h.ex s a;unfold exY at h1;have h1:=eq_of_beq h1;show(Jr s.1,Jr s.2)=(Jr s.1,Jr s.1);rw[h1]
theorem TsF.s0z:∀r∈y.s0,J6 r<=14:=λr hr=>by
 obtain⟨x,hx,rfl⟩:=List.mem_map.1 hr;exact((pM (h.st hl hrl hyo hsl) (z:=14) wj).2.2 x hx).1
theorem TsF.wz:J6 (Jr wd)<=14:=jP h.fw wj
def tsQ(y:YA)(a:List UInt8):Nat:=BB (Jr a::y.s0)
omit h hl hrl hyo hsl in
theorem vf(y:YA)(a:List UInt8):0<tsQ y a:=BA _
theorem TsF.qz:sz ((tsQ y wd:Nat):Int)<=43:=by
 have h1:=Ly (l:=Jr wd::y.s0) (k:=14) λr hr=>by
  rcases List.mem_cons.1 hr with rfl | hr
  ·exact h.wz hl hrl hyo hsl
  exact h.s0z hl hrl hyo hsl r hr
 have h2:=h.sn hl hrl hyo hsl;have h3:=h.sm hl hrl hyo hsl;have h4:(Jr wd::y.s0).length*14<=3*14:=ae _ (by rw[aw];omega);unfold tsQ;omega
theorem TsF.clW:Cl (tsQ y wd) 1 14 (Jr wd):=qD (BA _) (N9 (l:=Jr wd::y.s0) (.head _)) (h.wz hl hrl hyo hsl)
theorem TsF.clS{r:Rat}(hr:r∈y.s0):Cl (tsQ y wd) 1 14 r:=qD (BA _) (N9 (l:=Jr wd::y.s0) (.tail _ hr)) (h.s0z hl hrl hyo hsl r hr)
theorem TsF.sys(Y:n<=4):QLF y n:=by
 obtain⟨he,K,L,a,hm,X⟩:=h.sm hl hrl hyo hsl;obtain⟨e1,z,e3⟩:=h.sn hl hrl hyo hsl;have b:=BA (Bo y.rs);have hG:0<BB (Bo y.rs)*12:=aW b wj;have i:=vf y wd;have j:∀p∈y.rs,Se.TmK (BB (Bo y.rs)) 14 (y.rs.length+1) 2 p:=λp hp=>⟨λu hu=>qD (BA _) (N9 (l:=Bo y.rs) (List.mem_flatMap.2 ⟨_,hp,aD (f:=λu:Tm=>u.1) hu⟩)) (a.Nd p hp u hu).1,λu hu=>by rw[z];exact(a.Nd p hp u hu).2.2.1,λu hu=>by rw[z];exact(a.Nd p hp u hu).2.1⟩;have w:=Se.QE3 (F:=BB (Bo y.rs)) (G:=BB (Bo y.rs)*12) (E:=tsQ y wd) (al:=1) (be:=40) (B:=14) (Bc:=14) (Iv:=12) (d:=2) (T:=4) (o:=4) (rs:=y.rs) (st:=y.s0) b hG i rfl wj wj (λp hp=>⟨j p hp,a.len p hp⟩) (λv hv=>h.clS hl hrl hyo hsl (Qy O)) wj;have H:=QGV a hm;have m:=QB4 a hm;have qz:=h.qz hl hrl hyo hsl;have ok:QDa y.rs y.s0 4:=QJv (F:=BB (Bo y.rs)) (G:=BB (Bo y.rs)*12) (E:=tsQ y wd) (al:=1) (be:=40) (B:=14) (Bc:=14) (s:=2) (T:=4) (f:=113) (g:=117) (e:=43) b hG i wj (λv hv=>w 5 (aa _) v O) (λk hk=>⟨j _ (Qy hk),λu hu=>⟨λx hx=>by
  have:=(a.Nd _ (Qy hk) u hu).2.2.2 x hx;omega,wg<|(a.Nd _ (Qy hk) u hu).2.2.1⟩,a.len _ (Qy hk)⟩) H m qz wj
 refine⟨⟨O,λk hk=>ok.c k O⟩,λs U=>?_,λv hv k hk=>?_⟩
 ·have:=List.all_eq_true.1 h.ex s U;unfold exY at this;exact eq_of_beq this
 have h1:=(w 5 (aa _) v O).sz (Z:=800) (O4 hG i) (λk hk=>by
  have h3:=vD ((BB (Bo y.rs)*12)^k) (tsQ y wd^(1*k+1));have h4:=qg (BB (Bo y.rs)*12) k;have h5:=qg (tsQ y wd) (1*k+1);have h6:k*sz ((BB (Bo y.rs)*12:Nat):Int)<=4*117:=ay O m;have h7:(1*k+1)*sz ((tsQ y wd:Nat):Int)<=5*43:=ay O qz;unfold sN;omega) (show k<5 by omega)
 omega
theorem TsF.points(h0:1<=n)(m:n<=4):TsB y n ([48],[48]) y.st y.sl:=by
 obtain⟨he,o,i,g,hm,k⟩:=h.sm hl hrl hyo hsl;obtain⟨x,E,e3⟩:=h.sn hl hrl hyo hsl;have f:=h.st hl hrl hyo hsl;have d:=pM f (z:=14) wj;have c:y.sl.length=y.rt.n:=hsl.trans x;rw[c]at d;have hv:(Jp ([48],[48]))=((0:Rat),(0:Rat)):=wk;have j:ShB y.rt.n (lV y.sl):=⟨by rw[Wj];exact c,λa ha=>(d.2.2 a ha).mono wj,d.2.1⟩;have w:TyD (BB (Bo y.rs)) 12 (tsQ y wd) 20 1 4 n y.rs (0,0) (lV y.sl):=by
  have h1:=vf y wd;refine QCg g (by rw[Wj];exact c) h1 ⟨Cl.zero 1 _,Cl.zero 1 _⟩ (λa ha=>?_) m;rw[h.same hl hrl hyo hsl]at ha;obtain⟨r,hr,rfl⟩:=List.mem_map.1 ha;exact⟨(h.clS hl hrl hyo hsl hr).mono h1 (aa _) wj,(h.clS hl hrl hyo hsl hr).mono h1 (aa _) wj⟩
 refine⟨QKx hsl O wj f,?_,?_,?_⟩
 ·unfold Ll Uy;rw[he,k,d.1,show XF [48] [48]=0 from by decide +kernel,if_neg wv];rfl
 ·rw[hv];exact QE6 i hm j ⟨wj,wj⟩ m
 rw[hv];intro b hb a ha;exact(QCr w (QB4 g hm) (h.qz hl hrl hyo hsl) (aa _) b hb a ha).mono (tsz h0 m)
def qm(y:YA)(w:Rat):List Xf:=(bB y.rt.n).map λi=>wdS w (el (lV y.sl) i)
theorem TsF.QLe(h0:1<=n)(L:n<=4){r:Sr}(hr:r.n=y.rt.n):TsB y n (Q5 (-Jr wd),wd) r (UD (qm y (Jr wd)))/\ZZ (lV y.sl) (qm y (Jr wd))/\Jp (Q5 (-Jr wd),wd)=(-Jr wd,Jr wd):=by
 obtain⟨he,hss,E,m,hm,K⟩:=h.sm hl hrl hyo hsl;obtain⟨e1,e2,e3⟩:=h.sn hl hrl hyo hsl;have x:=h.st hl hrl hyo hsl;have k:=pM x (z:=14) wj;have g:y.sl.length=y.rt.n:=hsl.trans e1;have f:(lV y.sl).length=y.rt.n:=by rw[Wj];exact g
 have hsg:=h.sg;have w:=h.wz hl hrl hyo hsl;rw[g]at k;have hv:Jp (Q5 (-Jr wd),wd)=(-Jr wd,Jr wd):=by
  show(Jr (Q5 (-Jr wd)),Jr wd)=_;rw[Mi]
 have d:(qm y (Jr wd)).length=y.rt.n:=by simp[qm]
 have hnz:J6 (-Jr wd)<=14:=by rw[Mj];exact w
 have c:ZZ (lV y.sl) (qm y (Jr wd)):=⟨f.trans d.symm,λi hi=>by
  have U:i<y.rt.n:=f ▸ hi;have h1:=k.2.1 i hi;unfold qm;rw[Z8 _ U];refine⟨?_,h1,?_⟩<;>(unfold wdS;grind)⟩
 have j:∀a∈qm y (Jr wd),GP a 30:=λa ha=>by
  obtain⟨i,hi,rfl⟩:=List.mem_map.1 ha;have h1:=k.2.2 _ (Qy (show i<(lV y.sl).length by rw[f];exact List.mem_range.1 hi));have h2:=QCm (el (lV y.sl) i).1 (Jr wd);have h3:=FZ (el (lV y.sl) i).2 (Jr wd);have:=h1.1;have:=h1.2;exact⟨by show J6 (_-_)<=_;omega,by show J6 (_+_)<=_;omega⟩
 have H:ShB y.rt.n (qm y (Jr wd)):=⟨d,λa ha=>(j a ha).mono wj,c.QJ6⟩;have hD:TyD (BB (Bo y.rs)) 12 (tsQ y wd) 20 1 4 n y.rs (-Jr wd,Jr wd) (qm y (Jr wd)):=by
  have h1:=vf y wd;have o:=h.clW hl hrl hyo hsl;refine QCg m d h1 ⟨o.neg.mono h1 (aa _) wj,o.mono h1 (aa _) wj⟩ (λa ha=>?_) L;obtain⟨i,hi,rfl⟩:=List.mem_map.1 ha;have h2:=Qy (show i<(lV y.sl).length by rw[f];exact List.mem_range.1 hi);rw[h.same hl hrl hyo hsl]at h2;obtain⟨r,hr,e⟩:=List.mem_map.1 h2;rw[h.same hl hrl hyo hsl,<-e];have hc:=h.clS hl hrl hyo hsl hr;refine⟨?_,?_⟩
  ·show Cl _ _ _ (r-Jr wd);rw[Rat.sub_eq_add_neg];exact(Cl.add h1 hc o.neg).mono h1 (aa _) wj
  exact(Cl.add h1 hc o).mono h1 (aa _) wj
 have Y:=XW (Ek h.fw);refine⟨⟨?_,?_,?_,?_⟩,c,hv⟩
 ·exact QEx (F:=λ_=>none) (by rw[d,hr]) (by rw[hr];omega) λa ha=>(j a ha).mono wj
 ·have X:XF (Q5 (-Jr wd)) wd=0:=by
   rw[Y.1,Mi];exact Tn (Wr O (aa _)) Y.2 (by grind)
  unfold Ll Uy;rw[he,K,QAN d (λa ha=>(j a ha).mono wj) c.QJ6,X,if_neg wv];rfl
 ·rw[hv,QBf];exact QE6 E hm H ⟨by show J6 (-Jr wd)<=56;omega,by show J6 (Jr wd)<=56;omega⟩ L
 rw[hv,QBf];intro b hb a ha;exact(QCr hD (QB4 m hm) (h.qz hl hrl hyo hsl) (aa _) b hb a ha).mono (tsz h0 L)
theorem TsF.cmp(hi:i<y.rt.n)(f:j<=n):el (el (Jk y.rs (0,0) (lV y.sl) n) i) j=(Se.IG y.rs y.s0 (i+1) j,Se.IG y.rs y.s0 (i+1) j):=by
 obtain⟨he,b,c,a,hm,d⟩:=h.sm hl hrl hyo hsl;obtain⟨k,g,e3⟩:=h.sn hl hrl hyo hsl;rw[h.same hl hrl hyo hsl];exact(QCk e3 (λp hp u hu=>by rw[g];exact(a.Nd p hp u hu).2.2.1) n i O).2 j f
end
structure QNs(F:Gs)(c:Sr×List Sr)(X:Nat->Se)(n o:Nat):Prop where
 row:Qz F c.1.q n 1 (c.2.map Sr.v)
 len:c.2.length=n
 at_:∀v,v<n->Qz F (el c.2 v).q (el c.2 v).n 1 ((Fl (X (v+1)) o).map tx)/\(el c.2 v).n=o+1
section
variable{w:World}{F:Gs}{y:YA}
theorem QJw{o:Nat}(f:Fits F w)(a:JU F)(hy:KM F y)(ht:Sg y)(he:y.e=0)(b:QLF y o)(d:y.nm.n=n):
  QU prog 9 [y.v,.int .i64 (o:Int)] w F (λ(c:Sr×List Sr)=>.tuple #[.slice c.1.q n c.1.cap,.int .i64 0]) (λc F=>QNs F c (Se.IG y.rs y.s0) n o):=by
 have h1:=cY (o:=o) f a hy ht he b;subst d;exact h1.imp λc F1 h2=>⟨c,by rw[show c.1.v = .slice c.1.q y.nm.n c.1.cap from by rw[Sr.v,h2.nn]],λF2 k=>⟨h2.row.le k,h2.len,λv hv=>by
  have h3:=h2.at_ v hv;exact⟨by rw[h3.2];exact h3.1.le k,h3.2⟩⟩⟩
theorem vG{n:Nat}{t:List UInt8×List UInt8}{r:Sr}(k:Fits F w)(g:JU F)(hy:KM F y)(ht:Sg y)(d:t.1.length<=1000000/\t.2.length<=1000000)(hx:qd F r l)(h:TsB y n t r l):
  QU prog 10 [y.v,.agg #[tx t.1,tx t.2],r.v,.int .i64 (n:Int)] w F (λ(c:Sr×List Sr)=>.tuple #[c.1.v,.int .i64 0]) (λc F=>Oj F c (Jk y.rs (Jp t) (lV l) n)):=by
 have h1:=ur (o:=(n:Int)) k g hy ht d hx h.bt λ_=>⟨h.sk.2.1,λb hb a ha=>(h.sk.2.2 b hb a ha).mono wj⟩;have f:(Jk y.rs (Jp t) (lV l) (Int.toNat (n:Int))).any K1=false:=any_none λj i=>QLq (h.sz _ (Qy i));rw[h.se,Fs,f]at h1;exact h1
theorem QHs{s:List UInt8}(a:Fits F w)(h:JW s=0):QX prog 14 [tx s] w F (tx (Q5 (-Jr s))):=by
 have h1:=QCv (x:=Jr s) a (wg<|Yx h)
 rwa [<-(XW h).1]at h1
theorem QHr{q:Option Addr}{cap:Nat}(f:Fits F w)(d:Qz F q n 1 ((Fl A o).map tx))(b:n=o+1)(g:o<=4)(hz:∀k,k<o+1->J6 (A k)<=1800):QX prog 15 [.slice q n cap] w F (.int .i64 0):=by
 have hm:∀s∈Fl A o,∃k,k<o+1/\s=Q5 (A k):=λs a=>by
  obtain⟨k,hk,rfl⟩:=List.mem_map.1 a;exact⟨k,List.mem_range.1 hk,rfl⟩
 have h1:=qj (c:=cap) f d ⟨by rw[Lk,b],λs a=>by
  obtain⟨k,hk,rfl⟩:=hm s a;have:=WA (A k);have:=hz k hk;omega⟩ O
 have h2:Qn ((Fl A o).map JW)=0:=Aj λx hx=>by
  obtain⟨s,a,rfl⟩:=List.mem_map.1 hx;obtain⟨k,hk,rfl⟩:=hm s a;exact Nf (Wr (hz k hk) (aa _))
 rw[h2]at h1;exact h1
theorem QHu{c:Sr}{rs:List Xf}(b:Fits F w)(a:qd F c (UD rs))(hc:BxT c (UD rs))(h:M6 c.n (UD rs)=0):QX prog 16 [.slice c.q c.n c.cap] w F (.int .i64 0):=by
 have h1:=Us (c:=c.cap) b a.row ⟨a.len,hc.t⟩ hc.n;unfold M6 at h;rw[if_neg (λk=>k a.len)]at h;rw[h]at h1;exact h1
theorem QL5{s:List UInt8}{B:Xf}(a:s=Q5 x)(c:Fits F w)(hx:J6 x<=1800)(hb:GP B 1800)(h:Dy x B):QX prog 17 [tx s,spT B] w F (.bool true):=by
 subst a;have h1:=QJE (x:=x) (b:=B) c O ⟨wg hb.1,wg hb.2⟩;rw[decide_eq_true ((Tj _ _).2 h.1),decide_eq_true ((Tj _ _).2 h.2)]at h1;exact h1
end
def QAq(y:YA)(a:List UInt8):Bool:=!(qx y 2 2 4)||!(y.sl.all exY)||!(WL a 4)||decide (Na (Jr a).num<0)
theorem QJi{a:List UInt8}(h:QAq y a=false):TsF y a:=by
 unfold QAq at h;simp only[bj,aV,decide_eq_false_iff_not]at h;obtain⟨⟨⟨h1,h2⟩,h3⟩,h4⟩:=h;refine⟨h1,h2,h3,Rat.num_nonneg.1 (Int.not_lt.1 λk=>h4 ?_)⟩;unfold Na;rw[if_pos k];decide
end Go.Proofs.YtogkbhegfnklhaaGreatDoor
