/- Steps of the proof of the theorem in the last file. -/
import Derived.Test.YtpmehagnedbkhaaGreatDoorQ0
import Derived.Laws.IdiomArrays
import Derived.Laws.CopyRow
set_option linter.all false
set_option maxHeartbeats 4000000
open Go.Proofs.Tryz
namespace Go.Proofs.YtpmehagnedbkhaaGreatDoor
variable{α:Type}{N b cap i j k n o off z:Nat}{c:Sr×List VO}{a:K8}{cs:List Value}{w:World}{F:Gs}{q:Option Addr}{l:List (List UInt8×List UInt8)}{s:List UInt8}{d:Int}{y:Zh}{xs:List (Fr×Rat)}{ts:List Xa}{S S0:World->Prop}{V:Nat->Value}{bs':List (Nat×Obj)}
section
open Go.RowKit Go.ChangeShapes Go.WideShapes Ig
theorem xJ{f:α->List Value}{c:Array Value}(hf:∀x,(f x).length=k):∀(l:List α) (i0:Nat),(∀i x,l[i]?=some x->∀j,j<k->c[off+(i0+i)*k+j]?=(f x)[j]?)->∀p u,(l.flatMap f)[p]?=some u->c[off+i0*k+p]?=some u
 |[],_,_,p,u,e=>by simp at e
 |x::l,i0,h,p,u,e=>by
  rw[List.flatMap_cons]at e;rcases Nat.lt_or_ge p k with g | g
  ·rw[List.getElem?_append_left (by rw[hf];exact g)]at e;have:=h 0 x rfl p g;rw[Nat.add_zero]at this;rw[this,e]
  rw[List.getElem?_append_right (by rw[hf];exact g),hf]at e;have:=xJ hf l (i0+1) (λi y hy j hj=>by
   have:=h (i+1) y (by simpa using hy) j hj
   rwa [show i0+(i+1)=i0+1+i by omega]at this) (p-k) u e
  rwa [show off+(i0+1)*k+(p-k)=off+i0*k+p by rw[Nat.add_mul,Nat.one_mul];omega]at this
def dX:(⟨b,off,none⟩:Addr).add n=⟨b,off+n,none⟩:=by
 unfold Addr.add;split
 ·rename_i h;rw[h,Nat.add_zero]
 rfl
section
variable{H:Type}{enc:TypeId×Value->H}{w:World}
def zw{a:Addr}(h:w.cells? 0 a n=some cs):cs.length=n/\∀i,i<n->w.cell? (a.add i)=cs[i]?:=by
 unfold World.cells? at h;rw[if_pos (Nat.zero_le _)]at h;exact⟨by simpa using mapM_some_length h,λi hi=>by simpa using mapM_some_get h i i (by simp[hi])⟩
theorem Nc{fuel:Nat}{cs:List Value}{x:DataW H×List MemPlace}{t e:TypeId}{sz:Nat}{f:α->List Value}{Q:α->Prop}(ht:prog.underlying t=some (.slice e))(hc:prog.cellsOf e=sz)(h0:0<sz)(hf:∀x,(f x).length=sz)
  (hel:∀(n:Nat) (cs:List Value) (x:DataW H×List MemPlace),DataW.trod enc prog w 0 (λ_=>true) true n e cs=some x->∃y,cs=f y/\Q y)
  (hh:DataW.trod enc prog w 0 (λ_=>true) true fuel t cs=some x) :
  ∃(q:Option Addr) (n cap:Nat) (l:List α),cs=[.slice q n cap]/\Qy (Vc w) q n sz (l.flatMap f)/\l.length=n/\n<=9223372036854775807/\(∀y∈l,Q y)/\n<=cap:=by
 rcases DataW.trod_slice ht hh with ⟨e0,_⟩ | ⟨a',len,cap,elems,rest,n,_,e0,_,_,h1,h2,hlen,hg,_,_⟩
 ·exact⟨none,0,0,[],e0,Qy.nil _ _ _,rfl,Nat.zero_le _,λy hy=>(by cases hy),Nat.le_refl _⟩
 subst e0;rw[hc]at hg;have key:∀i,i<len->∃y:α,w.cells? 0 (a'.add (i*sz)) sz=some (f y)/\Q y:=λi hi=>by
  have e:=hg i hi;rw[List.getElem?_eq_getElem O,Option.bind_eq_some_iff]at e;obtain⟨cs,hcs,htr⟩:=e;obtain⟨y,rfl,hq⟩:=hel _ _ _ htr;exact⟨y,hcs,hq⟩
 have hm:len<=9223372036854775807:=by have:=h2;unfold maxLen at this;omega
 have build:∀m,m<=len->∃l:List α,l.length=m/\(∀i x,l[i]?=some x->w.cells? 0 (a'.add (i*sz)) sz=some (f x))/\∀y∈l,Q y:=by
  intro m
  induction m with
  |zero=>exact λ_=>⟨[],rfl,λi x e=>by simp at e,λy hy=>by cases hy⟩
  |succ m ih =>
   intro hm';obtain⟨l,hl,hx,hQ⟩:=ih O;obtain⟨y,hy,hq⟩:=key m O;refine⟨l++[y],by simp[hl],λi x e=>?_,λz hz=>by rcases List.mem_append.1 hz with hz | hz;exact hQ z hz;rw[List.mem_singleton.1 hz];exact hq⟩;rcases Nat.lt_or_ge i m with g | g
   ·rw[List.getElem?_append_left O]at e;exact hx i x e
   have:i=m:=by
    have:=(List.getElem?_eq_some_iff.1 e).1;simp at this;omega
   subst this;rw[List.getElem?_append_right O,hl,Nat.sub_self]at e;simp only[List.getElem?_cons_zero,Option.some.injEq]at e;rw[<-e];exact hy
 obtain⟨l,hl,hx,hQ⟩:=build len (Nat.le_refl _);refine⟨some a',len,cap,l,rfl,⟨?_,λhn=>?_⟩,hl,hm,hQ,h1⟩
 ·rw[List.length_flatMap];have:∀l:List α,(l.map λx=>(f x).length).sum=l.length*sz:=λl=>by
   induction l with
   |nil=>simp
   |cons x l ih=>rw[List.map_cons,List.sum_cons,ih,hf,List.length_cons,Nat.add_mul];omega
  rw[this,hl]
 have c0:=hx 0 (l[0]' O) (List.getElem?_eq_getElem _);have g0:=(zw c0).2 0 h0;have hs:(f (l[0]' O))[0]?=some ((f (l[0]' O))[0]'(by rw[hf];exact h0)):=List.getElem?_eq_getElem _;rw[hs,Nat.zero_mul]at g0;have ea:(a'.add 0).add 0=a':=rfl;rw[ea]at g0;obtain⟨b',off,spot⟩:=a';unfold World.cell? at g0;split at g0
 ·rename_i c T fr hheap;split at g0
  ·cases g0
  rename_i hsp;have:spot=none:=by cases spot with
   |none=>rfl
   |some s=>simp at hsp
  subst this;refine⟨b',off,c,T,rfl,by unfold Vc;rw[hheap],λj u hu=>?_⟩;have:=xJ (off:=off) (c:=c) hf l 0 (λi x e j hj=>?_) j u hu
  ·rwa [Nat.zero_mul,Nat.add_zero]at this
  have:=(zw (hx i x e)).2 j hj;rw[dX,dX]at this;unfold World.cell? at this;rw[hheap]at this;simpa using this
 cases g0
end
end
open Go.RowKit Ig
def QEk(x y:Rat):Rat:=if Wx x y<=0 then x else y
def QEl(x y:Rat):Rat:=if Wx x y>=0 then x else y
def PN(a b:Rat×Rat):Rat×Rat:=(QEk (QEk (a.1*b.1) (a.1*b.2)) (QEk (a.2*b.1) (a.2*b.2)),QEl (QEl (a.1*b.1) (a.1*b.2)) (QEl (a.2*b.1) (a.2*b.2)))
section
open Go.RowKit Go.ChangeShapes Go.WideShapes Ig
section
variable{H:Type}{enc:TypeId×Value->H}{w:World}
theorem QAW(n:Nat)(cs:List Value)(x:DataW H×List MemPlace)(h:DataW.trod enc prog w 0 (λ_=>true) true n 3 cs=some x):∃y:Int,cs=[Q7 y]/\True:=by
 obtain⟨z,rfl,_⟩:=DataW.trod_int QDm h;exact⟨z,rfl,trivial⟩
theorem QAZ(l:List Int):(l.flatMap λy=>[Q7 y])=l.map Q7:=by
 induction l with
 |nil=>rfl
 |cons a l ih=>rw[List.flatMap_cons,ih];rfl
theorem QDT(l:List (List UInt8)):(l.flatMap λy=>[tx y])=l.map tx:=by
 induction l with
 |nil=>rfl
 |cons a l ih=>rw[List.flatMap_cons,ih];rfl
end
end
section
open Go.RowKit Go.ChangeShapes Go.WideShapes Ig
def uo(t:Gn):Prop:=t.f.length<=9223372036854775807/\t.k.length<=9223372036854775807
section
variable{H:Type}{enc:TypeId×Value->H}{w:World}
theorem yS{t:TypeId}{v:Value}{x:DataW H×List MemPlace}(ht:prog.underlying t=some .string)(h:DataW.trod enc prog w 0 (λ_=>true) true n t [v]=some x):∃l,v=tx l/\l.length<=9223372036854775807:=by
 obtain⟨s,e,_,hs⟩:=DataW.trod_string ht h;obtain⟨rfl⟩:=List.cons.inj e;exact⟨s.data.toList,by simp[tx],by unfold maxLen at hs;simpa using hs⟩
set_option maxRecDepth 100000 in
theorem Cn(n:Nat)(cs:List Value)(x:DataW H×List MemPlace)(h:DataW.trod enc prog w 0 (λ_=>true) true n 54 cs=some x):∃y:Gn,cs=KI y/\JP (Vc w) y.r y.k/\uo y:=by
 obtain⟨yz0,y1,m,_,hl,h0,h1⟩:=trod_struct2 underlying54 h;have c2:prog.cellsOf 54=2:=wm;have c1:prog.cellsOf 41=1:=wm;have c3:prog.cellsOf 52=1:=wm;rw[c2]at hl
 match cs,hl with
 |[a,b],_ =>
  dsimp only at h0 h1;rw[c1]at h0;rw[c3]at h1;obtain⟨f,rfl,hf⟩:=yS ux (v:=a) h0;obtain⟨q,n,cap,l,e,hR,hn,hb,_,hc⟩:=Nc (cs:=[b]) (f:=λy=>[Q7 y]) (Q:=λ_=>True) underlying52 (show prog.cellsOf 3=1 by kernel_rfl) wu (λ_=>rfl) QAW h1;obtain⟨rfl⟩:=(List.cons.injEq _ _ _ _ ▸ e:_/\_).1;rw[QAZ]at hR;exact⟨⟨f,⟨q,n,cap⟩,l⟩,rfl,⟨hR,hn,hc⟩,hf,by rw[hn];exact hb⟩
set_option maxRecDepth 100000 in
theorem pj{m:Nat}{v:Value}{x:DataW H×List MemPlace}(h:DataW.trod enc prog w 0 (λ_=>true) true m 28 [v]=some x):
  ∃a:K8,v=a.1.v/\Ka (Vc w) a.1 a.2 (J0 a.2)/\(∀t∈a.2,uo t)/\a.1.n<=9223372036854775807:=by
 obtain⟨q,n,cap,l,h1,h2,h3,h4,h5,h6⟩:=Nc (cs:=[v]) (f:=KI) (Q:=λy=>JP (Vc w) y.r y.k/\uo y) underlying28 (show prog.cellsOf 54=2 by kernel_rfl) wu (λ_=>rfl) Cn h;exact⟨(⟨q,n,cap⟩,l),(List.cons.injEq _ _ _ _ ▸ h1:_/\_).1,⟨h2,λt ht=>(h5 t ht).1,rfl,h6,h3⟩,λt ht=>(h5 t ht).2,h4⟩
end
end
def ClS(Q d b:Nat)(x:Rat×Rat):Prop:=Cl Q d b x.1/\Cl Q d b x.2
def QGL(l:List SpQ):Prop:=∀i,i<l.length->(el l i).1<=(el l i).2
def qW{nl:List (List UInt8)}{rl:List Pt}{sl:List (List UInt8×List UInt8)}(h1:nl.length≠0)(h2:¬nl.length>24)(h3:rl.length=nl.length/\sl.length=nl.length):BB nl rl sl=Qn [Gb nl,Qn (rl.map λp=>XB p nl.length),Qn (sl.map λs=>ZJ s.1 s.2)]:=by
 unfold BB;rw[if_neg h1,if_neg h2,if_neg O]
theorem QEb{c:Nat}{l:List (List UInt8)}{v:List UInt8}(hF:Fits F w)(hR:Qy F q n 1 (l.map tx))(hn:l.length=n)(hb:n<=1000000000):Qb prog 197 [.slice q n c,tx v] w F (.bool (decide (v∈l))):=by
 refine QU.intro (G:=λF=>Qy F q n 1 (l.map tx)) func197 rfl wy rfl rfl hF (λF' hF'=>hR.le hF')<|QGi<|wQ rfl<|QG<|QGi<|wQ rfl<|QS<|J2 (ι:=NoI l v) [(0,_),(1,_)] (λi=>[(5,.int .i64 ((i.i:Nat):Int))]) (λi=>l.length-i.i) (⟨0,Nat.zero_le _,λj h=>absurd h (Nat.not_lt_zero _)⟩) wT wS λi=>?_
 simp only[List.cons_append,List.nil_append];have hi:=i.le;refine wA 5 I<|QA (Qf I Yf)<|QHB 3 I ?_
 refine QP I (λhc2=>?_) λhc2=>?_
 ·have hlt:i.i<l.length:=wk<|QGx hc2
  have hem:=JK hlt;refine QHC 8 I<|QA (Q2 (n:=n) i.i w9 rfl rfl Yf Hx O)<|QA (Qz (n:=n) ((i.i)*1) w9 O I Hx (ZD (f:=tx) (l:=l) O))<|QF5 I<|QA (Y6 I I)<|QE<|QD ?_
  refine QP I (λhc2=>?_) λhc2=>?_
  ·have h17:el l i.i=v:=eq_of_beq hc2;refine wA 6 I ?_
   repeat first|refine Qw ?_|refine Qp ?_
   exact QHT I I (congrArg Value.bool (decide_eq_true (by rw[<-h17];exact hem))) w8
  have h17:¬el l i.i=v:=by simpa using hc2
  refine QM<|Qi<|QHD 3 I<|QA (Qm I I O)<|wB 2 I ?_
  exact Qj (⟨i.i+1,hlt,λj hj=>by rcases Nat.lt_succ_iff_lt_or_eq.1 hj with h | rfl;exact i.h j h;exact h17⟩) (by show l.length-(i.i+1)<l.length-i.i;omega) wU QGJ w9
 have hge:l.length<=i.i:=wk<|QGy hc2
 refine Qv ?_
 repeat first|refine QV ?_|refine QQ wy ?_
 refine QW<|QHD 7 I ?_
 exact QHT I I (congrArg Value.bool (decide_eq_false (i.stop hge))) w8
theorem QEc{c:Nat}{l:List (List UInt8)}{v:List UInt8}(hF:Fits F w)(hR:Qy F q n 1 (l.map tx))(hn:l.length=n)(hb:n<=1000000000):Qb prog 88 [.slice q n c,tx v] w F (.bool (decide (v∈l))):=by
 refine QU.intro (G:=λF=>Qy F q n 1 (l.map tx)) func88 rfl wy rfl rfl hF (λF' hF'=>hR.le hF')<|QGi<|wQ rfl<|wR rfl<|QF5 rfl<|QJ rfl (λ_ _ f k=>QEb f k hn hb) λ_=>wQ rfl<|QT ?_
 exact QHT I I (rfl) w8
section
open Go.RowKit Go.ChangeShapes Go.WideShapes Ig
section
variable{H:Type}{enc:TypeId×Value->H}{w:World}
def QF9(n:Nat):Prop:=n<=9223372036854775807
theorem pE(n:Nat)(cs:List Value)(x:DataW H×List MemPlace)(h:DataW.trod enc prog w 0 (λ_=>true) true n 9 cs=some x):∃y:List UInt8,cs=[tx y]/\y.length<=9223372036854775807:=by
 obtain⟨s,rfl,_,hs⟩:=DataW.trod_string underlying9 h;refine⟨s.data.toList,by simp[tx],?_⟩;unfold maxLen at hs;have:s.data.toList.length=s.size:=wz;omega
set_option maxRecDepth 100000 in
theorem ph(m:Nat)(cs:List Value)(x:DataW H×List MemPlace)(h:DataW.trod enc prog w 0 (λ_=>true) true m 28 cs=some x):
  ∃a:K8,cs=[a.1.v]/\(Qy (Vc w) a.1.q a.1.n 2 (a.2.flatMap KI)/\Zz (Vc w) a.2)/\a.2.length=a.1.n/\QF9 a.1.n/\∀t∈a.2,uo t:=by
 obtain⟨q,n,cap,l,h1,h2,h3,h4,h5,h6⟩:=Nc (cs:=cs) (f:=KI) (Q:=λy=>JP (Vc w) y.r y.k/\uo y) underlying28 (show prog.cellsOf 54=2 by kernel_rfl) wu (λ_=>rfl) Cn h;exact⟨(⟨q,n,cap⟩,l),h1,⟨h2,λt ht=>(h5 t ht).1⟩,h3,h4,λt ht=>(h5 t ht).2⟩
def QBg(l:List K8):(l.flatMap λa=>[a.1.v])=l.map λe=>e.1.v:=by
 induction l with
 |nil=>rfl
 |cons a l ih=>rw[List.flatMap_cons,ih];rfl
end
end
section
open Go.RowKit Go.ChangeShapes Go.WideShapes Ig
section
variable{H:Type}{enc:TypeId×Value->H}{w:World}
set_option maxRecDepth 100000 in
theorem QAL{v:Value}{d:DataW H}{p:List MemPlace}(hv:Value.okWide prog w .any b 28 v)(h:DataW.Trod enc prog w 0 (λ_=>true) true 28 v d p):
  ∃a:K8,v=a.1.v/\Ka (Vc w) a.1 a.2 (J0 a.2)/\(∀t∈a.2,uo t)/\a.1.n<=9223372036854775807:=by
 obtain⟨a,len,cap,rfl⟩:=okWide_slice underlying28 hv;obtain⟨fuel,hh⟩:=h;exact pj (m:=fuel) (v:=.slice a len cap) hh
end
end
end Go.Proofs.YtpmehagnedbkhaaGreatDoor
namespace Go.Proofs.YtpmehagnedbkhaaGreatDoor
variable{α:Type}{N b cap i j k n o off z:Nat}{c:Sr×List VO}{a:K8}{cs:List Value}{w:World}{F:Gs}{q:Option Addr}{l:List (List UInt8×List UInt8)}{s:List UInt8}{d:Int}{y:Zh}{xs:List (Fr×Rat)}{ts:List Xa}{S S0:World->Prop}{V:Nat->Value}{bs':List (Nat×Obj)}
open Go.RowKit Ig
def Se:=Nat->Rat
variable{A:Se}
namespace Se
def tl(f:Se):Se:=λk=>f (k+1)
def sc(c:Rat)(f:Se):Se:=λk=>c*f k
def cv:Se->Se->Nat->Rat
 |f,g,0=>f 0*g 0
 |f,g,k+1=>f 0*g (k+1)+cv f.tl g k
instance :Add Se:=⟨λf g k=>f k+g k⟩
instance :Mul Se:=⟨cv⟩
def C(c:Rat):Se:=λk=>if k=0 then c else 0
def zeroS:Se:=λ_=>0
def D(f:Se):Se:=λk=>((k+1:Nat):Rat)*f (k+1)
def Yj(f g:Se)(k:Nat):(f+g) k=f k+g k:=rfl
def Lg(f g:Se):(f*g) 0=f 0*g 0:=rfl
def PN(f g:Se)(k:Nat):(f*g) (k+1)=f 0*g (k+1)+(f.tl*g) k:=rfl
def ext{f g:Se}(h:∀k,f k=g k):f=g:=funext h
def add_comm(f g:Se):f+g=g+f:=ext λk=>Rat.add_comm _ _
def add_assoc(f g h:Se):f+g+h=f+(g+h):=ext λk=>Rat.add_assoc _ _ _
theorem Fa:∀(k:Nat) (f g h:Se),((f+g)*h) k=(f*h) k+(g*h) k
 |0,f,g,h=>by rw[Lg,Lg,Lg,Yj,Rat.add_mul]
 |k+1,f,g,h=>by
  have:=Fa k f.tl g.tl h;rw[PN,PN,PN,show(f+g).tl=f.tl+g.tl from rfl,this,Yj]
  grind
theorem add_mul(f g h:Se):(f+g)*h=f*h+g*h:=ext λk=>Fa k f g h
theorem gI(c:Rat):∀(k:Nat) (f g:Se),((sc c f)*g) k=c*(f*g) k
 |0,f,g=>by rw[Lg,Lg];show c*f 0*g 0=_;grind
 |k+1,f,g=>by
  have:=gI c k f.tl g;rw[PN,PN,show(sc c f).tl=sc c f.tl from rfl,this];show c*f 0*_+_=_
  grind
theorem QD2:∀(k:Nat) (f g:Se),(f*g) (k+1)=(f*g.tl) k+f (k+1)*g 0
 |0,f,g=>rfl
 |k+1,f,g=>by
  rw[PN,QD2 k f.tl g,PN];show f 0*g (k+2)+((f.tl*g.tl) k+f (k+2)*g 0)=f 0*g (k+2)+(f.tl*g.tl) k+f (k+2)*g 0
  grind
theorem cZ:∀(k:Nat) (f g:Se),(f*g) k=(g*f) k
 |0,f,g=>Rat.mul_comm _ _
 |k+1,f,g=>by
  rw[PN,QD2 k g f,cZ k f.tl g]
  grind
theorem mul_comm(f g:Se):f*g=g*f:=ext λk=>cZ k f g
def mul_add(f g h:Se):f*(g+h)=f*g+f*h:=by rw[mul_comm,add_mul,mul_comm g,mul_comm h]
theorem QEN(f g:Se):(f*g).tl=sc (f 0) g.tl+f.tl*g:=ext λk=>PN f g k
theorem dU:∀(k:Nat) (f g h:Se),(f*g*h) k=(f*(g*h)) k
 |0,f,g,h=>Rat.mul_assoc _ _ _
 |k+1,f,g,h=>by
  rw[PN,PN,QEN,Fa,gI,dU k f.tl g h,Lg,PN g h]
  grind
theorem mul_assoc(f g h:Se):f*g*h=f*(g*h):=ext λk=>dU k f g h
instance :Std.Associative (α:=Se) (·+·):=⟨add_assoc⟩
instance :Std.Commutative (α:=Se) (·+·):=⟨add_comm⟩
instance :Std.Associative (α:=Se) (·*·):=⟨mul_assoc⟩
instance :Std.Commutative (α:=Se) (·*·):=⟨mul_comm⟩
def cm(f:Se):f+zeroS=f:=ext λk=>Rat.add_zero _
def QEC(f:Se):zeroS+f=f:=ext λk=>Rat.zero_add _
theorem vX:∀(k:Nat) (f:Se),(zeroS*f) k=0
 |0,f=>Rat.zero_mul _
 |k+1,f=>by rw[PN,show zeroS.tl=zeroS from rfl,vX k f];show 0*_+0=(0:Rat);grind
theorem zF(f:Se):zeroS*f=zeroS:=ext λk=>vX k f
def QBT(f:Se):f*zeroS=zeroS:=by rw[mul_comm,zF]
def QGo(c:Rat):(C c).tl=zeroS:=ext λk=>rfl
theorem qG(c:Rat)(f:Se):∀k,(C c*f) k=c*f k
 |0=>rfl
 |k+1=>by rw[PN,QGo,vX];show c*_+0=_;grind
theorem QF8(a b:Rat):C a+C b=C (a+b):=ext λk=>by
 show(if k=0 then a else 0)+(if k=0 then b else 0)=(if k=0 then a+b else 0);by_cases h:k=0
 ·rw[if_pos h,if_pos h,if_pos h]
 rw[if_neg h,if_neg h,if_neg h];exact Rat.add_zero 0
theorem QCc(a b:Rat):C a*C b=C (a*b):=ext λk=>by
 rw[qG];show a*(if k=0 then b else 0)=(if k=0 then a*b else 0);split<;>simp
def one_mul(f:Se):C 1*f=f:=ext λk=>by rw[qG,Rat.one_mul]
def mul_one(f:Se):f*C 1=f:=by rw[mul_comm,one_mul]
def dz(f g:Se):D (f+g)=D f+D g:=ext λk=>Rat.mul_add _ _ _
theorem QGB(f:Se):(D f).tl=D f.tl+f.tl.tl:=ext λk=>by
 show((k+1+1:Nat):Rat)*f (k+2)=((k+1:Nat):Rat)*f (k+2)+f (k+2);rw[show((k+1+1:Nat):Rat)=((k+1:Nat):Rat)+1 from by rw[Rat.natCast_add];rfl]
 grind
theorem QAD:∀(k:Nat) (f g:Se),D (f*g) k=(D f*g) k+(f*D g) k
 |0,f,g=>by
  rw[Lg,Lg];show((0+1:Nat):Rat)*(f*g) 1=((0+1:Nat):Rat)*f 1*g 0+f 0*(((0+1:Nat):Rat)*g 1);rw[PN,Lg];show((1:Nat):Rat)*(f 0*g 1+f 1*g 0)=_
  grind
 |k+1,f,g=>by
  have ih:=QAD k f.tl g;rw[PN (D f) g,QGB,Fa,PN f (D g)];have h1:(f.tl*g) (k+1)=f 1*g (k+1)+(f.tl.tl*g) k:=PN f.tl g k;have h2:(f*g) (k+2)=f 0*g (k+2)+(f.tl*g) (k+1):=PN f g (k+1);show((k+1+1:Nat):Rat)*(f*g) (k+2)=((0+1:Nat):Rat)*f 1*g (k+1)+((D f.tl*g) k+(f.tl.tl*g) k)+(f 0*(((k+1+1:Nat):Rat)*g (k+2))+(f.tl*D g) k);have ih':((k+1:Nat):Rat)*(f.tl*g) (k+1)=(D f.tl*g) k+(f.tl*D g) k:=ih;have hc:((k+1+1:Nat):Rat)=((k+1:Nat):Rat)+1:=by rw[Rat.natCast_add];rfl
  rw[h2,hc];have h3:((0+1:Nat):Rat)=1:=rfl;rw[h3];have:(((k+1:Nat):Rat)+1)*(f 0*g (k+2)+(f.tl*g) (k+1))=(((k+1:Nat):Rat)+1)*f 0*g (k+2)+((k+1:Nat):Rat)*(f.tl*g) (k+1)+(f.tl*g) (k+1):=by grind
  rw[this,ih',h1]
  grind
theorem zM(f g:Se):D (f*g)=D f*g+f*D g:=ext λk=>QAD k f g
def D_O:D zeroS=zeroS:=ext λk=>Rat.mul_zero _
def D_C(c:Rat):D (C c)=zeroS:=ext λk=>Rat.mul_zero _
def cR:∀(k:Nat) {f f' g g':Se},(∀i,i<=k->f i=f' i)->(∀i,i<=k->g i=g' i)->(f*g) k=(f'*g') k
 |0,f,f',g,g',h1,h2=>by rw[Lg,Lg,h1 0 (Nat.le_refl _),h2 0 (Nat.le_refl _)]
 |k+1,f,f',g,g',h1,h2=>by rw[PN,PN,h1 0 O,h2 (k+1) (Nat.le_refl _),cR k (f:=f.tl) (f':=f'.tl) (λi hi=>h1 (i+1) O) λi hi=>h2 i O]
def Up(n:Nat)(f g:Se):Prop:=∀i,i<=n->f i=g i
theorem Up.mul{n:Nat}{f f' g g':Se}(h:Up n f f')(k:Up n g g'):Up n (f*g) (f'*g'):=λi hi=>cR i (λj hj=>h j O) λj hj=>k j O
theorem Up.add{n:Nat}{f f' g g':Se}(h:Up n f f')(k:Up n g g'):Up n (f+g) (f'+g'):=λi hi=>by rw[Yj,Yj,h i hi,k i hi]
def Up.refl{n:Nat}(f:Se):Up n f f:=λ_ _=>rfl
def pw(x:Se):Nat->Se
 |0=>C 1
 |e+1=>pw x e*x
def QBG(x:Se)(a:Nat):∀b,pw x (a+b)=pw x a*pw x b
 |0=>(mul_one _).symm
 |b+1=>by rw[<-Nat.add_assoc,pw,QBG x a b,pw,mul_assoc]
def Up.pw{n:Nat}{f g:Se}(h:Up n f g):∀e,Up n (Se.pw f e) (Se.pw g e)
 |0=>Up.refl _
 |e+1=>(h.pw e).mul h
def QF7(x:Se):∀e,D (pw x (e+1))=C ((e+1:Nat):Rat)*pw x e*D x
 |0=>by
  show D (C 1*x)=C 1*C 1*D x;rw[one_mul,QCc,Rat.mul_one,one_mul]
 |e+1=>by
  rw[pw,zM,QF7 x e];have hc:C ((e+1+1:Nat):Rat)=C ((e+1:Nat):Rat)+C 1:=by rw[QF8,Rat.natCast_add (e+1) 1];rfl
  rw[hc,add_mul,add_mul,one_mul,pw];congr 1
  ac_rfl
def Ez(W:Nat->Se)(ks:List Int):Nat->Se
 |0=>C 1
 |i+1=>Ez W ks i*pw (W i) (Qd ks i).toNat
def cV(W:Nat->Se){a b:List Int}(hl:a.length=b.length)(ha:∀x∈a,0<=x)(hb:∀x∈b,0<=x):∀m,Ez W (Jq a b) m=Ez W a m*Ez W b m
 |0=>(one_mul _).symm
 |m+1=>by
  have h1:=FF ha m;have h2:=FF hb m;rw[Ez,Ez,Ez,cV W hl ha hb m,Lw m hl,show(Qd a m+Qd b m).toNat=(Qd a m).toNat+(Qd b m).toNat by omega,QBG]
  ac_rfl
def cT(W:Nat->Se){ks:List Int}{i:Nat}{z:Int}(hi:i<ks.length):∀j,j<=i->Ez W (ks.set i z) j=Ez W ks j
 |0,_=>rfl
 |j+1,hj=>by rw[Ez,Ez,cT W hi j O,K4 hi,if_neg O]
def Up.Ez{n:Nat}{W V:Nat->Se}{ks:List Int}:∀ {m:Nat},(∀v,v<m->Up n (W v) (V v))->Up n (Se.Ez W ks m) (Se.Ez V ks m)
 |0,_=>Up.refl _
 |m+1,h=>(Up.Ez λv hv=>h v O).mul ((h m O).pw _)
def lin(f:List Int->Se):List Tm->Se
 |[]=>zeroS
 |t::l=>C t.1*f t.2+lin f l
def cmp(W:Nat->Se)(l:List Tm):Se:=lin (λks=>Ez W ks ks.length) l
def Ow(f:List Int->Se)(k:Nat):∀l,lin f l k=Z0 (λks=>f ks k) l
 |[]=>rfl
 |t::l=>by rw[lin,Yj,qG,Ow f k l];rfl
def QC8(f:List Int->Se){p q:List Tm}(h:Zv p q):lin f p=lin f q:=ext λk=>by rw[Ow,Ow,Li _ h]
def QC9(f:List Int->Se)(p q:List Tm):lin f (p++q)=lin f p+lin f q:=ext λk=>by rw[Ow,Yj,Ow,Ow,gk]
def L0(W:Nat->Se){p q:List Tm}(h:Zv p q):cmp W p=cmp W q:=QC8 _ h
def C3(W:Nat->Se)(p q:List Tm):cmp W (p++q)=cmp W p+cmp W q:=QC9 _ p q
theorem zu(W:Nat->Se){n:Nat}{s:Tm}(hs:s.2.length=n)(hn:∀x∈s.2,0<=x):∀ {q:List Tm},WN n q->cmp W (Jf s q)=C s.1*Ez W s.2 n*cmp W q
 |[],_=>(QBT _).symm
 |t::q,h=>by
  have ih:=zu W hs hn (h.cons).2;have h1:=h.w t wz;have h2:=h.nn t wz;show C (s.1*t.1)*Ez W (Jq s.2 t.2) (Jq s.2 t.2).length+cmp W (Jf s q)=C s.1*Ez W s.2 n*(C t.1*Ez W t.2 t.2.length+cmp W q);rw[ih,WT O,cV W O hn h2,mul_add,<-QCc,hs,h1];congr 1
  ac_rfl
theorem xi(W:Nat->Se){n:Nat}:∀ {p q:List Tm},WN n p->WN n q->cmp W (JC p q)=cmp W p*cmp W q
 |[],q,_,_=>(zF _).symm
 |s::p,q,hp,hq=>by
  have h1:=hp.w s wz;rw[XK,C3,zu W h1 (hp.nn s wz) hq,xi W hp.cons.2 hq];show _=(C s.1*Ez W s.2 s.2.length+cmp W p)*cmp W q;rw[add_mul,h1]
def Up.cmp{n m:Nat}{W V:Nat->Se}(h:∀v,v<m->Up n (W v) (V v)):∀ {l:List Tm},Xw m l->Up n (Se.cmp W l) (Se.cmp V l)
 |[],_=>Up.refl _
 |t::l,hl=>by
  refine Up.add (Up.mul (Up.refl _) ?_) (Up.cmp h hl.tail);show Up n (Se.Ez W t.2 t.2.length) (Se.Ez V t.2 t.2.length);rw[hl t wz];exact Up.Ez h
def sum(f:Nat->Se):Nat->Se
 |0=>zeroS
 |m+1=>sum f m+f m
def yO(f:Nat->Se)(y:Se):∀m,sum f m*y=sum (λj=>f j*y) m
 |0=>zF y
 |m+1=>by rw[sum,add_mul,yO f y m];rfl
def QC5(y:Se)(f:Nat->Se)(m:Nat):y*sum f m=sum (λj=>y*f j) m:=by
 rw[mul_comm,yO];exact congrArg (λg=>sum g m) (funext λj=>mul_comm _ _)
def FV{f g:Nat->Se}:∀m,(∀j,j<m->f j=g j)->sum f m=sum g m
 |0,_=>rfl
 |m+1,h=>by rw[sum,sum,FV m λj hj=>h j O,h m O]
def sum_add(f g:Nat->Se):∀m,sum f m+sum g m=sum (λj=>f j+g j) m
 |0=>cm _
 |m+1=>by rw[sum,sum,sum,<-sum_add f g m];ac_rfl
def QDo:∀m,sum (λ_=>zeroS) m=zeroS
 |0=>rfl
 |m+1=>by rw[sum,QDo m,cm]
def dm(W:Nat->Se)(ks:List Int)(m j:Nat):Se:=if 0<Qd ks j then C ((Qd ks j:Int):Rat)*Ez W (ks.set j (Qd ks j-1)) m*D (W j)else zeroS
theorem QEE(W:Nat->Se){ks:List Int}(hn:∀x∈ks,0<=x):∀m,m<=ks.length->D (Ez W ks m)=sum (dm W ks m) m
 |0,_=>D_C 1
 |m+1,hm=>by
  have hd:=FF hn m;rw[Ez,zM,QEE W hn m O,yO,sum];congr 1
  ·refine FV m λj hj=>?_;unfold dm;split
   ·rw[Ez,K4 (show j<ks.length by omega),if_neg (show ¬m=j by omega)]
    ac_rfl
   exact zF _
  unfold dm;by_cases g:0<Qd ks m
  ·rw[if_pos g,Ez,cT W (show m<ks.length by omega) m (Nat.le_refl _),K4 (show m<ks.length by omega),if_pos rfl];obtain⟨e,he⟩:∃e:Nat,Qd ks m=((e+1:Nat):Int):=⟨(Qd ks m).toNat-1,O⟩;rw[he,show(((e+1:Nat):Int)).toNat=e+1 from rfl,QF7,show(((e+1:Nat):Int)-1).toNat=e by omega];show _=C ((((e+1:Nat):Int)):Rat)*(Ez W ks m*pw (W m) e)*D (W m);rw[Rat.intCast_natCast]
   ac_rfl
  rw[if_neg g,show(Qd ks m).toNat=0 by omega];show Ez W ks m*D (C 1)=zeroS;rw[D_C,QBT]
def QBs(W:Nat->Se){j m:Nat}{t:Tm}(ht:t.2.length=m):cmp W (D6 j t)*D (W j)=C t.1*dm W t.2 m j:=by
 unfold D6 dm;by_cases g:0<Qd t.2 j
 ·rw[if_pos g,if_pos g];show(C (t.1*((Qd t.2 j:Int):Rat))*Ez W (t.2.set j (Qd t.2 j-1)) (t.2.set j (Qd t.2 j-1)).length+zeroS)*_=_;rw[cm,List.length_set,ht,<-QCc]
  ac_rfl
 rw[if_neg g,if_neg g,QBT];exact zF _
theorem chain(W:Nat->Se){m:Nat}:∀ {l:List Tm},WN m l->D (cmp W l)=sum (λj=>cmp W (X5 j l)*D (W j)) m
 |[],_=>by
  show D zeroS=_;rw[D_O];exact((FV m λj _=>zF _).trans (QDo m)).symm
 |t::l,h=>by
  have ih:=chain W h.cons.2;have h1:=h.w t wz;have h2:=h.nn t wz;show D (C t.1*Ez W t.2 t.2.length+cmp W l)=_;rw[dz,zM,D_C,zF,QEC,ih,h1,QEE W h2 m O,QC5,sum_add];refine FV m λj _=>?_;have e:X5 j (t::l)=D6 j t++X5 j l:=rfl;rw[e,C3,add_mul,QBs W h1]
def T:Se:=λk=>if k=1 then 1 else 0
theorem D_T:D T=C 1:=ext λk=>by
 show((k+1:Nat):Rat)*(if k+1=1 then 1 else 0)=(if k=0 then 1 else 0);by_cases h:k=0
 ·subst h;rw[if_pos rfl,if_pos rfl,Rat.mul_one];rfl
 rw[if_neg O,if_neg h,Rat.mul_zero]
structure Sol(rs:List (List Tm))(st:List Rat)(X:Nat->Se):Prop where
 t:X 0=T
 st:∀v,v<rs.length->X (v+1) 0=el st v
 ode:∀v,v<rs.length->D (X (v+1))=cmp X (el rs v)
def Dat{f g:Se}(h:D f=g)(k:Nat):f (k+1)=g k/((k+1:Nat):Rat):=by
 rw[<-h];show _=((k+1:Nat):Rat)*f (k+1)/((k+1:Nat):Rat);have:((k+1:Nat):Rat)≠0:=by
  intro e;have:((k+1:Nat):Rat)=((0:Nat):Rat):=e;have:=Rat.natCast_inj.1 this;omega
 rw[Rat.mul_comm,Rat.mul_div_cancel this]
theorem Sol.uni{rs:List (List Tm)}{st:List Rat}{X Y:Nat->Se}(hX:Sol rs st X)(hY:Sol rs st Y)(hw:∀p∈rs,Xw (rs.length+1) p):∀n v,v<=rs.length->Up n (X v) (Y v)
 |n,0,_=>by rw[hX.t,hY.t];exact Up.refl _
 |0,v+1,hv=>λi hi=>by
  have:i=0:=O;subst this;rw[hX.st v O,hY.st v O]
 |n+1,v+1,hv=>λi hi=>by
  cases i with
  |zero=>rw[hX.st v O,hY.st v O]
  |succ i =>
   rw[Dat (hX.ode v O) i,Dat (hY.ode v O) i];have:=Up.cmp (n:=n) (m:=rs.length+1) (W:=X) (V:=Y) (λu hu=>Sol.uni hX hY hw n u O) (hw _ (JK (show v<rs.length by omega)));rw[this i O]
theorem Sol.eq{rs:List (List Tm)}{st:List Rat}{X Y:Nat->Se}(hX:Sol rs st X)(hY:Sol rs st Y)(hw:∀p∈rs,Xw (rs.length+1) p){v:Nat}(hv:v<=rs.length):X v=Y v:=ext λk=>Sol.uni hX hY hw k v hv k (Nat.le_refl _)
end Se
end Go.Proofs.YtpmehagnedbkhaaGreatDoor
namespace Go.Proofs.YtpmehagnedbkhaaGreatDoor
variable{α:Type}{N b cap i j k n o off z:Nat}{c:Sr×List VO}{a:K8}{cs:List Value}{w:World}{F:Gs}{q:Option Addr}{l:List (List UInt8×List UInt8)}{s:List UInt8}{d:Int}{y:Zh}{xs:List (Fr×Rat)}{ts:List Xa}{S S0:World->Prop}{V:Nat->Value}{bs':List (Nat×Obj)}{A:Se}
open Go.RowKit Ig
theorem QCq(l:List (List UInt8×List UInt8)):∀v∈l.flatMap Ny,v.oneCell'=true:=λv hv=>by
 obtain⟨s,_,h⟩:=List.mem_flatMap.1 hv;simp only[Ny,List.mem_cons,List.not_mem_nil,or_false]at h;rcases h with rfl | rfl<;>rfl
def QDW{l:List Int}(h:k<l.length):Qd l k∈l:=by rw[ZH h];exact List.getElem_mem h
def DG.drop{l:List Int}(hd:DG B9 l)(k:Nat):DG B9 (l.drop k):=λx hx=>hd x (List.mem_of_mem_drop hx)
def yo(l:List Rat):Nat:=l.foldr (λr q=>r.den*q) 1
def SA:∀l:List Rat,0<yo l
 |[]=>Nat.one_pos
 |r::l=>Nat.mul_pos r.den_pos (SA l)
theorem jF:∀ {l:List Rat} {r:Rat},r∈l->r.den ∣ yo l
 |a::l,r,h=>by
  rcases List.mem_cons.1 h with rfl | h
  ·exact Nat.dvd_mul_right _ _
  exact Nat.dvd_trans (jF h) (Nat.dvd_mul_left _ _)
def C0:∀ {l:List Rat},(∀r∈l,Jn r<=k)->sz ((yo l:Nat):Int)<=l.length*k+1
 |[],_=>by rw[List.length_nil,Nat.zero_mul];decide
 |r::l,h=>by
  have h1:=C0 λx hx=>h x (List.mem_cons_of_mem _ hx);have h2:sz (r.den:Int)<=k:=Nat.le_trans (Nat.le_max_right _ _) (h r wz);have h3:=ZQ (r.den:Int) ((yo l:Nat):Int);rw[<-Int.natCast_mul]at h3;show sz ((r.den*yo l:Nat):Int)<=_;rw[List.length_cons,Nat.add_mul];omega
structure SmS(Z T D m:Nat)(rs:List (List Tm)):Prop where
 fac:∀p∈rs,∀u∈p,Jn u.1<=Z/\Hz u.2 (m+1)<=D/\u.2.length=m+1/\∀k∈u.2,0<=k/\k<=12
 len:∀p∈rs,p.length<=T
 hn:rs.length=m
def QBk(rs:List (List Tm)):List Rat:=rs.flatMap λp=>p.map (·.1)
def dJ{T:Nat}:∀ {rs:List (List Tm)},(∀p∈rs,p.length<=T)->(QBk rs).length<=rs.length*T
 |[],_=>Nat.zero_le _
 |p::rs,h=>by
  have h1:=dJ λx hx=>h x (List.mem_cons_of_mem _ hx);have h2:=h p wz;show(p.map (·.1)++QBk rs).length<=_;rw[List.length_append,List.length_map,List.length_cons,Nat.add_mul];omega
def QBv{Q B:Nat}{r:Rat}(h0:0<Q)(hd:r.den ∣ Q)(hs:Jn r<=B):Cl Q 1 B r:=Cl.of r h0 hd (Nat.le_trans (Nat.le_max_left _ _) hs)
def QAz:∀(ks:List Int) (m:Nat),(∀k∈ks,0<=k)->ks.length=m->((Hz ks m:Nat):Int)=ks.sum:=by
 intro ks;have key:∀(m:Nat) (ks:List Int),(∀k∈ks,0<=k)->m<=ks.length->((Hz ks m:Nat):Int)=(ks.take m).sum:=by
  intro m
  induction m with
  |zero=>intro ks _ _;rw[List.take_zero];rfl
  |succ m ih =>
   intro ks h hm;show((Hz ks m+(Qd ks m).toNat:Nat):Int)=_;rw[Xg (show m<ks.length by omega),List.sum_append,Int.natCast_add,ih ks h O];have h1:=h (Qd ks m) (QDW O);have h2:el ks m=Qd ks m:=(Zk O).symm;rw[h2];simp;omega
 intro m h hl;rw[key m ks h O,<-hl,List.take_length]
theorem cX{d:Nat}(h:Gd s d=true)(hz:10^d<=2^z):Jn (Yn s)<=z:=by
 simp only[Gd,Bool.and_eq_true,decide_eq_true_eq,beq_iff_eq]at h;obtain⟨_,hc,h1,h2⟩:=h;have hs:=(Zb hc).1;generalize Yn s=x at hs;have key:∀n:Nat,(Lib.decDigits n).length<=d->n<2^z:=λn hn=>by
  have a:=VM (JR n);rw[Jp]at a;exact Nat.lt_of_lt_of_le (Nat.lt_of_lt_of_le a (Nat.pow_le_pow_right wu hn)) hz
 have e:numOf (JO x)=XV x.num:=by
  unfold numOf;by_cases h:x.den=1
  ·obtain⟨h1,h2⟩:=MY h;rw[h2,List.take_length,h1]
  exact(Vi h).2.2.1
 rw[hs,e,dY]at h1;have hn:sz x.num<=z:=(XF _ _).2 (key _ O);have hd:sz (x.den:Int)<=z:=by
  refine(XF _ _).2 ?_;rw[Int.natAbs_natCast];by_cases g:x.den=1
  ·have:(1:Nat)<=10^d:=Nat.one_le_pow _ _ wu;have hx:d≠0:=by
    intro h0;have:=Yc x.num.natAbs;have h3:(Lib.decDigits x.num.natAbs).length≠0:=λq=>this (List.length_eq_zero_iff.1 q);omega
   have:1<10^d:=Nat.one_lt_pow hx wu;omega
  refine key _ ?_;rw[hs]at h2;unfold Fk at h2;rw[if_neg λe=>g ((RX x).1 e),(Vi g).2.2.2]at h2;omega
 exact Nat.max_le.2 ⟨hn,hd⟩
structure SmY(y:Zh)(m:Nat):Prop where
 s:SmS 20 4 3 m y.rs
 rl:y.rl.length=m
 pl:∀e∈y.rl,e.2.length=e.1.n/\e.1.n<=1000/\∀t∈e.2,Jy t.f=0
structure ShB(m:Nat)(x:List SpQ):Prop where
 len:x.length=m
 sz:∀a∈x,Nh a 160
 ord:QGL x
section
variable{y:Zh}{m n:Nat}{fr t2:Rat}{x on:List SpQ}(h:SmY y m)(hm:m<=2)(hx:ShB m x)(ho:ShB m on)(hf:Jn fr<=56)(ht:Jn t2<=56)(hlt:fr<=t2)(hn:n<=3)
include h hm hx ho hf ht hlt hn
omit h hm hlt hn in
omit hlt hn in
omit hm hlt in
omit h hm hx ho hf ht hlt in
end
section
variable{P:Program}{N:Nat}{m:Sl}{Y:World->Prop}{ty:TypeId}
theorem QBE{T e:TypeId}{x:Operand}{lo:Option Operand}{vl:Option Value}{c sz:Nat}{g:Bool}(l:Nat)(hx:ev m x=some (.slice q n c))(el:Fg m lo=some vl)(hl:vl=some (.int .i64 (l:Int)))(hT:BU P T=some e)(hs:Zm P e=some (g,sz))(hln:l<=n)(hc:n<=c):
  Qt P N m Y (.slice T x lo none none) ty (.slice (if c=l then q else q.map λa=>a.add (l*sz)) (n-l) (c-l)):=λa w _ _ _ _ ha _=>by
 subst hl;have hlc:l<=c:=Nat.le_trans hln hc;have hrun:(Instr.slice T (.slice q n c) (some (.int .i64 (l:Int))) none none).run P w = .ok (.slice (if c=l then q else q.map λa=>a.add (l*sz)) (n-l) (c-l)) w:=by
  simp[Instr.slice,run_underlying (JU hT),Instr.sliceBounds,Instr.sliceBound,asIntOf,hc,hln,hlc,YM hs]
 simp[execOp,ha.ev hx,ha.Fg el,Instr.sliceAt,run_underlying (JU hT),hrun]
end
theorem Qy.drop{sz c:Nat}(h:Qy F q n sz cs)(hc:n<=c)(l:Nat):Qy F (if c=l then q else q.map λa=>a.add (l*sz)) (n-l) sz (cs.drop (l*sz)):=by
 refine⟨by rw[List.length_drop,h.1,Nat.sub_mul],λh0=>?_⟩;obtain⟨b,off,arr,T,e1,e2,e3⟩:=h.2 O;subst e1;rw[if_neg O];refine⟨b,off+l*sz,arr,T,by rw[Option.map_some,Yj],e2,λj u hu=>?_⟩;rw[Nat.add_assoc];rw[List.getElem?_drop]at hu;exact e3 _ u hu
def FT(P:List Tm):(X9 P).length=P.length:=by simp[X9]
def QAk(r:Rat):(JO r==[48])=decide (r=0):=by
 rw[Bool.eq_iff_iff,beq_iff_eq,decide_eq_true_eq];constructor
 ·intro h;have e:JO (0:Rat)=[48]:=wv;have h1:=congrArg Yn (h.trans e.symm)
  rwa [Mn,Mn]at h1
 rintro rfl;decide +kernel
def QB3(l:List Gn):(l.flatMap KI).length=l.length*2:=by
 induction l with
 |nil=>rfl
 |cons t l ih=>rw[List.flatMap_cons,List.length_append,ih,List.length_cons,Z4];omega
theorem Cl.QC6{D E c:Nat}{x y:Rat}(hx:Cl D 1 b x)(hy:Cl E 1 c y):Cl (D*E) 1 (b+c) (x*y):=by
 obtain⟨z,rfl,h1⟩:=hx;obtain⟨u,rfl,h2⟩:=hy;rw[Nat.pow_one]at h1 h2;refine⟨z*u,?_,?_⟩
 ·rw[Rat.divInt_mul_divInt,Nat.pow_one,Nat.pow_one,Nat.pow_one,Int.natCast_mul]
 rw[Int.natAbs_mul,Nat.pow_one,Nat.pow_add]
 calc z.natAbs*u.natAbs<=(2^b*D)*(2^c*E):=Nat.mul_le_mul h1 h2
  _=2^b*2^c*(D*E):=by ac_rfl
theorem Cl.dvd{D E c:Nat}{x:Rat}(h:Cl D 1 b x)(h0:0<E)(hd:D ∣ E)(hb:b<=c):Cl E 1 c x:=by
 obtain⟨k,rfl⟩:=hd;obtain⟨z,rfl,h1⟩:=h;have hk:(k:Int)≠0:=by rintro hk;simp only[Int.natCast_eq_zero]at hk;subst hk;simp at h0
 refine⟨z*k,?_,?_⟩
 ·rw[Nat.pow_one,Nat.pow_one,Int.natCast_mul,Rat.divInt_mul_right hk]
 rw[Nat.pow_one]at h1 ⊢;rw[Int.natAbs_mul,Int.natAbs_natCast,<-Nat.mul_assoc];exact Nat.mul_le_mul (Nat.le_trans h1 (Nat.mul_le_mul_right _ (Nat.pow_le_pow_right wu hb))) (Nat.le_refl _)
theorem zc{F:Nat}{Pw:List Int->Prop}(h0:0<F):∀ {p:List Tm} {t:Tm},(∀u∈p,Cl F 1 b u.1/\Pw u.2)->(Cl F 1 b t.1/\Pw t.2)->∀u∈Xr p t,Cl F 1 (b+1) u.1/\Pw u.2
 |[],t,_,ht=>λu hu=>by
  unfold Xr at hu;split at hu
  ·cases hu
  rw[List.mem_singleton.1 hu];exact⟨ht.1.mono h0 (Nat.le_refl _) O,ht.2⟩
 |x::p,t,hp,ht=>λu hu=>by
  have hw:∀a:Tm,(Cl F 1 b a.1/\Pw a.2)->Cl F 1 (b+1) a.1/\Pw a.2:=λa ha=>⟨ha.1.mono h0 (Nat.le_refl _) O,ha.2⟩;have hx:=hp x wz;have hp':∀u∈p,Cl F 1 b u.1/\Pw u.2:=λu hu=>hp u (by simp[hu]);unfold Xr at hu;split at hu
  ·rcases List.mem_cons.1 hu with rfl | hu
   ·exact hw _ hx
   exact zc h0 hp' ht u hu
  split at hu
  ·split at hu
   ·exact hw _ (hp' u hu)
   rcases List.mem_cons.1 hu with rfl | hu
   ·exact⟨Cl.add h0 hx.1 ht.1,ht.2⟩
   exact hw _ (hp' u hu)
  split at hu
  ·exact hw _ (hp u hu)
  rcases List.mem_cons.1 hu with rfl | hu
  ·exact hw _ ht
  exact hw _ (hp u hu)
theorem QAN{F:Nat}{Pw:List Int->Prop}(h0:0<F){l:List Tm}(h:∀u∈l,Cl F 1 b u.1/\Pw u.2):∀u∈JX l,Cl F 1 (b+l.length) u.1/\Pw u.2:=by
 have key:∀(l p:List Tm) (c:Nat),b<=c->(∀u∈l,Cl F 1 b u.1/\Pw u.2)->(∀u∈p,Cl F 1 c u.1/\Pw u.2)->∀u∈l.foldl Xr p,Cl F 1 (c+l.length) u.1/\Pw u.2:=by
  intro l
  induction l with
  |nil=>intro p c _ _ hp;exact hp
  |cons t l ih =>
   intro p c hc hl hp u hu;have ht:=hl t wz;have h1:=ih (Xr p t) (c+1) O (λu hu=>hl u (by simp[hu])) (zc h0 hp ⟨ht.1.mono h0 (Nat.le_refl _) hc,ht.2⟩) u hu;rw[List.length_cons];exact⟨h1.1.mono h0 (Nat.le_refl _) O,h1.2⟩
 exact key l [] b (Nat.le_refl _) h λu hu=>by cases hu
def QAM(l:List Tm):(JX l).length<=l.length:=by
 have key:∀(l p:List Tm),(l.foldl Xr p).length<=p.length+l.length:=by
  intro l
  induction l with
  |nil=>intro p;exact Nat.le_refl _
  |cons t l ih =>
   intro p;have h1:=ih (Xr p t);have h2:=Ng p t;rw[List.length_cons];show(l.foldl Xr (Xr p t)).length<=_;omega
 exact Nat.le_trans (key l []) wz
def dL(v:Nat):∀l:List Tm,(X5 v l).length<=l.length
 |[]=>Nat.le_refl _
 |t::l=>by
  show(D6 v t++X5 v l).length<=_;have h1:=dL v l;have h2:(D6 v t).length<=1:=by unfold D6;split<;>simp
  rw[List.length_append,List.length_cons];omega
def QBn{v:Nat}{l:List Tm}{u:Tm}(h:u∈X5 v l):∃t∈l,0<Qd t.2 v/\u=(t.1*((Qd t.2 v:Int):Rat),t.2.set v (Qd t.2 v-1)):=by
 obtain⟨t,ht,hu⟩:=List.mem_flatMap.1 h;unfold D6 at hu;split at hu
 ·rename_i hg;exact⟨t,ht,hg,List.mem_singleton.1 hu⟩
 cases hu
def sN(G E al k:Nat):Nat:=G^k*E^(al*k+1)
def mN(F G E al s k:Nat):Nat:=F*(G^k*E^(al*k+s))
section
variable{F G E al:Nat}(hF:0<F)(hG:0<G)(hE:0<E)
include hG hE
theorem qw(k:Nat):0<sN G E al k:=Nat.mul_pos (Nat.pow_pos hG) (Nat.pow_pos hE)
include hF
theorem EN(s k:Nat):0<mN F G E al s k:=Nat.mul_pos hF (Nat.mul_pos (Nat.pow_pos hG) (Nat.pow_pos hE))
omit hF hG hE in
theorem uH(s i j:Nat):mN F G E al s i*sN G E al j ∣ mN F G E al (s+1) (i+j):=by
 have e:mN F G E al s i*sN G E al j=mN F G E al (s+1) (i+j):=by
  unfold mN sN
  rw[show al*(i+j)+(s+1)=(al*i+s)+(al*j+1) by rw[Nat.mul_add];omega,Nat.pow_add G i j,Nat.pow_add E (al*i+s) (al*j+1)]
  ac_rfl
 rw[e];exact Nat.dvd_refl _
omit hF hG hE in
variable{be:Nat}
end
structure TyD(F I E B al T n:Nat)(rs:List (List Tm))(t:SpQ)(vb:List SpQ):Prop where
 f0:0<F
 i0:0<I
 e0:0<E
 inv:∀k,k<n->k+1 ∣ I
 fac:∀i,i<rs.length->∀u∈el rs i,Cl F 1 B u.1/\Hz u.2 (vb.length+1)<=al+1
 len:∀i,i<rs.length->(el rs i).length<=T
 tm:ClS E 1 B t
 box:∀x∈vb,ClS E 1 B x
 hn:rs.length=vb.length
section
variable{F I E B al T n:Nat}{rs:List (List Tm)}{t:SpQ}{vb:List SpQ}(h:TyD F I E B al T n rs t vb)
include h
omit h in
theorem zU(Q k:Nat):sz ((Q^k:Nat):Int)<=k*sz ((Q:Nat):Int)+1:=by rw[Int.natCast_pow];exact DE _ _
omit h in
theorem RL(a b:Nat):sz ((a*b:Nat):Int)<=sz ((a:Nat):Int)+sz ((b:Nat):Int):=by rw[Int.natCast_mul];exact ZQ _ _
end
end Go.Proofs.YtpmehagnedbkhaaGreatDoor
namespace Go.Proofs.YtpmehagnedbkhaaGreatDoor
variable{α:Type}{N b cap i j k n o off z:Nat}{c:Sr×List VO}{a:K8}{cs:List Value}{w:World}{F:Gs}{q:Option Addr}{l:List (List UInt8×List UInt8)}{s:List UInt8}{d:Int}{y:Zh}{xs:List (Fr×Rat)}{ts:List Xa}{S S0:World->Prop}{V:Nat->Value}{bs':List (Nat×Obj)}{A:Se}
open Go.RowKit Ig
namespace Se
def pr(A B:Se)(m:Nat):Nat->Rat
 |0=>0
 |i+1=>pr A B m i+(if i<=m then A i*B (m-i)else 0)
theorem QDv(A B:Se)(m:Nat):∀i,pr A B (m+1) (i+1)=A 0*B (m+1)+pr A.tl B m i
 |0=>by show 0+(if 0<=m+1 then A 0*B (m+1-0)else 0)=_+0;rw[if_pos O];show 0+A 0*B (m+1)=_;grind
 |i+1=>by
  rw[pr,QDv A B m i,pr];by_cases h:i<=m
  ·rw[if_pos h,if_pos O,show m+1-(i+1)=m-i by omega];show _+A (i+1)*_=_+(_+A (i+1)*_);grind
  rw[if_neg h,if_neg O];grind
theorem pg:∀(m:Nat) (A B:Se),pr A B m (m+1)=(A*B) m
 |0,A,B=>by rw[Lg,pr,pr,if_pos (Nat.le_refl _)];show 0+A 0*B 0=_;grind
 |m+1,A,B=>by rw[QDv,pg m A.tl B,PN]
def yx(A B:Se)(m:Nat):∀ {i},m<i->pr A B m i=(A*B) m
 |i+1,h=>by
  by_cases e:i=m
  ·subst e;exact pg i A B
  rw[pr,yx A B m (show m<i by omega),if_neg O,Rat.add_zero]
def QCw{A B:Se}{i:Nat}(h:A i=0)(m:Nat):pr A B m (i+1)=pr A B m i:=by
 rw[pr,h];split
 ·rw[Rat.zero_mul,Rat.add_zero]
 rw[Rat.add_zero]
def Tv(rs:List (List Tm))(st:List Rat):Nat->Nat->Se
 |_,0=>T
 |0,v+1=>C (el st v)
 |k+1,v+1=>λi=>if i=k+1 then(cmp (Tv rs st k) (el rs v)) k/((k+1:Nat):Rat)else Tv rs st k (v+1) i
def dW(rs:List (List Tm))(st:List Rat)(k:Nat):Tv rs st k 0=T:=by cases k<;>rfl
theorem QB5(rs:List (List Tm))(st:List Rat)(k v:Nat):∀j,Up k (Tv rs st (k+j) v) (Tv rs st k v)
 |0=>Up.refl _
 |j+1=>λi hi=>by
  rw[<-QB5 rs st k v j i hi];cases v with
  |zero=>rw[dW,dW]
  |succ v =>
   show(if i=k+j+1 then _ else Tv rs st (k+j) (v+1) i)=_;rw[if_neg O]
def Hi(rs:List (List Tm))(st:List Rat)(v:Nat):Se:=λi=>Tv rs st i v i
theorem yV(rs:List (List Tm))(st:List Rat)(k v:Nat):Up k (Hi rs st v) (Tv rs st k v):=λi hi=>by
 have:=QB5 rs st i v (k-i) i (Nat.le_refl _);rw[show i+(k-i)=k by omega]at this;exact this.symm
theorem pL{rs:List (List Tm)}{st:List Rat}(hw:∀p∈rs,Xw (rs.length+1) p):Sol rs st (Hi rs st) where
 t:=ext λk=>by cases k<;>rfl
 st:=λv hv=>rfl
 ode:=λv hv=>ext λk=>by
  show((k+1:Nat):Rat)*(if k+1=k+1 then(cmp (Tv rs st k) (el rs v)) k/((k+1:Nat):Rat)else _)=_;rw[if_pos rfl,Up.cmp (n:=k) (m:=rs.length+1) (W:=Hi rs st) (V:=Tv rs st k) (λu hu=>yV rs st k u) (hw _ (JK hv)) k (Nat.le_refl _)];have:((k+1:Nat):Rat)≠0:=by
   intro e;have:=Rat.natCast_inj.1 (show((k+1:Nat):Rat)=((0:Nat):Rat)from e);omega
  rw[Rat.mul_comm];exact Rat.div_mul_cancel this
def Gr(N:Nat->Nat)(be b n:Nat)(a:Se):Prop:=∀k,k<n->Cl (N k) 1 (be*k+b) (a k)
section
variable{N M R:Nat->Nat}{be b c n:Nat}{a a':Se}
def Gr.mono(h:Gr N be b n a)(h0:∀k,0<M k)(hd:∀k,N k ∣ M k)(hb:b<=c):Gr M be c n a:=λk hk=>(h k hk).dvd (h0 k) (hd k) O
def QBH(ha:Gr N be b n a)(hb:Gr M be c n a')(h0:∀k,0<R k)(hR:∀i j,N i*M j ∣ R (i+j)){m:Nat}(hm:m<n):∀i,i<=n->Cl (R m) 1 (be*m+(b+c)+i) (pr a a' m i)
 |0,_=>Cl.zero 1 _
 |i+1,hi=>by
  have ih:=QBH ha hb h0 hR hm i O;rw[pr];by_cases h:i<=m
  ·rw[if_pos h];have h1:=((ha i O).QC6 (hb (m-i) O)).dvd (h0 m) (by have:=hR i (m-i);rwa [show i+(m-i)=m by omega]at this) (c:=be*m+(b+c)+i) (by
    have:be*m=be*i+be*(m-i):=by rw[<-Nat.mul_add];congr 1;omega
    omega)
   exact ih.add (h0 m) h1
  rw[if_neg h,Rat.add_zero];exact ih.mono (h0 m) (Nat.le_refl _) O
def Gr.mul(ha:Gr N be b n a)(hb:Gr M be c n a')(h0:∀k,0<R k)(hR:∀i j,N i*M j ∣ R (i+j)):Gr R be (b+c+n) n (a*a'):=λm hm=>by
 rw[<-yx a a' m hm];exact(QBH ha hb h0 hR hm n (Nat.le_refl _)).mono (h0 m) (Nat.le_refl _) O
def Gr.add(h0:∀k,0<R k)(ha:Gr R be b n a)(hb:Gr R be b n a'):Gr R be (b+1) n (a+a'):=λk hk=>by
 have:=(ha k hk).add (h0 k) (hb k hk);exact this.mono (h0 k) (Nat.le_refl _) O
theorem Gr.con{r:Rat}(h:Cl (N 0) 1 b r):Gr N be b n (C r):=λk hk=>by
 cases k with
 |zero=>show Cl _ _ _ (if 0=0 then r else 0);rw[if_pos rfl];rwa [Nat.mul_zero,Nat.zero_add]
 |succ k=>show Cl _ _ _ (if k+1=0 then r else 0);rw[if_neg O];exact Cl.zero 1 _
structure QCD(A B:Se)(n:Nat):Prop where
 a:∀i,i<n->Jn (A i)<=100000000
 b:∀i,i<n->Jn (B i)<=100000000
 ab:∀i j,i<n->j<n->Jn (A i*B j)<=100000000
 p:∀m i,m<n->i<=n->Jn (pr A B m i)<=100000000
def Gr.sz{Z:Nat}(h:Gr N be b n a)(h0:∀k,0<N k)(hz:∀k,k<n->sz ((N k:Nat):Int)<=Z){k:Nat}(hk:k<n):Jn (a k)<=be*n+b+Z+2:=by
 have h1:=(h k hk).Jn (h0 k);have h2:=hz k hk;have h3:be*k<=be*n:=Nat.mul_le_mul_left _ O;omega
def QCD.of{Z Y X:Nat}(ha:Gr N be b n a)(hb:Gr M be c n a')(hn:∀k,0<N k)(hm:∀k,0<M k)(h0:∀k,0<R k)(hR:∀i j,N i*M j ∣ R (i+j))(hz:∀k,k<n->sz ((N k:Nat):Int)<=Z)(hy:∀k,k<n->sz ((M k:Nat):Int)<=Y)(hx:∀k,k<n->sz ((R k:Nat):Int)<=X)
  (hZ:be*n+b+c+n+Z+Y+X<=40000000):QCD a a' n where
 a:=λi hi=>wk<|ha.sz hn hz hi
 b:=λi hi=>wk<|hb.sz hm hy hi
 ab:=λi j hi hj=>by have h1:=ha.sz hn hz hi;have h2:=hb.sz hm hy hj;have:=KO (a i) (a' j);omega
 p:=λm i hm' hi=>by
  have h1:=(QBH ha hb h0 hR hm' i hi).Jn (h0 m);have h2:=hx m hm';have h3:be*m<=be*n:=Nat.mul_le_mul_left _ O;omega
end
def zX(W:Nat->Se)(c:Rat)(ks:List Int)(v e:Nat):Se:=C c*(Ez W ks v*pw (W v) e)
def qf(W:Nat->Se)(c:Rat)(ks:List Int)(v e:Nat):zX W c ks v e*W v=zX W c ks v (e+1):=by
 unfold zX;rw[pw];ac_rfl
def cD(W:Nat->Se)(c:Rat)(ks:List Int)(v:Nat):zX W c ks v (Qd ks v).toNat=zX W c ks (v+1) 0:=by
 unfold zX;rw[pw,mul_one];rfl
def gD(W:Nat->Se)(c:Rat)(ks:List Int):zX W c ks 0 0=C c:=by
 unfold zX;rw[Ez,pw,mul_one,mul_one]
def QBq(W:Nat->Se){l:List Tm}{j:Nat}(hj:j<l.length)(d:Tm)(hd:l[j]?=some d):cmp W (l.take (j+1))=cmp W (l.take j)+C d.1*Ez W d.2 d.2.length:=by
 rw[List.take_succ,hd];show cmp W (l.take j++[d])=_;rw[C3];show _+(C d.1*Ez W d.2 d.2.length+zeroS)=_;rw[cm]
structure zN(W:Nat->Se)(L:List Tm)(N n:Nat):Prop where
 l:∀t∈L,t.2.length=N/\PW t.2
 c:∀t∈L,Jn t.1<=100000000
 p:∀t∈L,∀v,v<N->∀e,e<(Qd t.2 v).toNat->QCD (zX W t.1 t.2 v e) (W v) n
 s:∀t∈L,∀i,i<n->Jn ((C t.1*Ez W t.2 N) i)<=100000000
 z:∀j,j<=L.length->∀i,i<n->Jn (cmp W (L.take j) i)<=100000000
def QD3{F G E al s k:Nat}{f g e:Nat}(hf:sz ((F:Nat):Int)<=f)(hg:sz ((G:Nat):Int)<=g)(he:sz ((E:Nat):Int)<=e):sz ((mN F G E al s k:Nat):Int)<=f+(k*g+1)+((al*k+s)*e+1):=by
 unfold mN;have h1:=RL F (G^k*E^(al*k+s));have h2:=RL (G^k) (E^(al*k+s));have h3:=zU G k;have h4:=zU E (al*k+s);have h5:k*sz ((G:Nat):Int)<=k*g:=Nat.mul_le_mul_left _ hg;have h6:(al*k+s)*sz ((E:Nat):Int)<=(al*k+s)*e:=Nat.mul_le_mul_left _ he;omega
section
variable{F G E be al B n:Nat}{W:Nat->Se}(hF:0<F)(hG:0<G)(hE:0<E)
include hF hG hE
theorem pJ{Bc:Nat}{c:Rat}{ks:List Int}{m:Nat}(hc:Cl F 1 Bc c)(hW:∀v,v<m->Gr (sN G E al) be B n (W v)):∀v,v<=m->Gr (mN F G E al (Hz ks v)) be (Bc+Hz ks v*(B+n)) n (zX W c ks v 0)/\∀e,v<m->Gr (mN F G E al (Hz ks v+e)) be (Bc+(Hz ks v+e)*(B+n)) n (zX W c ks v e)
 |0,h=>by
  have h0:Gr (mN F G E al 0) be Bc n (zX W c ks 0 0):=by
   rw[gD];refine Gr.con (hc.dvd (EN hF hG hE 0 0) ?_ (Nat.le_refl _));unfold mN;exact Nat.dvd_mul_right _ _
  have e0:Hz ks 0=0:=rfl;refine⟨by rw[e0];simpa using h0,λe hv=>?_⟩;rw[e0,Nat.zero_add]
  induction e with
  |zero=>simpa using h0
  |succ e ih =>
   rw[<-qf];have:=Gr.mul ih (hW 0 hv) (EN hF hG hE (e+1)) (uH (F:=F) (G:=G) (E:=E) (al:=al) e);refine this.mono (EN hF hG hE _) (λ_=>Nat.dvd_refl _) ?_;rw[Nat.add_mul,Nat.one_mul];omega
 |v+1,h=>by
  have ih:=(pJ (ks:=ks) hc hW v O).2 (Qd ks v).toNat O;rw[cD]at ih;have e0:Hz ks (v+1)=Hz ks v+(Qd ks v).toNat:=rfl;have h0:Gr (mN F G E al (Hz ks (v+1))) be (Bc+Hz ks (v+1)*(B+n)) n (zX W c ks (v+1) 0):=by rw[e0];exact ih
  refine⟨h0,λe hv=>?_⟩
  induction e with
  |zero=>exact h0
  |succ e ih =>
   rw[<-qf];have:=Gr.mul ih (hW (v+1) hv) (EN hF hG hE (Hz ks (v+1)+e+1)) (uH (F:=F) (G:=G) (E:=E) (al:=al) (Hz ks (v+1)+e));refine this.mono (EN hF hG hE _) (λ_=>Nat.dvd_refl _) ?_;rw[<-Nat.add_assoc,Nat.add_mul (Hz ks (v+1)+e),Nat.one_mul];omega
end
end Se
end Go.Proofs.YtpmehagnedbkhaaGreatDoor
namespace Go.Proofs.YtpmehagnedbkhaaGreatDoor
variable{α:Type}{N b cap i j k n o off z:Nat}{c:Sr×List VO}{a:K8}{cs:List Value}{w:World}{F:Gs}{q:Option Addr}{l:List (List UInt8×List UInt8)}{s:List UInt8}{d:Int}{y:Zh}{xs:List (Fr×Rat)}{ts:List Xa}{S S0:World->Prop}{V:Nat->Value}{bs':List (Nat×Obj)}{A:Se}
open Go.RowKit Ig
def Cl.divN{D m:Nat}{x:Rat}(h:Cl D 1 b x)(hm:0<m):Cl (D*m) 1 b (x/((m:Nat):Rat)):=by
 have h1:Cl m 1 0 (Rat.divInt 1 ((m:Nat):Int)):=⟨1,by rw[Nat.pow_one],by rw[Nat.pow_zero,Nat.one_mul,Nat.pow_one];exact hm⟩;have h2:=h.QC6 h1;rw[Nat.add_zero]at h2;have e:x/((m:Nat):Rat)=x*Rat.divInt 1 ((m:Nat):Int):=by
  rw[Rat.div_def,<-Rat.intCast_natCast,Rat.divInt_eq_div,Rat.div_def,Rat.intCast_one,Rat.one_mul]
 rw[e];exact h2
namespace Se
section
variable{F G E al be B Bc n:Nat}{W:Nat->Se}(hF:0<F)(hG:0<G)(hE:0<E)
include hF hG hE
theorem QEm{s t:Nat}(h:s<=t)(k:Nat):mN F G E al s k ∣ mN F G E al t k:=by
 unfold mN;exact Nat.mul_dvd_mul (Nat.dvd_refl _) (Nat.mul_dvd_mul (Nat.dvd_refl _) (Nat.pow_dvd_pow E O))
theorem uy{t:Tm}{N s:Nat}(hc:Cl F 1 Bc t.1)(hl:t.2.length=N)(hs:Hz t.2 N<=s)(hW:∀v,v<N->Gr (sN G E al) be B n (W v)):Gr (mN F G E al s) be (Bc+s*(B+n)) n (C t.1*Ez W t.2 t.2.length):=by
 have h:=(pJ hF hG hE (ks:=t.2) (m:=N) hc hW N (Nat.le_refl _)).1;have e:zX W t.1 t.2 N 0=C t.1*Ez W t.2 t.2.length:=by
  unfold zX;rw[hl,pw,mul_one]
 rw[e]at h;exact h.mono (EN hF hG hE s) (QEm hF hG hE hs) (Nat.add_le_add_left (Nat.mul_le_mul_right _ hs) _)
structure TmK(F Bc N s:Nat)(L:List Tm):Prop where
 c:∀t∈L,Cl F 1 Bc t.1
 l:∀t∈L,t.2.length=N
 s:∀t∈L,Hz t.2 N<=s
omit hF hG hE in
theorem TmK.tail{N s:Nat}{t:Tm}{L:List Tm}(h:TmK F Bc N s (t::L)):TmK F Bc N s L:=⟨λx hx=>h.c x (List.mem_cons_of_mem _ hx),λx hx=>h.l x (List.mem_cons_of_mem _ hx),λx hx=>h.s x (List.mem_cons_of_mem _ hx)⟩
omit hF hG hE in
theorem TmK.take{N s:Nat}{L:List Tm}(h:TmK F Bc N s L)(j:Nat):TmK F Bc N s (L.take j):=⟨λx hx=>h.c x (List.mem_of_mem_take hx),λx hx=>h.l x (List.mem_of_mem_take hx),λx hx=>h.s x (List.mem_of_mem_take hx)⟩
theorem vI{N s:Nat}(hW:∀v,v<N->Gr (sN G E al) be B n (W v)):∀ {L:List Tm},TmK F Bc N s L->Gr (mN F G E al s) be (Bc+s*(B+n)+L.length) n (cmp W L)
 |[],_=>λk hk=>Cl.zero 1 _
 |t::L,h=>by
  have h1:=uy hF hG hE (s:=s) (h.c t wz) (h.l t wz) (h.s t wz) hW;have h2:=vI hW h.tail;have h0:=EN (al:=al) hF hG hE s;exact Gr.add h0 (h1.mono (c:=Bc+s*(B+n)+L.length) h0 (λ_=>Nat.dvd_refl _) (Nat.le_add_right _ _)) h2
theorem zN.of{N s T f g e:Nat}{L:List Tm}(hW:∀v,v<N->Gr (sN G E al) be B n (W v))(h:TmK F Bc N s L)(hp:∀t∈L,PW t.2)(hT:L.length<=T)(hf:sz ((F:Nat):Int)<=f)(hg:sz ((G:Nat):Int)<=g)(he:sz ((E:Nat):Int)<=e)
  (hz:be*n+Bc+s*(B+n)+T+B+n+3*(f+(n*g+1)+((al*n+s+1)*e+1))<=40000000):zN W L N n:=by
 have hm:∀s' k,s'<=s+0->k<n->sz ((mN F G E al s' k:Nat):Int)<=f+(n*g+1)+((al*n+s+1)*e+1):=λs' k h1 hk=>by
  have h2:=QD3 (al:=al) (s:=s') (k:=k) hf hg he;have h3:k*g<=n*g:=Nat.mul_le_mul_right _ O;have h4:(al*k+s')*e<=(al*n+s+1)*e:=Nat.mul_le_mul_right _ (by have:=Nat.mul_le_mul_left al (show k<=n by omega);omega);omega
 have hs0:∀k,k<n->sz ((sN G E al k:Nat):Int)<=f+(n*g+1)+((al*n+s+1)*e+1):=λk hk=>by
  have h2:=RL (G^k) (E^(al*k+1));have h5:=zU G k;have h6:=zU E (al*k+1);have h3:k*sz ((G:Nat):Int)<=n*g:=Nat.mul_le_mul O hg;have h4:(al*k+1)*sz ((E:Nat):Int)<=(al*n+s+1)*e:=Nat.mul_le_mul (by have:=Nat.mul_le_mul_left al (show k<=n by omega);omega) he;unfold sN;omega
 have hk:∀t∈L,∀v,v<=N->Hz t.2 v<=s:=λt ht v hv=>Nat.le_trans (zV t.2 hv) (h.s t ht);refine⟨λt ht=>⟨h.l t ht,hp t ht⟩,λt ht=>?_,λt ht v hv e' he'=>?_,λt ht i hi=>?_,λj hj i hi=>?_⟩
 ·have:=(h.c t ht).Jn hF;omega
 ·have h1:=(pJ hF hG hE (ks:=t.2) (m:=N) (h.c t ht) hW v O).2 e' hv;have h2:Hz t.2 v+e'+1<=s:=by
   have:=hk t ht (v+1) O;have e1:Hz t.2 (v+1)=Hz t.2 v+(Qd t.2 v).toNat:=rfl;omega
  have h3:(Hz t.2 v+e')*(B+n)<=s*(B+n):=Nat.mul_le_mul_right _ O;exact QCD.of h1 (hW v hv) (EN hF hG hE _) (qw hG hE) (EN hF hG hE (Hz t.2 v+e'+1)) (uH (F:=F) (G:=G) (E:=E) (al:=al) (Hz t.2 v+e')) (λk hk=>hm _ k O hk) hs0 (λk hk=>hm _ k O hk) O
 ·have h1:=uy hF hG hE (s:=s) (h.c t ht) (h.l t ht) (h.s t ht) hW;rw[h.l t ht]at h1;have:=h1.sz (EN hF hG hE s) (λk hk=>hm s k O hk) hi;omega
 have h1:=vI hF hG hE hW (h.take j);have:=h1.sz (EN hF hG hE s) (λk hk=>hm s k O hk) hi;have:(L.take j).length<=L.length:=by rw[List.length_take];omega
 omega
theorem QA3{Iv d T o:Nat}{rs:List (List Tm)}{st:List Rat}(hGe:G=F*Iv)(hI:∀k,k<o->(k+1) ∣ Iv)(hd:d<=al+1)(hr:∀p∈rs,TmK F Bc (rs.length+1) d p/\p.length<=T)(hst:∀v,v<rs.length->Cl E 1 B (el st v))(hbe:Bc+d*(B+o)+T<=be+B):
  ∀n,n<=o+1->∀v,v<=rs.length->Gr (sN G E al) be B n (Hi rs st v)
 |0,_,v,_=>λk hk=>absurd hk (Nat.not_lt_zero k)
 |n+1,hn,v,hv=>by
  have ih:=QA3 hGe hI hd hr hst hbe n O;intro k hk;by_cases hkn:k<n
  ·exact ih v hv k hkn
  obtain rfl:k=n:=O;have hp:=qw (al:=al) hG hE;cases v with
  |zero =>
   show Cl _ _ _ (Tv rs st k 0 k);rw[dW];show Cl _ _ _ (if k=1 then 1 else 0);split
   ·exact Cl.one 1 _ (hp k)
   exact Cl.zero 1 _
  |succ v =>
   cases k with
   |zero =>
    refine(hst v O).dvd (hp 0) ?_ O;unfold sN;rw[Nat.pow_zero,Nat.one_mul,Nat.mul_zero,Nat.zero_add,Nat.pow_one];exact Nat.dvd_refl _
   |succ k =>
    have hX:∀u,u<rs.length+1->Gr (sN G E al) be B (k+1) (Hi rs st u):=λu hu=>ih u O;obtain⟨h1,h2⟩:=hr _ (JK (show v<rs.length by omega));have h3:=vI hF hG hE hX h1 k O;have e:Hi rs st (v+1) (k+1)=cmp (Hi rs st) (el rs v) k/((k+1:Nat):Rat):=by
     rw[Up.cmp (n:=k) (m:=rs.length+1) (W:=Hi rs st) (V:=Tv rs st k) (λu hu=>yV rs st k u) h1.l k (Nat.le_refl _)];show(if k+1=k+1 then _ else _)=_;rw[if_pos rfl]
    rw[e];have h4:Cl (mN F G E al d k*(k+1)) 1 (be*k+(Bc+d*(B+(k+1))+(el rs v).length)) (cmp (Hi rs st) (el rs v) k/((k+1:Nat):Rat)):=Cl.divN h3 O;refine h4.dvd (hp (k+1)) ?_ ?_
    ·obtain⟨q,hq⟩:=hI k O;have e1:G^(k+1)=G^k*(F*((k+1)*q)):=by rw[Nat.pow_succ,<-hq,<-hGe]
     refine⟨q*E^(al+1-d),?_⟩;unfold mN sN;rw[e1,show al*(k+1)+1=(al*k+d)+(al+1-d) by rw[Nat.mul_succ];omega,Nat.pow_add]
     ac_rfl
    have h5:d*(B+(k+1))<=d*(B+o):=Nat.mul_le_mul_left _ O;rw[Nat.mul_succ];omega
end
end Se
end Go.Proofs.YtpmehagnedbkhaaGreatDoor
namespace Go.Proofs.YtpmehagnedbkhaaGreatDoor
variable{α:Type}{N b cap i j k n o off z:Nat}{c:Sr×List VO}{a:K8}{cs:List Value}{w:World}{F:Gs}{q:Option Addr}{l:List (List UInt8×List UInt8)}{s:List UInt8}{d:Int}{y:Zh}{xs:List (Fr×Rat)}{ts:List Xa}{S S0:World->Prop}{V:Nat->Value}{bs':List (Nat×Obj)}{A:Se}
open Go.RowKit Ig
def cx(E:Env)(b off:Nat)(cs:List Value):Prop:=∀w,St E w->∀j v,cs[j]?=some v->w.cell? ⟨b,off+j,none⟩=some v
section
variable{P:Program}{N:Nat}{m:Sl}{E E0:Env}{w0:World}{F0:Gs}{bs:List (Nat×Obj)}{G:Gs->Prop}{ty:TypeId}
def cx.to(h:cx E0 b off cs)(hE:∀w,St E w->St E0 w):cx E b off cs:=λw hw=>h w (hE w hw)
def cx.row{sz:Nat}(hr:∀F,G F->Qy F (some ⟨b,off,none⟩) n sz cs)(hn:0<n):cx ⟨w0,F0,bs,G⟩ b off cs:=λ_ hw _ _ hv=>KD hw hr hn hv
theorem cx.own{T:TypeId}{fr:Nat×Nat}(hm:(b,Obj.cells cs.toArray T fr)∈bs):cx ⟨w0,F0,bs,G⟩ b 0 cs:=λw hw j v hv=>by
 obtain⟨F,hw⟩:=hw;rw[Xt (hw.bx _ hm).1,Nat.zero_add];exact hv
def zZ{T:TypeId}{x:Operand}{vs:List Value}(j:Nat)(hr:cx E0 b off cs)(hE:∀w,St E w->St E0 w)(hx:ev m x=some (.pointer (some ⟨b,off+j,none⟩)))(ht:Zm P T=some (true,k))(hl:vs.length=k)(hu:∀i v,vs[i]?=some v->cs[j+i]?=some v):Qt P N m (St E) (.load T x) ty (.agg vs.toArray):=λa w _ _ _ _ ha hw=>by
 have:=Kd ht hl (w:=w) (b:=b) (off:=off+j) (λi v hv=>by rw[Nat.add_assoc];exact hr w (hE w hw) (j+i) v (hu i v hv));simp[execOp,ha.ev hx,Instr.loadAt,Instr.sureAddr,this]
end
def QDS(p:Fr×Rat):(B6 p.1).length=4:=rfl
def O7(h:i<xs.length):∀j v,(B6 (el xs i).1)[j]?=some v->(Yi xs)[i*4+j]?=some v:=λj v hv=>Jg (f:=λp:Fr×Rat=>B6 p.1) QDS h hv
def SD(hi:i<xs.length)(x:Fr)(r:Rat):Ym (Yi xs) (0+i*4) (B6 x) (Yi (xs.set i (x,r))):=by
 have e0:xs=xs.take i++el xs i::xs.drop (i+1):=by rw[<-Dk hi,List.take_append_drop]
 have e1:xs.set i (x,r)=xs.take i++(x,r)::xs.drop (i+1):=by
  rw[List.set_eq_take_append_cons_drop,if_pos hi]
 have e2:Yi xs=Yi (xs.take i)++(B6 (el xs i).1++Yi (xs.drop (i+1))):=by
  conv=>lhs;rw[e0]
  unfold Yi;rw[List.flatMap_append,List.flatMap_cons]
 have e3:Yi (xs.set i (x,r))=Yi (xs.take i)++(B6 x++Yi (xs.drop (i+1))):=by
  rw[e1];unfold Yi;rw[List.flatMap_append,List.flatMap_cons]
 rw[e2,e3,show 0+i*4=(Yi (xs.take i)).length by rw[Sc,List.length_take];omega];exact FW I
def We.el(h:We F xs){i:Nat}(hi:i<xs.length):Jz F (el xs i).1 (el xs i).2:=h _ (JK hi)
def We.set(h:We F xs){x:Fr}{r:Rat}(hx:Jz F x r)(i:Nat):We F (xs.set i (x,r)):=λp hp=>by
 rcases List.mem_or_eq_of_mem_set hp with hp | rfl
 ·exact h p hp
 exact hx
def FZ(hi:i<xs.length)(x:Fr×Rat)(j:Nat):el (xs.set i x) j=if j=i then x else el xs j:=by
 unfold el;rw[List.getD_eq_getElem?_getD,List.getD_eq_getElem?_getD,List.getElem?_set];by_cases e:i=j
 ·subst e;rw[if_pos rfl,if_pos hi,if_pos rfl];rfl
 rw[if_neg e,if_neg (λh=>e h.symm)]
structure FzI(n:Nat) where
 i:Nat
 xs:List (Fr×Rat)
 le:i<=n
 hx:xs.map (·.2)=List.replicate i 0
def FzI.len(s:FzI n):s.xs.length=s.i:=by
 have:=congrArg List.length s.hx;simpa using this
abbrev Zs(n:Nat):={c:Nat×List (Fr×Rat) // c.2.map (·.2)=List.replicate n 0}
def Zs.len(c:Zs n):c.1.2.length=n:=by
 have:=congrArg List.length c.2;simpa using this
theorem Zs.at(c:Zs n){i:Nat}(hi:i<n):(el c.1.2 i).2=0:=by
 have hl:=c.len;have h:=congrArg (λl=>l[i]?) c.2;simp only[List.getElem?_map,List.getElem?_replicate,hi,if_true]at h;rw[List.getElem?_eq_getElem O]at h;rw[J4 O];simpa using h
section
variable{w0:World}{F0:Gs}{bs:List (Nat×Obj)}{G:Gs->Prop}
theorem Cy{n:Nat}(h1:1<=n)(hn:n<=1000000):J8 prog 155 [.int .i64 (n:Int)] ⟨w0,F0,bs,G⟩ (λ(c:Zs n)=>.slice (some ⟨c.1.1,0,none⟩) n n) (λc=>⟨w0,F0,(c.1.1,.cells (Yi c.1.2).toArray 95 (0,0))::bs,λF=>G F/\We F c.1.2⟩):=by
 refine J8.intro func155 rfl wy rfl rfl<|QGi<|wQ rfl<|wR rfl<|Dz (n:=n) (bytes:=64) rfl rfl X4 Ql KM rfl QD5 O O λbk=>H6 (E':=⟨w0,F0,(bk,.cells (Yi []++XP zFr (n-0)).toArray 95 (0,0))::bs,G⟩) w9<|wQ rfl<|QG<|wR rfl<|QA (Qf rfl X4)<|QF5 rfl<|QF4<|QS<|Jo (ι:=FzI n) [(3,_),(8,_)] (λi=>[(9,.int .i64 ((i.i:Nat):Int))]) (λi=>(bk,.cells (Yi i.xs++XP zFr (n-i.i)).toArray 95 (0,0))::bs) (λi F=>We F i.xs) (λi=>n-i.i) (⟨0,[],Nat.zero_le _,rfl⟩) wT wS QGJ (λ_ _ _ h=>by cases h) λi=>?_
 simp only[List.cons_append,List.nil_append];have hi:=i.le;refine wA 6 I ?_;refine QP I (λhc2=>?_) λhc2=>?_
 ·have hlt:i.i<n:=wk<|QGx hc2
  refine QHC 13 I<|QJ I (λ_ _ f k=>f_g (n:=0) f O O) λx14=>QA (Qx (i:=i.i) rfl rfl X4 Ql O)<|QZ (vs:=B6 x14) rfl rfl rfl Ql I .here (cI i.len O x14 ((0:Int):Rat)) wV<|QE<|Qi<|QD<|QB<|QA (Qm I I O)<|wB 2 I ?_
  exact Qj (⟨i.i+1,i.xs++[(x14,((0:Int):Rat))],hlt,by rw[List.map_append,i.hx,List.replicate_succ'];rfl⟩) (by show n-(i.i+1)<n-i.i;omega) wU QGJ (λF ⟨⟨hB,hX⟩,h14⟩=>⟨hB,λp hp=>by
   rcases List.mem_append.1 hp with hp | hp
   ·exact hX p hp
   rw[List.mem_singleton.1 hp];exact h14⟩)
 have hge:i.i=n:=wk<|QGy hc2
 refine Qv ?_
 repeat first|refine QV ?_|refine QQ wy ?_
 refine QW<|QHD 3 I ?_
 have hz:XP zFr (n-i.i)=[]:=by rw[show n-i.i=0 from by omega];rfl
 rw[hz,List.append_nil];refine QHB 5 I ?_;exact Z2 (⟨(bk,i.xs),by show i.xs.map (·.2)=_;rw[i.hx,hge]⟩) I (wN I) rfl w9
structure di(xs:List (Fr×Rat))(A:Se)(n:Nat):Prop where
 len:n<=xs.length
 at_:∀i,i<n->(el xs i).2=A i
abbrev Ps(A:Se)(n:Nat):={c:Nat×List (Fr×Rat) // c.2.length=n/\di c.2 A n}
structure PdI(A B:Se)(n:Nat) where
 i:Nat
 xs:List (Fr×Rat)
 le:i<=n
 hl:xs.length=n
 hx:∀m,m<n->(el xs m).2=Se.pr A B m i
structure PdJ(A B:Se)(n i:Nat) where
 k:Nat
 xs:List (Fr×Rat)
 le:k<=n-i
 hl:xs.length=n
 hx:∀m,m<n->(el xs m).2=if i<=m/\m<i+k then Se.pr A B m (i+1)else Se.pr A B m i
def QC0{B:Se}(hx:∀m,m<n->(el xs m).2=if i<=m/\m<i+(n-i)then Se.pr A B m (i+1)else Se.pr A B m i):∀m,m<n->(el xs m).2=Se.pr A B m (i+1):=λm hm=>by
 rw[hx m hm];by_cases h:i<=m
 ·rw[if_pos O]
 rw[if_neg O,Se.pr,if_neg h,Rat.add_zero]
def QBM{B:Se}(hi:i+k<n)(hl:xs.length=n)(hx:∀m,m<n->(el xs m).2=if i<=m/\m<i+k then Se.pr A B m (i+1)else Se.pr A B m i)(x:Fr):∀m,m<n->(el (xs.set (i+k) (x,Se.pr A B (i+k) i+A i*B k)) m).2=if i<=m/\m<i+(k+1)then Se.pr A B m (i+1)else Se.pr A B m i:=λm hm=>by
 rw[FZ O];by_cases e:m=i+k
 ·subst e;rw[if_pos rfl,if_pos O,Se.pr,if_pos O,show i+k-i=k by omega]
 rw[if_neg e,hx m hm];by_cases h:i<=m/\m<i+k
 ·rw[if_pos h,if_pos O]
 rw[if_neg h,if_neg O]
theorem QAJ{B:Se}{nb ba oa ca bb ob cb:Nat}{xa xb:List (Fr×Rat)}(h1:1<=n)(hn:n<=1000000)(hnb:n<=nb)(hcb:nb<=cb)(hA:cx ⟨w0,F0,bs,G⟩ ba oa (Yi xa))(hB:cx ⟨w0,F0,bs,G⟩ bb ob (Yi xb))(ha:di xa A n)(hb:di xb B n)(hX:∀F,G F->We F xa/\We F xb)(hz:Se.QCD A B n):
  J8 prog 156 [.slice (some ⟨ba,oa,none⟩) n ca,.slice (some ⟨bb,ob,none⟩) nb cb] ⟨w0,F0,bs,G⟩ (λ(c:Ps (A*B) n)=>.slice (some ⟨c.1.1,0,none⟩) n n) (λc=>⟨w0,F0,(c.1.1,.cells (Yi c.1.2).toArray 95 (0,0))::bs,λF=>G F/\We F c.1.2⟩):=by
 have hal:=ha.len;have hbl:=hb.len;refine J8.intro func156 rfl wy rfl rfl<|QGi<|wQ rfl<|wR rfl<|QA (Qf rfl X4)<|XA rfl (List.Perm.refl _) (Cy h1 hn) λz=>?_
 have hzl:=z.len;refine QHB 7 I<|QA (Qf I X4)<|QHB 4 I<|Jo (ι:=PdI A B n) [(0,_),(1,_),(5,_),(13,_),(14,_)] (λi=>[(15,.int .i64 ((i.i:Nat):Int))]) (λi=>(z.1.1,.cells (Yi i.xs).toArray 95 (0,0))::bs) (λi F=>We F i.xs) (λi=>n-i.i) (⟨0,z.1.2,Nat.zero_le _,hzl,λm hm=>z.at hm⟩) wW wS QGJ tB λi=>?_
 simp only[List.cons_append,List.nil_append];have hi:=i.le;have hil:=i.hl;refine wA 6 I ?_;refine QP I (λhc2=>?_) λhc2=>?_
 ·have hlt:i.i<n:=wk<|QGx hc2
  have haf:∀F,We F xa->Jz F (el xa i.i).1 (A i.i):=λF h=>by rw[<-ha.at_ _ hlt];exact h.el O
  refine QHC 7 I<|QA (Qx (i:=i.i) rfl rfl X4 Ql O)<|QA (zZ (i.i*4) hA (λw h=>h.imp (List.sublist_cons_self _ _) λ_ h=>h.1.1) I Ql (vs:=B6 (el xa i.i).1) rfl (O7 O))<|Qg KM λb7=>QF6 I<|QZ (vs:=[_,_,_,_]) I I I Ql I .here .h4 wV<|QHB 5 I<|QA (wJ I Ql .here)<|QJ I (λ_ F f k=>En f (haf F (hX F k.1.1).1)) λ_=>QHB 3 I ?_
  refine QP I (λhc3=>?_) λhc3=>?_
  ·have hA0:A i.i=0:=R5.1 (by have:=QGx hc3;simpa using this);refine Qv ?_
   repeat first|refine QV ?_|refine QQ wy ?_
   refine QW<|QD<|QB<|QA (Qm I I O)<|wB 2 I ?_
   exact Qj (⟨i.i+1,i.xs,hlt,hil,λm hm=>by rw[i.hx m hm,Se.QCw hA0]⟩) (by show n-(i.i+1)<n-i.i;omega) wX (List.sublist_cons_self _ _) λF h=>⟨h.1.1,h.1.2⟩
  refine QM ?_;refine QHD 5 I<|QA (Qf I X4)<|QF5 I<|QA (J1 I I O)<|QA (Ra (n-i.i) rfl rfl wM X4 Ql O)<|QA (Qf I X4)<|QHB 4 I<|Jo (ι:=PdJ A B n i.i) [(0,_),(1,_),(5,_),(6,_),(7,_),(13,_),(14,_),(15,_),(28,_),(29,_)] (λk=>[(30,.int .i64 ((k.k:Nat):Int))]) (λk=>(b7,.cells (B6 (el xa i.i).1).toArray 95 (0,0))::(z.1.1,.cells (Yi k.xs).toArray 95 (0,0))::bs) (λk F=>We F k.xs) (λk=>n-i.i-k.k) (⟨0,i.xs,Nat.zero_le _,hil,λm hm=>by rw[if_neg O];exact i.hx m hm⟩) wg wS QGJ (λ_ h=>h.1.2) λk=>?_
  simp only[List.cons_append,List.nil_append];have hk:=k.le;have hkl:=k.hl;refine wA 6 I ?_;refine QP I (λhc4=>?_) λhc4=>?_
  ·have hlt2:k.k<n-i.i:=wk<|QGx hc4
   have hbf:∀F,We F xb->Jz F (el xb k.k).1 (B k.k):=λF h=>by rw[<-hb.at_ _ O];exact h.el O
   have hkf:∀F,We F k.xs->Jz F (el k.xs (i.i+k.k)).1 (Se.pr A B (i.i+k.k) i.i):=λF h=>by
    have h1:=k.hx (i.i+k.k) O;rw[if_neg O]at h1;rw[<-h1];exact h.el O
   refine QHC 7 I<|QA (Qx (i:=k.k) rfl rfl X4 Ql O)<|QA (zZ (k.k*4) hB (λw h=>h.imp (.cons _ (List.sublist_cons_self _ _)) λ_ h=>h.1.1.1.1) I Ql (vs:=B6 (el xb k.k).1) rfl (O7 O))<|Qg KM λb9=>QF6 I<|QZ (vs:=[_,_,_,_]) I I I Ql I .here .h4 wV<|QF4<|XN 15 QGJ mixed wm wm ?_
   simp only[List.take_succ_cons,List.take_zero,List.drop_succ_cons,List.drop_zero];refine QL (QC I)<|QL (QC I)<|QL (QC I)<|QL (Qm I I O)<|QL (QC I)<|QL (QC I)<|QL (QC I)<|QL (Qm I I O)<|QL (Qx (i:=i.i+k.k) rfl wM X4 Ql O)<|QL (Uu (vs:=B6 (el k.xs (i.i+k.k)).1) rfl Ql .u2 rfl (by rw[Nat.zero_add];exact O7 O))<|QL (wJ I Ql .u1)<|QL (wJ I Ql .here)<|Qc I (λ_ F f h=>Gc f (haf F (hX F h.1.1.1.1).1) (hbf F (hX F h.1.1.1.1).2) (hz.a _ O) (hz.b _ O)) λx47=>Qc I (λ_ F f h=>Pj f (hkf F h.1.2) h.2 (hz.p _ _ O O) (hz.ab _ _ O O)) λx48=>QL (Qx (i:=i.i+k.k) rfl wM X4 Ql O)<|KH<|QZ (vs:=B6 x48) rfl rfl rfl Ql I .u2 (SD O x48 (Se.pr A B (i.i+k.k) i.i+A i.i*B k.k)) wV<|QE<|Qi<|QD<|QB<|QA (Qm I I O)<|wB 2 I ?_
   exact Qj (⟨k.k+1,k.xs.set (i.i+k.k) (x48,_),O,by rw[List.length_set];exact hkl,QBM O hkl k.hx x48⟩) (by show n-i.i-(k.k+1)<n-i.i-k.k;omega) wi (List.sublist_cons_self _ _) λF h=>⟨h.1.1.1,h.1.1.2.set h.2 _⟩
  have hge2:k.k=n-i.i:=wk<|QGy hc4
  refine Qv ?_
  repeat first|refine QV ?_|refine QQ wy ?_
  refine QW<|Qi<|QD<|QB<|QA (Qm I I O)<|wB 2 I ?_
  exact Qj (⟨i.i+1,k.xs,hlt,hkl,QC0 (by have:=k.hx;rw[hge2]at this;exact this)⟩) (by show n-(i.i+1)<n-i.i;omega) wX (List.sublist_cons_self _ _) λF h=>⟨h.1.1.1,h.2⟩
 have hge:i.i=n:=wk<|QGy hc2
 refine Qv ?_
 repeat first|refine QV ?_|refine QQ wy ?_
 refine QW<|QHD 8 I ?_
 exact Z2 (⟨(z.1.1,i.xs),hil,by show n<=i.xs.length;omega,λm hm=>by show(el i.xs m).2=_;rw[i.hx m hm,hge,Se.yx _ _ _ hm]⟩) I (wN I) rfl λw h=>h.Dd λF h=>⟨h.1.1,h.2⟩
end
theorem MZ:BU prog 118=some 116:=wm
structure Rw where
 b:Nat
 cap:Nat
 xs:List (Fr×Rat)
variable{rl:List Rw}
instance :Inhabited Rw:=⟨⟨0,0,[]⟩⟩
def Rw.v(r:Rw)(n:Nat):Value:=.slice (some ⟨r.b,0,none⟩) n r.cap
structure QF0(E:Env)(rl:List Rw)(W:Nat->Se)(N n:Nat):Prop where
 len:rl.length=N
 rd:∀v,v<N->cx E (el rl v).b 0 (Yi (el rl v).xs)
 at_:∀v,v<N->di (el rl v).xs (W v) n/\n<=(el rl v).cap
structure CoI(W:Nat->Se)(L:List Tm)(n:Nat) where
 j:Nat
 xs:List (Fr×Rat)
 le:j<=L.length
 hl:xs.length=n
 hx:∀m,m<n->(el xs m).2=Se.cmp W (L.take j) m
structure CoV(W:Nat->Se)(c:Rat)(ks:List Int)(N n:Nat) where
 v:Nat
 b:Nat
 xs:List (Fr×Rat)
 le:v<=N
 hl:xs.length=n
 hx:di xs (Se.zX W c ks v 0) n
structure CoE(W:Nat->Se)(c:Rat)(ks:List Int)(n v:Nat) where
 e:Nat
 b:Nat
 xs:List (Fr×Rat)
 le:e<=(Qd ks v).toNat
 hl:xs.length=n
 hx:di xs (Se.zX W c ks v e) n
structure CoA(W:Nat->Se)(L:List Tm)(n j:Nat) where
 i:Nat
 xs:List (Fr×Rat)
 le:i<=n
 hl:xs.length=n
 hx:∀m,m<n->(el xs m).2=if m<i then Se.cmp W (L.take (j+1)) m else Se.cmp W (L.take j) m
def QBp{W:Nat->Se}{L:List Tm}{t:Tm}(hj:j<L.length)(ht:L[j]?=some t)(hi:i<n)(hl:xs.length=n)(hx:∀m,m<n->(el xs m).2=if m<i then Se.cmp W (L.take (j+1)) m else Se.cmp W (L.take j) m){s:Rat}(hs:s=(Se.C t.1*Se.Ez W t.2 t.2.length) i)(x:Fr):∀m,m<n->(el (xs.set i (x,Se.cmp W (L.take j) i+s)) m).2=if m<i+1 then Se.cmp W (L.take (j+1)) m else Se.cmp W (L.take j) m:=λm hm=>by
 rw[FZ O];by_cases e:m=i
 ·subst e;rw[if_pos rfl,if_pos O,Se.QBq W hj t ht,hs];rfl
 rw[if_neg e,hx m hm];by_cases h:m<i
 ·rw[if_pos h,if_pos O]
 rw[if_neg h,if_neg O]
theorem QCk(z:Zs n)(W:Nat->Se)(ks:List Int)(x:Fr)(c:Rat):di (z.1.2.set 0 (x,c)) (Se.zX W c ks 0 0) n where
 len:=by rw[List.length_set,z.len];exact Nat.le_refl _
 at_:=λi hi=>by
  rw[FZ (by rw[z.len];omega),Se.gD];show _=(if i=0 then c else 0);by_cases e:i=0
  ·rw[if_pos e,if_pos e]
  rw[if_neg e,if_neg e,z.at hi]
def QEM(hj:j<ts.length):(JQ ts)[j]?=some (el ts j).t:=by
 unfold JQ;rw[List.getElem?_map,List.getElem?_eq_getElem hj,J4 hj];rfl
section
variable{w0:World}{F0:Gs}{bs:List (Nat×Obj)}{G:Gs->Prop}
theorem zo{W:Nat->Se}{s:Sr}{kc:Nat}(h1:1<=n)(hn:n<=1000000)(hN:1<=N)(hts:ts.length<=1000000)(hP:∀F,G F->Jl F s ts (JQ ts))(hR:∀F,G F->Qy F q N 1 (rl.map λr=>r.v n))(hO:QF0 ⟨w0,F0,bs,G⟩ rl W N n)(hX:∀F,G F->∀v,v<N->We F (el rl v).xs)(hz:Se.zN W (JQ ts) N n):
  J8 prog 60 [s.v,.slice q N kc] ⟨w0,F0,bs,G⟩ (λ(c:Ps (Se.cmp W (JQ ts)) n)=>.slice (some ⟨c.1.1,0,none⟩) n n) (λc=>⟨w0,F0,(c.1.1,.cells (Yi c.1.2).toArray 95 (0,0))::bs,λF=>G F/\We F c.1.2⟩):=by
 obtain⟨sq,sn,sc⟩:=s;have hrl:=hO.len;have rv:∀v,v<N->(rl.map λr=>r.v n)[v*1]?=some ((el rl v).v n):=λv hv=>ZD (f:=λr:Rw=>r.v n) O;refine J8.intro func60 rfl wy rfl rfl<|Ml (H:=λF=>ts.length=sn) (λF hF=>(hP F hF).2.2.2.2)<|QGi<|wQ rfl<|wR rfl<|QA (Q2 (n:=N) 0 (λF h=>hR F h.1) rfl rfl MZ Hy O)<|QA (Qz (n:=N) (0*1) (λF h=>hR F h.1) O rfl Hy (rv 0 O))<|QA (Qf rfl X4)<|wQ rfl<|wR rfl<|XA rfl (List.Perm.refl _) (Cy h1 hn) λz=>?_
 have hzl:=z.len;refine QHB 7 I<|QA (Qf I ZA)<|QHB 3 I<|Xe _ (λ_ F _ h=>h.1.2) λhsn=>QS<|Jo (ι:=CoI W (JQ ts) n) [(1,_),(5,_),(6,_),(20,_),(21,_)] (λi=>[(22,.int .i64 ((i.j:Nat):Int))]) (λi=>(z.1.1,.cells (Yi i.xs).toArray 95 (0,0))::bs) (λi F=>We F i.xs) (λi=>ts.length-i.j) (⟨0,z.1.2,Nat.zero_le _,hzl,λm hm=>z.at hm⟩) wW wS QGJ tB λi=>?_
 simp only[List.cons_append,List.nil_append];have hi:=i.le;rw[ZC]at hi;have hil:=i.hl;refine wA 6 I ?_;refine QP I (λhc2=>?_) λhc2=>?_
 ·have hlt:i.j<ts.length:=wk<|QGx hc2
  have htm:=JK hlt;have htm2:(el ts i.j).t∈JQ ts:=List.mem_map_of_mem htm;obtain⟨hkl,hpw⟩:=hz.l _ htm2;have hl1000:=hpw.2;have hcz:=hz.c _ htm2;refine QHC 6 I<|QA (Q2 (n:=sn) (i.j) (λF h=>(hP F h.1.1.1).1) rfl rfl ZA Ju O)<|QA (XZ (n:=sn) (vs:=[.int .i64 (el ts (i.j)).x.n.s,.slice (el ts (i.j)).x.n.q (el ts (i.j)).x.n.n (el ts (i.j)).x.n.cap,.int .i64 (el ts (i.j)).x.d.s,.slice (el ts (i.j)).x.d.q (el ts (i.j)).x.d.n (el ts (i.j)).x.d.cap,.slice (el ts (i.j)).r.q (el ts (i.j)).r.n (el ts (i.j)).r.cap]) ((i.j)*5) (λF h=>(hP F h.1.1.1).1) O I Ju I λj v hv=>Jg (f:=Y2) (l:=ts) Yx O hv)<|Qg Ye λb8=>QZ (vs:=[_,_,_,_,_]) I I I Ju I .here .h5 wW<|QHB 5 I<|XA I (List.Perm.refl _) (Cy h1 hn) λz2=>?_
  have hzl2:=z2.len;refine QHB 6 I<|QA (QH I Ya Ql)<|QA (wJ I Ql .u1)<|QA (Qx (i:=0) rfl rfl X4 Ql O)<|QZ (vs:=B6 (el ts i.j).x) rfl rfl rfl Ql I .here (SD O (el ts i.j).x (el ts i.j).t.1) wV<|QHB 5 I<|QA (QH I ZK Q5)<|QA (Qh I Q5 .u1 (.skip (.skip (.skip (.skip .h1)))))<|QA (Qf I Qk)<|QHB 3 I<|Xe _ (λ_ F _ h=>((hP F h.1.1.1.1).2.1 _ htm).2.2.1) λhrn=>QS<|Jo (ι:=CoV W (el ts i.j).t.1 (el ts i.j).t.2 N n) [(1,_),(5,_),(6,_),(8,_),(20,_),(21,_),(22,_),(33,_),(34,_)] (λk=>[(9,.slice (some ⟨k.b,0,none⟩) n n),(35,.int .i64 ((k.v:Nat):Int))]) (λk=>(k.b,.cells (Yi k.xs).toArray 95 (0,0))::(b8,.cells (Y2 (el ts i.j)).toArray 101 (0,0))::(z.1.1,.cells (Yi i.xs).toArray 95 (0,0))::bs) (λk F=>We F k.xs) (λk=>N-k.v) (⟨0,z2.1.1,z2.1.2.set 0 ((el ts i.j).x,(el ts i.j).t.1),Nat.zero_le _,by rw[List.length_set];exact hzl2,QCk z2 W _ _ _⟩) we wT QGJ (λF h=>h.2.set ((hP F h.1.1.1.1).2.1 _ htm).1 0) λk=>?_
  simp only[List.cons_append,List.nil_append];have hk:=k.le;have hkl2:=k.hl;refine wA 6 I ?_;refine QP I (λhc3=>?_) λhc3=>?_
  ·have hlv:k.v<N:=wk<|QGx hc3
   have hdv:=hpw.el (show k.v<(el ts i.j).t.2.length by omega);refine QHC 7 I<|QA (Q2 (n:=(el ts i.j).r.n) (k.v) (λF h=>(((hP F h.1.1.1.1.1).2.1 _ htm).2).1) rfl rfl Qk Qu O)<|QA (Qz (n:=(el ts i.j).r.n) ((k.v)*1) (λF h=>(((hP F h.1.1.1.1.1).2.1 _ htm).2).1) O I Qu (JH (o:=(el ts i.j).t.2) O))<|QHB 11 I<|Jo (ι:=CoE W (el ts i.j).t.1 (el ts i.j).t.2 n k.v) [(1,_),(5,_),(6,_),(8,_),(10,_),(20,_),(21,_),(22,_),(33,_),(34,_),(35,_),(40,_)] (λe=>[(9,.slice (some ⟨e.b,0,none⟩) n n),(41,.int .i64 ((e.e:Nat):Int))]) (λe=>(e.b,.cells (Yi e.xs).toArray 95 (0,0))::(b8,.cells (Y2 (el ts i.j)).toArray 101 (0,0))::(z.1.1,.cells (Yi i.xs).toArray 95 (0,0))::bs) (λe F=>We F e.xs) (λe=>(Qd (el ts i.j).t.2 k.v).toNat-e.e) (⟨0,k.b,k.xs,Nat.zero_le _,hkl2,k.hx⟩) wj wT QGJ tB λe=>?_
   simp only[List.cons_append,List.nil_append];have he:=e.le;refine wA 6 I ?_;refine QP I (λhc4=>?_) λhc4=>?_
   ·have hle:e.e<(Qd (el ts i.j).t.2 k.v).toNat:=wk<|QGx hc4
    refine QHC 8 I<|QA (Q2 (n:=N) k.v (λF h=>hR F h.1.1.1.1.1.1) rfl rfl MZ Hy O)<|QA (Qz (n:=N) (k.v*1) (λF h=>hR F h.1.1.1.1.1.1) O I Hy (rv k.v hlv))<|XA I (List.Perm.refl _) (QAJ (nb:=n) (A:=Se.zX W (el ts i.j).t.1 (el ts i.j).t.2 k.v e.e) (B:=W k.v) (xa:=e.xs) (xb:=(el rl k.v).xs) h1 hn (Nat.le_refl _) (hO.at_ _ hlv).2 (cx.own List.mem_cons_self) ((hO.rd _ hlv).to λw h=>h.imp (.cons _ (.cons _ (List.sublist_cons_self _ _))) λF h=>h.1.1.1.1.1.1) e.hx (hO.at_ _ hlv).1 (λF h=>⟨h.2,hX F h.1.1.1.1.1.1 _ hlv⟩) (hz.p _ htm2 _ hlv _ hle)) λc=>wB 2 I<|Qi<|QD<|QB<|QA (Qm I I O)<|wB 2 I ?_
    exact Qj (⟨e.e+1,c.1.1,c.1.2,hle,c.2.1,(congrArg (λA=>di c.1.2 A n) (Se.qf W _ _ _ _)).mp c.2.2⟩) (by show(Qd (el ts i.j).t.2 k.v).toNat-(e.e+1)<(Qd (el ts i.j).t.2 k.v).toNat-e.e;omega) ⟨rfl,rfl,rfl,rfl,rfl,rfl,rfl,rfl,rfl,rfl,rfl,rfl,rfl,rfl,trivial⟩ (.cons_cons _ (List.sublist_cons_self _ _)) λF h=>⟨h.1.1,h.2⟩
   have hge3:e.e=(Qd (el ts i.j).t.2 k.v).toNat:=wk<|QGy hc4
   refine Qv ?_
   repeat first|refine QV ?_|refine QQ wy ?_
   refine QW<|Qi<|QD<|QB<|QA (Qm I I O)<|wB 2 I ?_
   exact Qj (⟨k.v+1,e.b,e.xs,hlv,e.hl,by have:=e.hx;rwa [hge3,Se.cD]at this⟩) (by show N-(k.v+1)<N-k.v;omega) wi QGJ λF h=>⟨h.1.1,h.2⟩
  have hge2:k.v=N:=wk<|QGy hc3
  have hst:∀m,m<n->(el k.xs m).2=(Se.C (el ts i.j).t.1*Se.Ez W (el ts i.j).t.2 (el ts i.j).t.2.length) m:=λm hm=>by
   have:=k.hx.at_ m hm;rw[this,hge2,hkl];unfold Se.zX;rw[Se.pw,Se.mul_one]
  have hsz:∀m,m<n->Jn (el k.xs m).2<=100000000:=λm hm=>by
   rw[hst m hm,hkl];exact hz.s _ htm2 m hm
  refine Qv ?_
  repeat first|refine QV ?_|refine QQ wy ?_
  refine QW<|QD<|wR I<|QA (Qf I X4)<|QHB 4 I<|Jo (ι:=CoA W (JQ ts) n i.j) [(1,_),(5,_),(6,_),(20,_),(21,_),(22,_),(51,_),(52,_)] (λa=>[(53,.int .i64 ((a.i:Nat):Int))]) (λa=>(k.b,.cells (Yi k.xs).toArray 95 (0,0))::(b8,.cells (Y2 (el ts i.j)).toArray 101 (0,0))::(z.1.1,.cells (Yi a.xs).toArray 95 (0,0))::bs) (λa F=>We F a.xs) (λa=>n-a.i) (⟨0,i.xs,Nat.zero_le _,hil,λm hm=>by rw[if_neg O];exact i.hx m hm⟩) wZ wS QGJ (λF h=>h.1.1.2) λa=>?_
  simp only[List.cons_append,List.nil_append];have hai:=a.le;have hal:=a.hl;refine wA 6 I ?_;refine QP I (λhc5=>?_) λhc5=>?_
  ·have hla:a.i<n:=wk<|QGx hc5
   have haf:∀F,We F a.xs->Jz F (el a.xs a.i).1 (Se.cmp W ((JQ ts).take i.j) a.i):=λF h=>by
    have h1:=a.hx a.i hla;rw[if_neg O]at h1;rw[<-h1];exact h.el O
   refine QHC 7 I<|QA (Qx (i:=a.i) rfl rfl X4 Ql O)<|QA (Uu (vs:=B6 (el k.xs a.i).1) rfl Ql .here rfl (by rw[Nat.zero_add];exact O7 O))<|Qg KM λb13=>QF6 I<|QZ (vs:=[_,_,_,_]) I I I Ql I .here .h4 wV<|QF4<|XN 9 QGJ mixed wm wm ?_
   simp only[List.take_succ_cons,List.take_zero,List.drop_succ_cons,List.drop_zero];refine QL (QC I)<|QL (QC I)<|QL (QC I)<|QL (QC I)<|QL (Qx (i:=a.i) rfl rfl X4 Ql O)<|QL (Uu (vs:=B6 (el a.xs a.i).1) rfl Ql .u3 rfl (by rw[Nat.zero_add];exact O7 O))<|QL (wJ I Ql .here)<|Qc I (λ_ F f h=>Pj f (haf F h.2) (h.1.2.el O) (hz.z _ (by rw[ZC];omega) _ hla) (hsz _ hla)) λx65=>QL (Qx (i:=a.i) rfl rfl X4 Ql O)<|KH<|QZ (vs:=B6 x65) rfl rfl rfl Ql I .u3 (SD O x65 (Se.cmp W ((JQ ts).take i.j) a.i+(el k.xs a.i).2)) wV<|QE<|Qi<|QD<|QB<|QA (Qm I I O)<|wB 2 I ?_
   exact Qj (⟨a.i+1,a.xs.set a.i (x65,_),hla,by rw[List.length_set];exact hal,QBp (by rw[ZC];omega) (QEM hlt) hla hal a.hx (hst _ hla) x65⟩) (by show n-(a.i+1)<n-a.i;omega) we (List.sublist_cons_self _ _) λF h=>⟨h.1.1,h.1.2.set h.2 _⟩
  have hge5:a.i=n:=wk<|QGy hc5
  refine Qv ?_
  repeat first|refine QV ?_|refine QQ wy ?_
  refine QW<|Qi<|QD<|QB<|QA (Qm I I O)<|wB 2 I ?_
  exact Qj (⟨i.j+1,a.xs,by rw[ZC];omega,hal,λm hm=>by rw[a.hx m hm,if_pos O]⟩) (by show ts.length-(i.j+1)<ts.length-i.j;omega) wX (.cons _ (List.sublist_cons_self _ _)) λF h=>⟨h.1.1.1.1,h.2⟩
 have hge:i.j=ts.length:=wk<|QGy hc2
 refine Qv ?_
 repeat first|refine QV ?_|refine QQ wy ?_
 refine QW<|QHD 8 I ?_
 exact Z2 (⟨(z.1.1,i.xs),hil,by show n<=i.xs.length;omega,λm hm=>by
  show(el i.xs m).2=_;rw[i.hx m hm,hge,List.take_of_length_le (by rw[ZC];exact Nat.le_refl _)]⟩) I (wN I) rfl λw h=>h.Dd λF h=>⟨h.1.1.1,h.2⟩
end
section
open Go Go.RowKit Ig
section
variable[Dr][df:Df]
section
variable{P:Program}{Q:Exit->Act->World->Prop}
theorem Cm{md:Region.Mode}{ops:Array Oper}{S':World->Prop}(h:∀w,S w->S' w):∀(fuel:Nat) (listed:Array Bool) (a:Act) (w:World),wpAnyH P md ops Q S fuel listed a w->wpAnyH P md ops Q S' fuel listed a w
 |0,_,_,_,hh=>hh
 |fuel+1,_,_,_,hh=>⟨hh.1,λi hi=>wpOp_mono (λa' w' h'=>⟨h _ h'.1,Cm h fuel _ a' w' h'.2⟩) (hh.2 i hi)⟩
def Oy(P:Program)(l:List Oper)(Q:Exit->Act->World->Prop):(World->Prop)->Nat->List Nat->Act->World->Prop
 |_,0,_,a,w=>Q .normal a w
 |S,n+1,r,a,w=>match GU l r with
  |some i=>∃o v,l[i]?=some o/\YieldsIf P l.toArray S o v a/\Oy P l Q S n (r.erase i) (a.put o.dst v) w
  |none=>∀i∈r,KV l r i=true->wpOp P l.toArray (λ_ _ _=>False) i (λa' w'=>∃S':World->Prop,(∀w,S' w->S w)/\S' w'/\Oy P l Q S' n (r.erase i) a' w') a w
theorem QAG{l:List Oper}(hB:Bw l=true)(hQ:∀c a d v w,Q (.panic c) (Act.put a d v) w->Q (.panic c) a w):
  ∀(m:Nat) (S:World->Prop) (r:List Nat) (listed:Array Bool) (a:Act) (w:World),r.length=m->r.Pairwise (·<·)->(∀i,i∈r↔i<l.length/\listed.getD i true=false)->listed.size=l.length ->
   (∀j oj,l.toArray[j]?=some oj->listed.getD j false=true->∀e∈oj.after,Region.binds .any e=true->listed.getD e.on false=true)->S w->Oy P l Q S m r a w->wpAnyH P .any l.toArray Q S m listed a w:=by
 have hB':=hB;simp only[Bw,Bool.and_eq_true]at hB';obtain⟨⟨hns,hord⟩,_⟩:=hB';have hsel:=Region.noSelect_spec hns;intro m
 induction m with
 |zero =>
  intro S r listed a w hm hs hr hsz hcl hS h;have:r=[]:=List.length_eq_zero_iff.1 hm;subst this;refine⟨?_,h⟩;rw[List.eq_nil_iff_forall_not_mem];intro i hi;obtain⟨h1,o,ho,_⟩:=mem_ready.1 hi;have hlt:i<l.length:=by have:=(Array.getElem?_eq_some_iff.1 ho).1;simpa using this
  have:=(hr i).2 ⟨hlt,h1⟩;cases this
 |succ m ih =>
  intro S r listed a w hm hs hr hsz hcl hS h;have hready:∀j,j∈Region.ready .any l.toArray listed↔j∈r/\KV l r j=true:=by
   intro j;rw[mem_ready,hr j];constructor
   ·rintro⟨h1,o,ho,h2⟩;have hlt:j<l.length:=by have:=(Array.getElem?_eq_some_iff.1 ho).1;simpa using this
    refine⟨⟨hlt,h1⟩,?_⟩;unfold KV;have ho':l[j]?=some o:=by simpa using ho
    rw[ho'];rw[Array.all_eq_true_iff_forall_mem];intro e he;cases hb:Region.binds .any e with
    |false=>rfl
    |true =>
     have:=h2 e he hb;simp only[Bool.not_true,Bool.false_or,Bool.not_eq_true',List.contains_eq_mem,decide_eq_false_iff_not];intro hmem;have h3:=((hr e.on).1 hmem).2;rw[getD_both h3]at this;cases this
   rintro⟨⟨hlt,h1⟩,h2⟩;obtain⟨o,ho,hed⟩:=Xh hord hlt;refine⟨h1,o,ho,λe he hb=>?_⟩;unfold KV at h2;have ho':l[j]?=some o:=by simpa using ho
   rw[ho',Array.all_eq_true_iff_forall_mem]at h2;have:=h2 e he;rw[hb]at this;simp only[Bool.not_true,Bool.false_or,Bool.not_eq_true',List.contains_eq_mem,decide_eq_false_iff_not]at this;cases hv:listed.getD e.on false with
   |true=>rfl
   |false =>
    have hel:=hed e he hb;exact absurd ((hr e.on).2 ⟨O,getD_in O hv⟩) this
  have next:∀j,j∈Region.ready .any l.toArray listed->∀(S:World->Prop) a' w',S w'->Oy P l Q S m (r.erase j) a' w'->wpAnyH P .any l.toArray Q S m (listed.setIfInBounds j true) a' w':=by
   intro j hj S a' w' hS' h';have hjr:=((hready j).1 hj).1;have hjsz:j<listed.size:=by rw[hsz];exact((hr j).1 hjr).1
   refine ih S (r.erase j) _ a' w' (by rw[List.length_erase_of_mem hjr];omega) (hs.sublist List.erase_sublist) (λk=>?_) (by simpa using hsz) (λk ok hk hl e he hb=>?_) hS' h'
   ·rw[List.Nodup.mem_erase_iff (hs.imp λh=>Nat.ne_of_lt h),hr k];by_cases hjk:j=k
    ·subst hjk;simp[hjsz]
    rw[getD_set_ne true hjk];simp[Ne.symm hjk]
   by_cases hjk:j=k
   ·subst hjk;obtain⟨_,oj,hoj,hall⟩:=mem_ready.1 hj;have:ok=oj:=Option.some.inj (hk.symm.trans hoj);subst this;exact getD_set_true (hall e he hb)
   rw[getD_set_ne false hjk]at hl;exact getD_set_true (hcl k ok hk hl e he hb)
  unfold Oy at h;cases hp:GU l r with
  |some j =>
   rw[hp]at h;obtain⟨oj,v,hoj0,hy,h'⟩:=h;have hoj:l.toArray[j]?=some oj:=by simpa using hoj0
   have hjr:j∈r:=List.mem_of_find?_eq_some hp;have hqr:=List.find?_some hp;simp only[Bool.and_eq_true]at hqr;have hq:Jr oj.op=true:=by have:=hqr.1;unfold PB at this;rw[hoj0]at this;exact this
   have hj:j∈Region.ready .any l.toArray listed:=(hready j).2 ⟨hjr,hqr.2⟩;have hjs:=mem_ready.1 hj;have happ:∀k ok,l.toArray[k]?=some ok->k≠j->listed.getD k true=false->(∀e∈ok.after,Region.binds .any e=true->e.on≠j)->oj.apart l.toArray ok=true:=by
    intro k ok hok hkj hun hno;have hnw:Region.waitsFor .any l.toArray k j=false:=by
     cases hv:Region.waitsFor .any l.toArray k j with
     |false=>rfl
     |true =>
      obtain⟨o',ho',e,he,hb,hon⟩:=Region.waitsFor_spec hv;have:o'=ok:=Option.some.inj (ho'.symm.trans hok);subst this;exact absurd hon (hno e he hb)
    have hnw2:Region.waitsFor .any l.toArray j k=false:=by
     cases hv:Region.waitsFor .any l.toArray j k with
     |false=>rfl
     |true =>
      obtain⟨o',ho',e,he,hb,hon⟩:=Region.waitsFor_spec hv;obtain⟨_,o2,ho2,hall⟩:=hjs;have:o'=o2:=Option.some.inj (ho'.symm.trans ho2);subst this;have:=hall e he hb;rw[hon,getD_both hun]at this;cases this
    rcases Nat.lt_or_gt_of_ne hkj with hlt | hgt
    ·have:=BY hB hlt (by simpa using hok) (by simpa using hoj) (by simp[hq]);rw[hnw2]at this;exact Ed (by simpa using this)
    have:=BY hB hgt (by simpa using hoj) (by simpa using hok) (by simp[hq]);rw[hnw]at this;simpa using this
   exact wpAnyH_first hoj hsel (λc a w h=>hQ c a _ v w h) m listed a w happ hj hy hS (next j hj S _ w hS h')
  |none =>
   rw[hp]at h
   match r,hm,hs,hr,h,hready,next with
   |i::r,hm,hs,hr,h,hready,next =>
    have hil:=(hr i).1 wz;have hmin:∀j,j<i->listed.getD j false=true:=by
     intro j hj;cases hv:listed.getD j false with
     |true=>rfl
     |false =>
      have hjl:j<l.length:=O;have:=(hr j).2 ⟨hjl,getD_in O hv⟩;rcases List.mem_cons.1 this with e | e
      ·omega
      have:=(List.pairwise_cons.1 hs).1 j e;omega
    obtain⟨oi,hoi,hed⟩:=Xh hord hil.1;have hri:i∈Region.ready .any l.toArray listed:=mem_ready.2 ⟨hil.2,oi,hoi,λe he hb=>hmin _ (hed e he hb)⟩;refine⟨λh0=>(by rw[h0]at hri;cases hri),λj hj=>?_⟩;have hj':=(hready j).1 hj;exact Rp (wpOp_mono (λa' w' ⟨S',hs,h1,h2⟩=>⟨hs _ h1,Cm hs _ _ _ _ (next j hj S' a' w' h1 h2)⟩) (h j hj'.1 hj'.2))
theorem zP{l:List Oper}{Q':Exit->Act->World->Prop}(hB:Bw l=true)(hQ:∀c a w,¬Q' (.panic c) a w){a:Act}{w:World}(hS:S w)(h:Oy P l Q' S l.length (List.range' 0 l.length) a w):
  wpAny P .any l.toArray Q' l.length (Array.replicate l.length false) a w:=by
 refine wpAny_of_held _ _ _ _ (QAG hB (λc a d v w h=>absurd h (hQ c _ w)) l.length S (List.range' 0 l.length) _ a w wz List.pairwise_lt_range' (λi=>?_) wz (λj oj _ hl=>(by rw[getD_replicate_false]at hl;cases hl)) hS h);rw[List.mem_range'_1];constructor
 ·intro h;have:i<l.length:=O;simp[this]
 intro h;omega
theorem Ct{id:Nat}{a:Act}{l:List Oper}(hm:P.follows .mixedOrders=true)(hB:Bw l=true)(hS:S { w with drawn:=w.drawn+1 })
  (h:Oy P l (XO (Q .normal)) S l.length (List.range' 0 l.length) a { w with drawn:=w.drawn+1 }):(Code.region id l.toArray true).wp P Q a w:=by
 refine wp_region_any hm ?_;have:=zP (P:=P) (Q':=XO (Q .normal)) hB (λc a w h=>h) hS h;simpa using Vb (Q':=Q) (λe a w h=>by cases e<;>first | exact h | exact h.elim) _ _ _ _ this
end
section
variable{P:Program}{Q:Exit->Act->World->Prop}{N:Nat}{m:Sl}{E E0:Env}{l:List Oper}{r r':List Nat}{w0:World}{F0:Gs}{bs:List (Nat×Obj)}{G:Gs->Prop}
def JV(P:Program)(l:List Oper)(Q:Exit->Act->World->Prop)(E0:Env)(r:List Nat)(N:Nat)(m:Sl)(E:Env):Prop:=(∀w,St E w->St E0 w)->∀a w,JY N m a->St E w->Oy P l Q (St E0) r.length r a w
def QBW(P:Program)(l:List Oper)(Q:Exit->Act->World->Prop)(E:Env)(r:List Nat):Act->World->Prop:=λa w=>∃S':World->Prop,(∀w,S' w->St E w)/\S' w/\Oy P l Q S' r.length r a w
def QBD(P:Program)(l:List Oper)(Q:Exit->Act->World->Prop)(E:Env)(r:List Nat):Act->World->Prop:=λa w=>Oy P l Q (St E) r.length r a w
theorem Iz(h:JV P l Q E0 r N m E):JD P l.toArray (XO (QBD P l Q E0 r)) E0 [] N m E:=λhE a w ha hw=>h hE a w ha hw
theorem QF3{E1:Env}(h1:∀w,St E1 w->St E0 w)(h2:∀w,St E w->St E1 w)(h:JV P l Q E1 r N m E):JD P l.toArray (XO (QBW P l Q E0 r)) E0 [] N m E:=λ_ a w ha hw=>⟨St E1,h1,h2 w hw,h h2 a w ha hw⟩
theorem QCP(h:JV P l Q E0 r N m E):JD P l.toArray (XO (QBW P l Q E0 r)) E0 [] N m E:=λhE a w ha hw=>⟨St E0,λ_ h=>h,hE w hw,h hE a w ha hw⟩
theorem I0(i:Nat){o:Oper}(hp:GU l r=some i)(ho:l[i]?=some o)(he:r.erase i=r')(h:JD P l.toArray (XO (QBD P l Q E0 r')) E0 [o] N m E):JV P l Q E0 r N m E:=by
 intro hE a w ha hw;subst he;have hi:i∈r:=List.mem_of_find?_eq_some hp;rw[EV hi];unfold Oy;rw[hp];have hq:Jr o.op=true:=by
  have:=List.find?_some hp;simp only[Bool.and_eq_true]at this;have:=this.1;unfold PB at this;rw[ho]at this;exact this
 rcases h hE a w ha hw with ⟨_,v,h1,h2⟩ | ⟨h1,_⟩
 ·exact⟨o,v,ho,h1,h2⟩
 rw[hq]at h1;cases h1
theorem vr{o:Oper}{K:Act->World->Prop}(ho:l[i]?=some o)(hq:Jr o.op=false)(h:JD P l.toArray (XO K) E0 [o] N m E)(hE:∀w,St E w->St E0 w){a:Act}{w:World}(ha:JY N m a)(hw:St E w):
  wpOp P l.toArray (λ_ _ _=>False) i (λa' w'=>St E0 w'/\K a' w') a w:=by
 have ho':l.toArray[i]?=some o:=by simpa using ho
 unfold wpOp;simp only[ho'];rcases h hE a w ha hw with ⟨h1,_⟩ | ⟨_,h2⟩
 ·rw[hq]at h1;cases h1
 split
 ·rename_i g;rw[if_pos g]at h2;exact .inl h2
 rename_i g;rw[if_neg g]at h2;exact h2
theorem QAC(i:Nat){o:Oper}(hp:GU l r=none)(hl:r.filter (KV l r)=[i])(ho:l[i]?=some o)(hq:Jr o.op=false)(he:r.erase i=r')(h:JD P l.toArray (XO (QBW P l Q E0 r')) E0 [o] N m E)(hr:r≠[]:=by decide):JV P l Q E0 r N m E:=by
 intro hE a w ha hw;subst he;obtain⟨x,s,rfl⟩:=List.exists_cons_of_ne_nil hr;show Oy P l Q (St E0) (s.length+1) (x::s) a w;unfold Oy;rw[hp];intro j hj hrd;have hm:j∈(x::s).filter (KV l (x::s)):=List.mem_filter.2 ⟨hj,hrd⟩;rw[hl]at hm;cases List.mem_singleton.1 hm;refine wpOp_mono (λa' w' ⟨_,S',h1,h2,h3⟩=>⟨S',h1,h2,?_⟩) (vr ho hq h hE ha hw);have e2:s.length=((x::s).erase i).length:=by
  have:=EV hj;rw[List.length_cons]at this;omega
 rw[e2];exact h3
theorem QDg{id:Nat}{bs0:List (Nat×Obj)}(hb0:bs0.Sublist bs)(hm:P.follows .mixedOrders=true)(hB:Bw l=true)(hr:List.range' 0 l.length=r)(h:JV P l (XO (Q .normal)) ⟨w0,F0,bs0,G⟩ r N m ⟨w0,F0,bs,G⟩):J P (.region id l.toArray true) Q N m ⟨w0,F0,bs,G⟩:=λa w ha hw=>by
 subst hr;refine Ct hm hB ((hw.imp hb0 λ_ h=>h).drew) ?_;have:=h (λ_ h=>h.imp hb0 λ_ h=>h) a _ ha hw.drew;simpa using this
theorem QDh(h:Fin Q .normal N m E):JV P l (XO (Q .normal)) E0 [] N m E:=λ_=>h
end
end
end
def Ma(r:Rw):Nat×Obj:=(r.b,.cells (Yi r.xs).toArray 95 (0,0))
def bcV(n:Nat)(p:Nat×Nat):Value:=.slice (some ⟨p.1,0,none⟩) n p.2
def Rw.bc(r:Rw):Nat×Nat:=(r.b,r.cap)
def QDt(rl:List Rw)(n:Nat):rl.map (λr=>r.v n)=(rl.map Rw.bc).map (bcV n):=by rw[List.map_map];rfl
def Own.right{l:List (Nat×Obj)}{o:Obj}{f:Obj->List (Nat×Obj)}(h:Own l b o f)(r:List (Nat×Obj)):Own (l++r) b o (λo'=>f o'++r):=by
 induction h with
 |here=>exact .here
 |there _ ih=>exact .there ih
def QBC(hi:i<rl.length):rl=rl.take i++el rl i::rl.drop (i+1):=by rw[<-Dk hi,List.take_append_drop]
def QBO(hi:i<rl.length)(bs:List (Nat×Obj)):Gf (rl.map Ma++bs) (el rl i).b (.cells (Yi (el rl i).xs).toArray 95 (0,0)) (λo'=>(rl.take i).map Ma++((el rl i).b,o')::((rl.drop (i+1)).map Ma++bs)) ((rl.take i).map Ma++((rl.drop (i+1)).map Ma++bs)):=by
 have e:rl.map Ma++bs=(rl.take i).map Ma++Ma (el rl i)::((rl.drop (i+1)).map Ma++bs):=by
  conv=>lhs;rw[QBC hi]
  rw[List.map_append,List.map_cons,List.append_assoc,List.cons_append]
 rw[e];exact Gf.skip .here _
def Fi(rl:List Rw)(i:Nat)(xs:List (Fr×Rat)):List Rw:=rl.set i ⟨(el rl i).b,(el rl i).cap,xs⟩
def QAI(hi:i<rl.length)(xs:List (Fr×Rat))(bs:List (Nat×Obj)):(rl.take i).map Ma++((el rl i).b,Obj.cells (Yi xs).toArray 95 (0,0))::((rl.drop (i+1)).map Ma++bs)=(Fi rl i xs).map Ma++bs:=by
 unfold Fi;rw[List.set_eq_take_append_cons_drop,if_pos hi,List.map_append,List.map_cons,List.append_assoc,List.cons_append];rfl
def zY(rl:List Rw)(i:Nat)(xs:List (Fr×Rat)):(Fi rl i xs).length=rl.length:=List.length_set ..
theorem QA9(hi:i<rl.length)(xs:List (Fr×Rat)):(Fi rl i xs).map Rw.bc=rl.map Rw.bc:=by
 unfold Fi;rw[List.map_set];refine List.ext_getElem? λj=>?_;rw[List.getElem?_set];by_cases e:i=j
 ·subst e;rw[if_pos rfl,if_pos (by simpa using hi),List.getElem?_map,List.getElem?_eq_getElem hi,J4 hi];rfl
 rw[if_neg e]
def QA8(hi:i<rl.length)(xs:List (Fr×Rat))(j:Nat):el (Fi rl i xs) j=if j=i then⟨(el rl i).b,(el rl i).cap,xs⟩else el rl j:=by
 unfold Fi el;rw[List.getD_eq_getElem?_getD,List.getD_eq_getElem?_getD,List.getElem?_set];by_cases e:i=j
 ·subst e;rw[if_pos rfl,if_pos hi,if_pos rfl];rfl
 rw[if_neg e,if_neg (λh=>e h.symm),List.getD_eq_getElem?_getD]
def St.cW{w0:World}{F0:Gs}{bs:List (Nat×Obj)}:∀ {l:List Rw} {G:Gs->Prop},St ⟨w0,F0,l.map Ma++bs,G⟩ w->St ⟨w0,F0,bs,λF=>G F/\∀r∈l,F r.b=some ((Yi r.xs).toArray,95)⟩ w
 |[],_,h=>h.Dd λF h=>⟨h,λ_ h=>by cases h⟩
 |r::l,G,h=>by
  have h1:=St.freeze (w0:=w0) (F0:=F0) [] (post:=l.map Ma++bs) (b:=r.b) h;have h2:=St.cW (l:=l) h1;exact h2.Dd λF h=>⟨h.1.1,λx hx=>by
   rcases List.mem_cons.1 hx with rfl | hx
   ·exact h.1.2
   exact h.2 x hx⟩
structure ve(o:Nat)(f:Nat->Se)(rl:List Rw):Prop where
 at_:∀u,u<rl.length->(el rl u).xs.length=o+1/\(∀i,i<o+1->(el (el rl u).xs i).2=f u i)/\(el rl u).cap=o+1
def QAe(F:Gs)(rl:List Rw):Prop:=∀r∈rl,We F r.xs
def QAe.set(h:QAe F rl){xs:List (Fr×Rat)}(hx:We F xs)(i:Nat):QAe F (Fi rl i xs):=λr hr=>by
 rcases List.mem_or_eq_of_mem_set hr with hr | rfl
 ·exact h r hr
 exact hx
def ve.set{f g:Nat->Se}(h:ve o f rl)(hi:i<rl.length)(hj:j<o+1){x:Fr}{r:Rat}(hr:r=g i j)(hg:∀u,u<rl.length->∀m,m<o+1->u≠i\/m≠j->f u m=g u m):ve o g (Fi rl i ((el rl i).xs.set j (x,r))) where
 at_:=λu hu=>by
  rw[zY]at hu;rw[QA8 hi];by_cases e:u=i
  ·subst e;obtain⟨h1,h2,h3⟩:=h.at_ u hu;rw[if_pos rfl];refine⟨by show((el rl u).xs.set j _).length=_;rw[List.length_set];exact h1,λm hm=>?_,h3⟩;show(el ((el rl u).xs.set j (x,r)) m).2=_;rw[FZ O];by_cases e2:m=j
   ·subst e2;rw[if_pos rfl];exact hr
   rw[if_neg e2,h2 m hm,hg u hu m hm (.inr e2)]
  obtain⟨h1,h2,h3⟩:=h.at_ u hu;rw[if_neg e];exact⟨h1,λm hm=>by rw[h2 m hm,hg u hu m hm (.inl e)],h3⟩
def ve.snoc{f:Nat->Se}(h:ve o f rl){b:Nat}{xs:List (Fr×Rat)}(hl:xs.length=o+1)(hx:∀i,i<o+1->(el xs i).2=f rl.length i):ve o f (rl++[⟨b,o+1,xs⟩]) where
 at_:=λu hu=>by
  rw[List.length_append,List.length_singleton]at hu;by_cases e:u<rl.length
  ·have:el (rl++[(⟨b,o+1,xs⟩:Rw)]) u=el rl u:=by unfold el;rw[List.getD_eq_getElem?_getD,List.getD_eq_getElem?_getD,List.getElem?_append_left e]
   rw[this];exact h.at_ u e
  have e2:u=rl.length:=O;subst e2;have:el (rl++[(⟨b,o+1,xs⟩:Rw)]) rl.length=⟨b,o+1,xs⟩:=by unfold el;rw[List.getD_eq_getElem?_getD,List.getElem?_append_right (Nat.le_refl _),Nat.sub_self];rfl
  rw[this];exact⟨hl,hx,rfl⟩
structure SvI(o N:Nat)(f:Nat->Se) where
 v:Nat
 y:Value
 ob:List (Nat×Obj)
 rl:List Rw
 le:v<=N
 hl:rl.length=v
 hr:Q6 116 1 y v ((rl.map Rw.bc).map (bcV (o+1))) ob
 hx:ve o f rl
abbrev SvX(o:Nat)(a:Se):={xs:List (Fr×Rat) // xs.length=o+1/\∀i,i<o+1->(el xs i).2=a i}
structure SkI(o N:Nat)(rs:List (List Tm))(st:List Rat)(BC:List (Nat×Nat)) where
 k:Nat
 rl:List Rw
 le:k<=o
 hl:rl.length=N
 hb:rl.map Rw.bc=BC
 hx:ve o (Se.Tv rs st k) rl
structure SuI(n N:Nat)(BC:List (Nat×Nat)) where
 u:Nat
 y:Value
 ob:List (Nat×Obj)
 le:u<=N
 hr:Q6 116 1 y u ((BC.take u).map (bcV n)) ob
structure SwI(o N k n:Nat)(rs:List (List Tm))(st:List Rat)(BC:List (Nat×Nat)) where
 v:Nat
 rl:List Rw
 le:v<=n
 hl:rl.length=N
 hb:rl.map Rw.bc=BC
 hx:ve o (λu=>if u<=v then Se.Tv rs st (k+1) u else Se.Tv rs st k u) rl
structure dh(rs:List (List Tm))(st:List Rat)(o:Nat):Prop where
 le:o<=16
 c:∀k,k<o->∀v,v<rs.length->Se.zN (Se.Tv rs st k) (el rs v) (rs.length+1) (k+1)
structure QFz(F:Gs)(d:Sr×List Rw)(X:Nat->Se)(N o:Nat):Prop where
 row:Qy F d.1.q N 1 (d.2.map λr=>r.v (o+1))
 n:d.1.n=N
 cap:N<=d.1.cap
 len:d.2.length=N
 at_:∀v,v<N->Qy F (some ⟨(el d.2 v).b,0,none⟩) (o+1) 4 (Yi (el d.2 v).xs)/\We F (el d.2 v).xs/\(el d.2 v).xs.length=o+1/\(∀i,i<o+1->(el (el d.2 v).xs i).2=X v i)/\(el d.2 v).cap=o+1
def QCo{BC:List (Nat×Nat)}{u:Nat}(h:u<BC.length)(n:Nat):(BC.take (u+1)).map (bcV n)=(BC.take u).map (bcV n)++[bcV n (el BC u)]:=by rw[Xg h,List.map_append];rfl
def QB6(rs:List (List Tm))(st:List Rat)(k v:Nat):Se.Tv rs st (k+1) (v+1) (k+1)=Se.cmp (Se.Tv rs st k) (el rs v) k/((k+1:Nat):Rat):=by
 show(if k+1=k+1 then _ else _)=_;rw[if_pos rfl]
def xt(rs:List (List Tm))(st:List Rat){k v i:Nat}(h:v=0\/i≠k+1):Se.Tv rs st (k+1) v i=Se.Tv rs st k v i:=by
 cases v with
 |zero=>rw[Se.dW,Se.dW]
 |succ v =>
  show(if i=k+1 then _ else Se.Tv rs st k (v+1) i)=_;rw[if_neg (h.resolve_left O)]
def QC4(k:Nat):(((k+1:Nat):Rat)).num≠0:=by rw[Rat.num_natCast];omega
def QC3(k:Nat)(h:k<=16):Jn ((((k+1:Nat):Int)):Rat)<=100000000:=by
 have h1:=FU ((k+1:Nat):Int);have h2:sz ((k+1:Nat):Int)<=100:=by
  have:k=0\/k=1\/k=2\/k=3\/k=4\/k=5\/k=6\/k=7\/k=8\/k=9\/k=10\/k=11\/k=12\/k=13\/k=14\/k=15\/k=16:=O;rcases this with rfl | rfl | rfl | rfl | rfl | rfl | rfl | rfl | rfl | rfl | rfl | rfl | rfl | rfl | rfl | rfl | rfl<;>decide +kernel
 omega
theorem zj{rs:List (List Tm)}{st:List Rat}{o:Nat}(hF:Fits F w)(hGl:JG F)(hy:Yl F y)(hr:D8 F c rs)(hrs:rs.length=y.nm.n)(hsn:y.st.n=y.nm.n)(hn:y.nm.n<=1000)(hst:∀v,v<y.nm.n->(el y.sl v).1=JO (el st v)/\(el y.sl v).1.length<=1000000)(hts:∀e∈c.2,e.2.length<=1000000)(ho:dh rs st o):
  QU prog 61 [.agg (UG y c).toArray,.int .i64 (o:Int)] w F (λ(d:Sr×List Rw)=>d.1.v) (λd F=>QFz F d (Se.Hi rs st) (y.nm.n+1) o):=by
 have ho1:=ho.le;have hyl:=hy.RG;have hrn:=hr.N4;have hcl:=hr.len;refine QU.intro (G:=λF=>JG F/\Yl F y/\D8 F c rs) func61 rfl wy rfl rfl hF (λF' hF'=>⟨hGl.le hF',hy.le hF',hr.le hF'⟩)<|QGi<|JE rfl (vs:=[_,_,_,_,_]) rfl λb2=>wQ rfl<|QGi<|wQ rfl<|QG<|QGi<|QA (QH rfl Tl Qu)<|QA (Qh rfl Qu .here (.skip (.skip (.skip .h1))))<|QF5 rfl<|QF4<|QS<|Jo (ι:=SvI o (y.nm.n+1) (Se.Tv rs st 0)) [(1,_),(2,_),(15,_)] (λi=>[(5,i.y),(16,.int .i64 ((i.v:Nat):Int))]) (λi=>(i.rl.reverse.map Ma++[(b2,.cells (UG y c).toArray 109 (0,0))])++i.ob) (λi F=>QAe F i.rl) (λi=>y.nm.n+1-i.v) (⟨0,.slice none 0 0,[],[],Nat.zero_le _,rfl,.nil,⟨λ_ h=>by cases h⟩⟩) wU wT QGJ (λ_ _ _ h=>by cases h) λi=>?_
 simp only[List.cons_append,List.nil_append];have hi:=i.le;have hil:=i.hl;refine wA 6 I ?_;refine QP I (λhc2=>?_) λhc2=>?_
 ·have hlt:i.v<y.nm.n+1:=wk<|QGx hc2
  refine QHC 13 I<|QA (Qm I I O) ?_
  rw[show((o:Int)+1)=((o+1:Nat):Int)from rfl];refine XA I (List.Perm.refl _) (Cy (n:=o+1) O O) (λz=>?_);have hzl:=z.len;refine QHB 3 I ?_;refine Fb (ι:=SvX o (Se.Tv rs st 0 i.v)) [(1,_),(2,_),(5,_),(7,_),(15,_),(16,_)] (λ_=>[]) (λx=>(z.1.1,.cells (Yi x.1).toArray 95 (0,0))::((i.rl.reverse.map Ma++[(b2,.cells (UG y c).toArray 109 (0,0))])++i.ob)) (λx F=>We F x.1) wX ?_ ?_
  ·refine QG ?_;refine QHC 5 I ?_;refine QP I (λhc3=>?_) λhc3=>?_
   ·obtain⟨u,hu⟩:∃u,i.v=u+1:=⟨i.v-1,wk<|QGx hc3⟩;have hs:=hst u O;refine wA 2 I<|QA (QH I Lv Y3)<|QA (QH I Bp WG)<|QA (Qh I WG (Own.there (Own.right (Own.skip .here _) _)) (.skip (.skip .h1)))<|QF5 I<|QA (J1 I I O)<|QA (Q2 (n:=y.st.n) u (λF h=>h.1.1.2.1.st) rfl wM YP Xx O)<|QA (QH I H4 Jk)<|QA (Qz (n:=y.st.n) (u*2+0) (λF h=>h.1.1.2.1.st) O I Jk (Jg (f:=Ny) (l:=y.sl) (λ_=>rfl) O I))<|QJ I (λ_ _ f h=>Mc f h.1.1.1 hs.1 O) λx33=>QA (Qx (i:=0) rfl rfl X4 Ql O)<|QZ (vs:=B6 x33) rfl rfl rfl Ql I .here (SD O x33 (el st u)) wV<|QE ?_
    exact Xj ⟨z.1.2.set 0 (x33,el st u),by rw[List.length_set];exact hzl,λj hj=>by
     rw[FZ O,hu];show _=(if j=0 then el st u else 0);by_cases e:j=0
     ·rw[if_pos e,if_pos e]
     rw[if_neg e,if_neg e,z.at hj]⟩ wX QGJ λF h=>⟨h.1,h.1.2.set h.2 0⟩
   have hv0:i.v=0:=wk<|QGy hc3
   refine wA 6 I ?_;refine QP I (λhc4=>?_) λhc4=>?_
   ·have ho0:0<o:=wk<|QGx hc4
    refine wA 2 I<|QJ I (λ_ _ f h=>f_g (n:=1) f O O) λx38=>QA (Qx (i:=1) rfl rfl X4 Ql O)<|QZ (vs:=B6 x38) rfl rfl rfl Ql I .here (SD O x38 ((1:Int):Rat)) wV<|QE ?_
    exact Xj ⟨z.1.2.set 1 (x38,((1:Int):Rat)),by rw[List.length_set];exact hzl,λj hj=>by
     rw[FZ O,hv0];show _=(if j=1 then(1:Rat)else 0);by_cases e:j=1
     ·rw[if_pos e,if_pos e];rfl
     rw[if_neg e,if_neg e,z.at hj]⟩ wX QGJ λF h=>⟨h.1,h.1.2.set h.2 1⟩
   have ho0:o=0:=wk<|QGy hc4
   refine QM ?_;exact Xj ⟨z.1.2,hzl,λj hj=>by
    rw[z.at hj,hv0];show(0:Rat)=(if j=1 then(1:Rat)else 0);rw[if_neg O]⟩ wX QGJ λF h=>⟨h,h.2⟩
  intro x;simp only[List.cons_append,List.nil_append];refine wA 3 I<|Qs I (JU MZ) Hy vo I I λb42=>X1 (bs':=((z.1.1,.cells (Yi x.1).toArray 95 (0,0))::(i.rl.reverse.map Ma++[(b2,.cells (UG y c).toArray 109 (0,0))]))++i.ob) (List.Perm.of_eq wz) ?_
  refine YC (ob:=i.ob) (n:=i.v) (k:=1) (sz:=1) (news:=[bcV (o+1) (z.1.1,o+1)]) I I MZ Hy vo I uY i.hr (Src.row (off:=0) tB (λj v hv=>by rw[Nat.zero_add];rw[List.getElem?_toArray];exact hv) rfl) O O (λv hv=>by rw[List.mem_singleton.1 hv];rfl) (λv43 ob43 hr43=>?_);refine wB 2 I<|Qi<|QD<|QB<|QA (Qm I I O)<|wB 2 I ?_
  exact Qj (⟨i.v+1,v43,ob43,i.rl++[⟨z.1.1,o+1,x.1⟩],hlt,by rw[List.length_append,hil];rfl,by rw[List.map_append,List.map_append];exact hr43,i.hx.snoc x.2.1 (by rw[hil];exact x.2.2)⟩) (by show y.nm.n+1-(i.v+1)<y.nm.n+1-i.v;omega) wW (by rw[List.reverse_append];exact List.Sublist.refl _) (λF h=>⟨h.1.1.1.1,λr hr=>by
   rcases List.mem_append.1 hr with hr | hr
   ·exact h.1.1.1.2 r hr
   rw[List.mem_singleton.1 hr];exact h.1.2⟩)
 have hge:i.v=y.nm.n+1:=wk<|QGy hc2
 obtain⟨BC,hBC⟩:∃BC,BC=i.rl.map Rw.bc:=⟨_,rfl⟩;have hBl:BC.length=y.nm.n+1:=by rw[hBC,List.length_map,hil,hge]
 have hBc:∀p∈BC,p.2=o+1:=λp hp=>by
  rw[hBC]at hp;obtain⟨r,hr,rfl⟩:=List.mem_map.1 hp;obtain⟨j,hj,rfl⟩:=List.getElem_of_mem hr;have:=(i.hx.at_ j hj).2.2;rw[J4 hj]at this;exact this
 refine Qv ?_
 repeat first|refine QV ?_|refine QQ wy ?_
 refine QW<|QD ?_
 obtain⟨r5,hv5,hrn5,hrc5,hfix5⟩:=Q6.fix (w0:=w) (F0:=F) (bs1:=i.rl.reverse.map Ma++[(b2,.cells (UG y c).toArray 109 (0,0))]) (G:=_) i.hr;refine MS hfix5 ?_;rw[hv5];dsimp only[Sr.v];rw[hrn5,<-hBC,hge];refine QCN (bs':=i.rl.map Ma++[(b2,.cells (UG y c).toArray 109 (0,0))]) ((List.reverse_perm _).map Ma |>.append_right _)<|wA 8 I<|Jo (ι:=SkI o (y.nm.n+1) rs st BC) [(1,_),(2,_),(5,_),(45,_)] (λk=>[(46,.int .i64 ((k.k:Nat):Int))]) (λk=>k.rl.map Ma++[(b2,.cells (UG y c).toArray 109 (0,0))]) (λk F=>QAe F k.rl) (λk=>o-k.k) (⟨0,i.rl,Nat.zero_le _,hil.trans hge,hBC.symm,i.hx⟩) wV wS QGJ (λF h=>h.1.2) λk=>?_
 simp only[List.cons_append,List.nil_append];have hk:=k.le;have hkl:=k.hl;refine wA 6 I ?_;refine QP I (λhc3=>?_) λhc3=>?_
 ·have hlk:k.k<o:=wk<|QGx hc3
  refine QHC 19 I<|QA (Qf I MZ)<|QHB 4 I<|Jo (ι:=SuI (k.k+1) (y.nm.n+1) BC) [(1,_),(2,_),(5,_),(8,_),(45,_),(46,_),(49,_),(50,_)] (λu=>[(9,u.y),(51,.int .i64 ((u.u:Nat):Int))]) (λu=>(k.rl.map Ma++[(b2,.cells (UG y c).toArray 109 (0,0))])++u.ob) (λu F=>True) (λu=>y.nm.n+1-u.u) (⟨0,.slice none 0 0,[],Nat.zero_le _,.nil⟩) wZ wT wz w8 λu=>?_
  simp only[List.cons_append,List.nil_append];have hu:=u.le;refine wA 6 I ?_;refine QP I (λhc4=>?_) λhc4=>?_
  ·have hlu:u.u<y.nm.n+1:=wk<|QGx hc4
   have hcu:=hBc _ (JK (show u.u<BC.length by omega));refine QHC 6 I<|QA (Q2 (n:=y.nm.n+1) u.u (λF h=>h.1.1.2) rfl rfl MZ Hy O)<|QA (Qz (n:=y.nm.n+1) (u.u*1) (λF h=>h.1.1.2) O I Hy (ZD (f:=bcV (o+1)) (l:=BC) O))<|QHB 7 I<|QA (Qm I I O)<|QA (Ra (k.k+1) rfl rfl rfl X4 Ql O)<|Qs I (JU MZ) Hy vo I I λb60=>?_
   refine YC (ob:=u.ob) (n:=u.u) (k:=1) (sz:=1) (news:=[bcV (k.k+1) (el BC u.u)]) I I MZ Hy vo I uY u.hr (Src.row (off:=0) tB (λj v hv=>by rw[Nat.zero_add];rw[List.getElem?_toArray];exact hv) rfl) O O (λv hv=>by rw[List.mem_singleton.1 hv];rfl) (λv61 ob61 hr61=>?_);refine wB 2 I<|Qi<|QD<|QB<|QA (Qm I I O)<|wB 2 I ?_
   exact Qj (⟨u.u+1,v61,ob61,hlu,by rw[QCo O];exact hr61⟩) (by show y.nm.n+1-(u.u+1)<y.nm.n+1-u.u;omega) wg QGJ λF h=>⟨h.1.1,trivial⟩
  have hgu:u.u=y.nm.n+1:=wk<|QGy hc4
  refine Qv ?_
  repeat first|refine QV ?_|refine QQ wy ?_
  refine QW<|QD ?_
  obtain⟨r9,hv9,hrn9,hrc9,hfix9⟩:=Q6.fix (w0:=w) (F0:=F) (bs1:=k.rl.map Ma++[(b2,.cells (UG y c).toArray 109 (0,0))]) (G:=_) u.hr;refine MS hfix9 ?_;rw[hv9];dsimp only[Sr.v];rw[hrn9,hgu,List.take_of_length_le O];refine QGi<|QA (QH I M4 Gv)<|QA (Qh I Gv (Own.skip .here _) (.skip (.skip (.skip (.skip .h1)))))<|QA (Qf I KS)<|QHB 4 I ?_
  refine Jo (ι:=SwI o (y.nm.n+1) k.k y.nm.n rs st BC) [(1,_),(2,_),(5,_),(8,_),(9,_),(45,_),(46,_),(64,_),(65,_)] (λv=>[(66,.int .i64 ((v.v:Nat):Int))]) (λv=>v.rl.map Ma++[(b2,.cells (UG y c).toArray 109 (0,0))]) (λv F=>QAe F v.rl) (λv=>y.nm.n-v.v) (⟨0,k.rl,Nat.zero_le _,hkl,k.hb,⟨λu hu=>by
   obtain⟨h1,h2,h3⟩:=k.hx.at_ u hu;refine⟨h1,λi hi=>?_,h3⟩;rw[h2 i hi];show Se.Tv rs st k.k u i=(if u<=0 then Se.Tv rs st (k.k+1) u else Se.Tv rs st k.k u) i;by_cases e:u<=0
   ·rw[if_pos e,xt rs st (.inl O)]
   rw[if_neg e]⟩⟩) we wS QGJ (λF h=>h.1.1.2) λv=>?_
  simp only[List.cons_append,List.nil_append];have hv:=v.le;have hvl:=v.hl;refine wA 6 I ?_;refine QP I (λhc5=>?_) λhc5=>?_
  ·have hlv:v.v<y.nm.n:=wk<|QGx hc5
   have hco:=ho.c k.k hlk v.v O;rw[hrs]at hco;have hcm:=hts _ (JK (show v.v<c.2.length by omega));obtain⟨x1,x2,x3⟩:=v.hx.at_ (v.v+1) O;have hbv:(el BC (v.v+1))=((el v.rl (v.v+1)).b,(el v.rl (v.v+1)).cap):=by
    refine(congrArg (λl=>el l (v.v+1)) v.hb).symm.trans ?_;show el (v.rl.map Rw.bc) (v.v+1)=_;rw[J4 (by rw[List.length_map];omega),List.getElem_map,J4 (show v.v+1<v.rl.length by omega)];rfl
   refine QHC 7 I<|QA (Q2 (n:=c.1.n) v.v (λF h=>h.1.1.1.1.1.1.2.2.row) rfl rfl KS Vg O)<|QA (Qz (n:=c.1.n) (v.v*1) (λF h=>h.1.1.1.1.1.1.2.2.row) O I Vg (ZD (f:=λe:VO=>e.1.v) (l:=c.2) O))<|QHB 4 I<|QDg (r:=[0,1,2,3,4,5,6,7,8,9,10,11,12,13,14,15,16,17,18]) tD mixed wm rfl<|I0 0 wm rfl rfl<|QL (QC I)<|Iz<|I0 1 wm rfl rfl<|QL (QC I)<|Iz<|I0 2 wm rfl rfl<|QL (Qm I I O)<|Iz<|I0 3 wm rfl rfl<|QL (Q2 (n:=y.nm.n+1) (v.v+1) (λF h=>h.1.1.1.1.2) rfl rfl MZ Hy O) ?_
   refine Iz<|I0 4 wm rfl rfl<|QL (Qz (n:=y.nm.n+1) ((v.v+1)*1) (λF h=>h.1.1.1.1.2) O I Hy (ZD (f:=bcV (o+1)) (l:=BC) O))<|Iz<|I0 5 wm rfl rfl<|QL (QC I)<|Iz<|I0 6 wm rfl rfl<|QL (Qm I I O)<|Iz<|I0 7 wm rfl rfl<|QL (QC I)<|Iz<|I0 8 wm rfl rfl<|QL (QC I)<|Iz<|I0 10 wm rfl rfl<|QL (QC I)<|Iz<|I0 13 wm rfl rfl<|QL (QC I)<|Iz<|I0 14 wm rfl rfl<|QL (Qm I I O)<|Iz ?_
   rw[show((k.k:Int)+1)=((k.k+1:Nat):Int)from rfl];rw[hbv];refine QAC 9 wm wm rfl rfl rfl ?_;refine RE I (List.Perm.refl _) (zo (W:=Se.Tv rs st k.k) (s:=(el c.2 v.v).1) (ts:=(el c.2 v.v).2) (N:=y.nm.n+1) (n:=k.k+1) (rl:=v.rl) O O O hcm (λF h=>(h.1.1.1.1.1.1.2.2.at O).1) (λF h=>by rw[QDt,v.hb];exact h.1.2) ⟨hvl,λu hu=>cx.own (List.mem_append_left _ (List.mem_map.2 ⟨_,JK O,rfl⟩)),λu hu=>by
    obtain⟨y1,y2,y3⟩:=v.hx.at_ u O;refine⟨⟨O,λi hi=>?_⟩,O⟩;rw[y2 i O];show(if u<=v.v then Se.Tv rs st (k.k+1) u else Se.Tv rs st k.k u) i=Se.Tv rs st k.k u i;by_cases e:u<=v.v
    ·rw[if_pos e];exact xt rs st (.inr O)
    rw[if_neg e]⟩ (λF h u hu=>h.2 _ (JK O)) (by rw[(hr.at O).2];exact hco)) (λd w h=>h.imp tD λF h=>h.1) λd=>?_
   have hdl:=d.2.1;refine QF3 (E1:=⟨w,F,[(d.1.1,.cells (Yi d.1.2).toArray 95 (0,0))],_⟩) (λw h=>h.imp tD λF h=>h.1) (λw h=>h.imp tE λF h=>h)<|I0 11 wm rfl rfl<|QL (Qx (i:=k.k) rfl rfl X4 Ql O)<|Iz<|I0 12 wm rfl rfl<|QL (Uu (vs:=B6 (el d.1.2 k.k).1) rfl Ql .here rfl (by rw[Nat.zero_add];exact O7 O))<|Iz<|QAC 15 wm wm rfl rfl rfl<|Qc I (λ_ _ f h=>f_g (n:=((k.k+1:Nat):Int)) f O O) λx86=>QCP<|QAC 16 wm wm rfl rfl rfl<|Qc I (λ_ _ f h=>QBj f (h.1.2.el (show k.k<d.1.2.length by omega)) h.2 (by rw[Rat.intCast_natCast];exact QC4 k.k) (by rw[d.2.2.at_ _ O];have:=hco.z (el rs v.v).length (Nat.le_refl _) k.k O;rw[List.take_length]at this;rw[(hr.at O).2];exact this) (QC3 k.k O)) λx87=>QCP<|I0 17 wm rfl rfl<|QL (Qx (i:=k.k+1) rfl rfl X4 Ql O)<|Iz<|QAC 18 wm wm rfl rfl rfl<|Ji (vs:=B6 x87) rfl rfl rfl Ql I (.there (QBO O _)) tE (λ_ h=>h.1.1) (SD O x87 ((el d.1.2 k.k).2/(((k.k+1:Nat):Int):Rat))) wV<|QCP<|QDh<|QCW (bs':=(d.1.1,.cells (Yi d.1.2).toArray 95 (0,0))::((Fi v.rl (v.v+1) ((el v.rl (v.v+1)).xs.set (k.k+1) (x87,(el d.1.2 k.k).2/(((k.k+1:Nat):Int):Rat)))).map Ma++[(b2,.cells (UG y c).toArray 109 (0,0))])) (List.Perm.of_eq (by rw[<-QAI O]))<|Qi<|QD<|QB<|QA (Qm I I O) ?_
   refine wB 2 I ?_;exact Qj (⟨v.v+1,_,hlv,(zY _ _ _).trans hvl,(QA9 O _).trans v.hb,v.hx.set O O (by
     show _=(if v.v+1<=v.v+1 then Se.Tv rs st (k.k+1) (v.v+1)else Se.Tv rs st k.k (v.v+1)) (k.k+1);rw[if_pos (Nat.le_refl _),QB6,d.2.2.at_ _ O,(hr.at O).2,Rat.intCast_natCast]) (λu hu m hm hne=>by
     show(if u<=v.v then Se.Tv rs st (k.k+1) u else Se.Tv rs st k.k u) m=(if u<=v.v+1 then Se.Tv rs st (k.k+1) u else Se.Tv rs st k.k u) m;by_cases e:u<=v.v
     ·rw[if_pos e,if_pos O]
     rw[if_neg e];by_cases e2:u<=v.v+1
     ·rw[if_pos e2];exact(xt rs st (.inr (hne.resolve_left O))).symm
     rw[if_neg e2])⟩) (by show y.nm.n-(v.v+1)<y.nm.n-v.v;omega) wg (List.sublist_cons_self _ _) λF h=>⟨h.1.1.1.1,h.1.1.1.2.set ((h.1.1.1.2 _ (JK O)).set h.2 _) _⟩
  have hgv:v.v=y.nm.n:=wk<|QGy hc5
  refine Qv ?_
  repeat first|refine QV ?_|refine QQ wy ?_
  refine QW<|Qi<|QD<|QB<|QA (Qm I I O)<|wB 2 I ?_
  exact Qj (⟨k.k+1,v.rl,hlk,hvl,v.hb,⟨λu hu=>by
   obtain⟨h1,h2,h3⟩:=v.hx.at_ u hu;refine⟨h1,λi hi=>?_,h3⟩;rw[h2 i hi];show(if u<=v.v then Se.Tv rs st (k.k+1) u else Se.Tv rs st k.k u) i=Se.Tv rs st (k.k+1) u i;rw[if_pos O]⟩⟩) (by show o-(k.k+1)<o-k.k;omega) wW QGJ λF h=>⟨h.1.1.1.1,h.2⟩
 have hgk:k.k=o:=wk<|QGy hc3
 refine Qv ?_
 repeat first|refine QV ?_|refine QQ wy ?_
 refine QW<|QD<|MS (λw h=>St.cW h)<|wA 7 I ?_
 exact QO (⟨⟨r5.q,y.nm.n+1,r5.cap⟩,k.rl⟩) I (wN I) rfl (λF h=>⟨by rw[QDt,k.hb];exact h.1.1.2,rfl,(by show y.nm.n+1<=r5.cap;omega),hkl,λv hv=>by
  obtain⟨h1,h2,h3⟩:=k.hx.at_ v O;have hm:=JK (show v<k.rl.length by omega);refine⟨Qy.of (h.2 _ hm) (by rw[Sc,h1]),h.1.2 _ hm,h1,λi hi=>?_,h3⟩;rw[h2 i hi,hgk];exact(Se.yV rs st o v i O).symm⟩)
theorem QDQ{c f:Nat}{p:(List UInt8×List UInt8)->Bool}{c1 c2:List Value}{G0:Gs->Prop}(hF:Fits F w)(hg:∀F F',Gs.le F F'->G0 F->G0 F')(h0:G0 F)(hR:Qy F q n 2 (l.flatMap Ny))(hn:l.length=n)(hb:n<=1000000)(hc:∀e∈l,∀w F,Fits F w->G0 F->Qb prog f (c1++[.agg #[tx e.1,tx e.2]]++c2) w F (.bool (p e))):QU prog 315 [.slice q n c,.func (.func f) c1.toArray c2.toArray] w F (λ(k:Int)=>.int .i64 k) (λk _=>decide (k>=0)=l.any p):=by
 refine QU.intro (G:=λF=>G0 F/\Qy F q n 2 (l.flatMap Ny)) func315 rfl wy rfl rfl hF (λF' hF'=>⟨hg F F' hF' h0,hR.le hF'⟩)<|QGi<|wQ rfl<|QG<|wR rfl<|QA (Qf rfl YP)<|QF5 rfl<|QF4<|QS<|J2 (ι:=Dx l p) [(0,_),(1,_),(7,_)] (λi=>[(8,.int .i64 ((i.i:Nat):Int))]) (λi=>l.length-i.i) (Dx.start _ _) wU wS λi=>?_
 simp only[List.cons_append,List.nil_append];have hi:=i.le;refine wA 6 I ?_;refine QP I (λhc2=>?_) λhc2=>?_
 ·have hlt:i.i<l.length:=wk<|QGx hc2
  have hem:=JK hlt;refine QHC 15 I<|QA (Q2 (n:=n) i.i tB rfl rfl YP Xx O)<|QA (XZ (n:=n) (vs:=[tx (el l i.i).1,tx (el l i.i).2]) ((i.i)*2) tB O I Xx I λj v hv=>Jg (f:=Ny) (l:=l) (λ_=>rfl) O hv)<|KG (c1:=c1) (c2:=c2) rfl rfl (λw F f k=>hc _ hem w F f k.1) λ_=>QE<|QD ?_
  refine QP I (λhc2=>?_) λhc2=>?_
  ·have hc16:=hc2;refine wA 7 I ?_
   repeat first|refine Qw ?_|refine Qp ?_
   exact QO (((i.i:Nat):Int)) I (wN I) (rfl) λF _=>by rw[decide_eq_true O,List.any_eq_true.2 ⟨_,hem,hc16⟩]
  have hc16:=hc2;refine QM<|Qi<|QD<|QB<|QA (Qm I I O)<|wB 2 I ?_
  exact Qj (i.next hlt hc16) (by show l.length-(i.i+1)<l.length-i.i;omega) wV QGJ tA
 have hge:l.length<=i.i:=wk<|QGy hc2
 refine Qv ?_
 repeat first|refine QV ?_|refine QQ wy ?_
 refine QW<|QHD 7 I ?_
 exact QO ((-1:Int)) I (wN I) (rfl) λF _=>by rw[Bool.eq_false_iff.2 (i.stop hge)];rfl
theorem QBo{c f:Nat}{p:(List UInt8×List UInt8)->Bool}{c1 c2:List Value}{G0:Gs->Prop}(hF:Fits F w)(hg:∀F F',Gs.le F F'->G0 F->G0 F')(h0:G0 F)(hR:Qy F q n 2 (l.flatMap Ny))(hn:l.length=n)(hb:n<=1000000)(hc:∀e∈l,∀w F,Fits F w->G0 F->Qb prog f (c1++[.agg #[tx e.1,tx e.2]]++c2) w F (.bool (p e))):Qb prog 254 [.slice q n c,.func (.func f) c1.toArray c2.toArray] w F (.bool (l.any p)):=by
 refine QU.intro (G:=λF=>G0 F/\Qy F q n 2 (l.flatMap Ny)) func254 rfl wy rfl rfl hF (λF' hF'=>⟨hg F F' hF' h0,hR.le hF'⟩)<|QGi<|wQ rfl<|wR rfl<|QF5 rfl<|QJ rfl (λ_ _ f k=>QDQ (p:=p) f hg k.1 k.2 hn hb hc) λc7=>JN _ (λ_ _ f h=>h.2) λh7=>QA (QN rfl rfl rfl)<|wQ rfl<|QT ?_
 exact QHT I I (congrArg Value.bool h7.symm) w8
theorem QDP{a b:List UInt8}(hF:Fits F w):Qb prog 255 [.agg #[tx a,tx b]] w F (.bool (a != b)):=by
 refine QU.intro (G:=λF=>True) func255 rfl wy rfl rfl hF w8<|QGi<|JE rfl (vs:=[_,_]) rfl λb1=>wQ rfl<|QGi<|QA (QH rfl H4 Jk)<|QA (Qh rfl Jk .here .h1)<|QA (QH rfl Bo Jk)<|QA (Qh rfl Jk .here (.skip .h1))<|QA (TL rfl rfl)<|wQ rfl<|QT ?_
 exact QHT I I (rfl) w8
theorem QAV{c:Nat}(hF:Fits F w)(hR:Qy F q n 2 (l.flatMap Ny))(hn:l.length=n)(hb:n<=1000000):Qb prog 154 [.slice q n c] w F (.bool (!(l.any λs=>s.1 != s.2))):=by
 refine QU.intro (G:=λF=>Qy F q n 2 (l.flatMap Ny)) func154 rfl wy rfl rfl hF (λF' hF'=>hR.le hF')<|QGi<|wQ rfl<|wR rfl<|QJ rfl (λw F g k=>QBo (f:=255) (c1:=[]) (c2:=[]) (p:=λs=>s.1 != s.2) (G0:=λ_=>True) g (λ_ _ _ _=>trivial) trivial k hn hb λe he w F g _=>QDP g) λ_=>QA (Jw rfl)<|wQ rfl<|QT ?_
 exact QHT I I (rfl) w8
theorem zf{o:Nat}(hF:Fits F w)(hy:Yl F y)(hn:y.st.n<=1000000)(ho:o<=16)(hx:∀s∈y.sl,s.1=s.2):Qb prog 58 [.agg (UG y c).toArray,.int .i64 (o:Int)] w F (.int .i64 0):=by
 have hyl:=hy.RG;have hne:(y.sl.any λs=>s.1 != s.2)=false:=List.any_eq_false.2 λs hs=>by simp[hx s hs]
 refine QU.intro (G:=λF=>Yl F y) func58 rfl wy rfl rfl hF (λF' hF'=>hy.le hF')<|QGi<|JE rfl (vs:=[_,_,_,_,_]) rfl λb2=>wQ rfl<|QG<|JL QGJ mixed wm<|QL (QC rfl)<|QL (QN (v:=.bool false) rfl rfl (congrArg (λb=>some (Value.bool b)) (decide_eq_false O)))<|QL (QC rfl)<|JM rfl rfl<|QL (QC rfl)<|JM rfl rfl<|QL (QN (v:=.bool false) rfl rfl (congrArg (λb=>some (Value.bool b)) (decide_eq_false O)))<|QL (QY rfl rfl rfl)<|Qc rfl (λ_ _ f k=>Kg (b:=false) f) λ_=>QL (QH rfl Lv Y3)<|QL (QH rfl Bp WG)<|QL (Qh rfl WG .here (.skip (.skip .h1)))<|Qc rfl (λ_ _ f k=>QAV f k.1.st hyl hn) λ_=>?_
 rw[hne];refine QL (Jw I)<|Qc I (λ_ _ f k=>Kg (b:=false) f) λ_=>?_
 refine Jd I (JU Y4) WE RQ I I (λb18=>?_) (λw h=>h.imp tE λF h=>h.1.1.1);refine Qc I (λ_ _ f k=>Ws (l:=[0,0]) f (Qy.of k.2 I) wu) (λ_=>QL (QF I)<|Q3<|QD<|QT ?_);exact QHT I I (rfl) w8
theorem dD{c:Nat}(hF:Fits F w)(hGl:JG F)(hR:Qy F q n 4 (Yi xs))(hX:We F xs)(hn:xs.length=n)(hl:n<=1000000)(hz:∀p∈xs,Jn p.2<=1800):
  QU prog 59 [.slice q n c] w F (λ(c:Sr)=>.tuple #[c.v,.int .i64 0]) (λc F=>Qy F c.q c.n 1 ((Cv xs).map tx)/\c.n=n/\c.n<=c.cap):=by
 have hne:(xs.any λe:Fr×Rat=>XQ e.2)=false:=List.any_eq_false.2 λe he=>by rw[W2 (hz e he) (Nat.le_refl _)];decide
 refine QU.intro (G:=λF=>JG F/\Qy F q n 4 (Yi xs)/\We F xs) func59 rfl wy rfl rfl hF (λF' hF'=>⟨hGl.le hF',hR.le hF',hX.le hF'⟩)<|QGi<|QF6 rfl<|wQ rfl<|QG<|wR rfl<|QJ rfl (λw F g k=>dN (f:=96) (c1:=[]) (c2:=[]) (p:=λe:Fr×Rat=>XQ e.2) (G0:=λF=>JG F/\We F xs) g (λF F' hle h=>⟨h.1.le hle,h.2.le hle⟩) ⟨k.1,k.2.2⟩ k.2.1 hn hl λe he w F g hG=>MA g hG.1 (hG.2 e he) (wk<|hz e he)) λ_=>?_
 rw[hne];refine QF4<|Xo I<|QHC 5 I<|QJ I (λ_ _ f k=>jk f k.1.1 k.1.2.1 k.1.2.2 hn hl λp hp=>wk<|hz p hp) λc7=>QHB 5 I ?_
 exact J9 (c7) rfl (wO I I) (rfl) tB
theorem Ua:BU prog 45=some 37:=wm
def Zh.s0(y:Zh):List Rat:=y.vs.map Prod.fst
def eqI9(a:Int):L4 .eql (.int .i64 a) (.int .i64 a)=some (.bool true):=by simp[L4]
def Oo(a:Int):L4 .neq (.int .i64 a) (.int .i64 a)=some (.bool false):=by simp[L4]
def Mq(A:Se)(o:Nat):List (List UInt8):=(List.range (o+1)).map λk=>JO (A k)
def N1(A:Se)(o:Nat):(Mq A o).length=o+1:=by simp[Mq]
def ya(A:Se){o k:Nat}(h:k<o+1):el (Mq A o) k=JO (A k):=by
 rw[J4 (by rw[N1];exact h)];simp[Mq]
def cG(hl:xs.length=o+1)(h:∀i,i<o+1->(el xs i).2=A i):Cv xs=Mq A o:=by
 refine List.ext_getElem (by simp[Cv,Mq,hl]) λi h1 h2=>?_;have hi:i<xs.length:=by simpa[Cv]using h1
 have:=h i O;rw[J4 hi]at this;simp[Cv,Mq,this]
def SxR(F:Gs)(c:Sr)(A:Se)(o:Nat):Prop:=Qy F c.q (o+1) 1 ((Mq A o).map tx)/\c.n=o+1
structure SeI(n:Nat) where
 i:Nat
 y:Value
 ob:List (Nat×Obj)
 tl:List Sr
 le:i<=n
 hl:tl.length=i
 hr:Q6 37 1 y i (tl.map Sr.v) ob
structure QGa(F:Gs)(c:Sr×List Sr)(X:Nat->Se)(n o:Nat):Prop where
 row:Qy F c.1.q n 1 (c.2.map Sr.v)
 nn:c.1.n=n
 len:c.2.length=n
 at_:∀v,v<n->SxR F (el c.2 v) (X (v+1)) o
def QDV{tl:List Sr}(r:Sr){i v:Nat}(hl:tl.length=i)(hv:v<i+1):el (tl++[r]) v=if v=i then r else el tl v:=by
 unfold el;rw[List.getD_eq_getElem?_getD,List.getD_eq_getElem?_getD];by_cases e:v=i
 ·subst e;rw[if_pos rfl,List.getElem?_append_right O,hl,Nat.sub_self];rfl
 rw[if_neg e,List.getElem?_append_left O]
structure ue(y:Zh)(o:Nat):Prop where
 ok:dh y.rs y.s0 o
 ex:∀s∈y.sl,s.1=s.2
 sz:∀v,v<=y.nm.n->∀k,k<o+1->Jn (Se.Hi y.rs y.s0 v k)<=1800
def gE(h:∀s∈y.sl,ZJ s.1 s.2=0)(ht:Nb y){v:Nat}(hv:v<y.sl.length):(el y.sl v).1=JO (el y.s0 v)/\(el y.sl v).1.length<=1000000:=by
 have hm:=JK hv;refine⟨(Zb (Eb (h _ hm)).1).1.trans (congrArg JO ?_),(ht.st _ hm).1⟩;rw[J4 hv,J4 (by simpa[Zh.s0,Zh.vs]using hv)];simp only[Zh.s0,Zh.vs,List.getElem_map];rfl
theorem cH(h:D8 F c y.rs)(ht:Nb y){e:VO}(he:e∈c.2):e.2.length<=1000000:=by
 have h1:JQ e.2∈y.rs:=by rw[<-h.val];exact List.mem_map_of_mem he
 obtain⟨a,ha,e2⟩:=List.mem_map.1 h1;have e3:=congrArg List.length e2;have h3:=(ht.tm a ha).2.2;simp only[JW,J0,JQ,List.length_map]at e3;omega
theorem Cq{o:Nat}(hF:Fits F w)(hGl:JG F)(hy:Yl F y)(ht:Nb y)(he:y.e=0)(ho:ue y o):QU prog 18 [y.v,.int .i64 (o:Int)] w F (λ(c:Sr×List Sr)=>.tuple #[c.1.v,.int .i64 0]) (λc F=>QGa F c (Se.Hi y.rs y.s0) y.nm.n o):=by
 have hok:=hy.ok he;have hn0:=hok.n0;have hn1:=hok.n1;have hsn:=hok.sn;have hyl:=hy.RG;have ho16:=ho.ok.le;have hrs:y.rs.length=y.nm.n:=by have:=hy.N4;have:=hok.rn;simp only[Zh.rs,List.length_map];omega
 refine QU.intro (G:=λF=>JG F/\Yl F y) func18 rfl wy rfl rfl hF (λF' hF'=>⟨hGl.le hF',hy.le hF'⟩)<|QGi<|JE rfl (vs:=[_,_,_]) rfl λb2=>QF6 rfl<|wQ rfl<|QGi<|QA (wI I Y3 .here)<|QJ rfl (λ_ _ f k=>Ls (y:=y) f k.1 k.2 ht he) λc15=>QF5 rfl<|QA (QX rfl rfl)<|QA (QX rfl rfl)<|Qg Nj λb6=>QZ (vs:=[_,_,_,_,_]) rfl rfl rfl Ki rfl .here .h5 wW<|wQ rfl<|QG<|wR rfl<|QA (QN (v:=.bool true) rfl rfl (eqI9 _)) ?_
 refine QF4<|K6 I<|QB<|QA (QR (vs:=[_,_,_,_,_]) I Ki .here .h5 rfl)<|QF5 I<|QJ I (λ_ _ f k=>zf f k.1.2 O ho16 ho.ex) λ_=>QHB 7 I<|QA (QN (v:=.bool false) rfl rfl (Oo _))<|QF4<|Xo I<|QHC 7 I ?_
 refine QG<|QGi<|QA (QR (vs:=[_,_,_,_,_]) rfl Ki .here .h5 rfl)<|QF5 rfl<|QJ rfl (λ_ _ f k=>zj (y:=y) (c:=c15) (rs:=y.rs) (st:=y.s0) (o:=o) f k.1.1.1 k.1.1.2 k.1.2 hrs hsn O (λv hv=>gE hok.st ht O) (λe he=>cH k.1.2 ht he) ho.ok) λc28=>JN _ (λw F hF ⟨⟨⟨⟨hGl,hy⟩,h15⟩,_⟩,h28⟩=>And.intro h28.n (And.intro h28.cap h28.len)) λe28=>?_
 obtain⟨e28,k28,l28⟩:=e28;refine QA (QBE 1 rfl rfl rfl MZ Hy O O) ?_;rw[e28];obtain⟨q9,hq9⟩:∃q9,q9=(if c28.1.cap=1 then c28.1.q else c28.1.q.map λa=>a.add (1*1)):=⟨_,rfl⟩;rw[<-hq9,show y.nm.n+1-1=y.nm.n from by omega];have hrow9:∀F,QFz F c28 (Se.Hi y.rs y.s0) (y.nm.n+1) o->Qy F q9 y.nm.n 1 ((c28.2.map λr=>r.v (o+1)).drop (1*1)):=λF h=>by
  have:=h.row.drop h.cap 1;rw[<-hq9]at this;exact this
 refine QA (Qf I MZ)<|QHB 4 I<|Jo (ι:=SeI y.nm.n) [(29,_),(30,_)] (λi=>[(8,i.y),(31,.int .i64 ((i.i:Nat):Int))]) (λi=>[_,_]++i.ob) (λi F=>∀v,v<i.i->SxR F (el i.tl v) (Se.Hi y.rs y.s0 (v+1)) o) (λi=>y.nm.n-i.i) (⟨0,.slice none 0 0,[],[],Nat.zero_le _,rfl,.nil⟩) wT wT QGJ (λ_ _ v h=>absurd h (Nat.not_lt_zero v)) λi=>?_
 simp only[List.cons_append,List.nil_append];have hi:=i.le;have hil:=i.hl;refine wA 6 I ?_;refine QP I (λhc2=>?_) λhc2=>?_
 ·have hlt:i.i<y.nm.n:=wk<|QGx hc2
  refine QHC 6 I<|QA (Q2 (n:=y.nm.n) i.i (λF h9=>(hrow9 _ h9.1.2)) I I MZ Hy O) ?_
  refine QA (Qz (n:=y.nm.n) ((i.i)*1) (λF h9=>(hrow9 _ h9.1.2)) O I Hy (by rw[List.getElem?_drop,show 1*1+(i.i)*1=((i.i)+1)*1 from by omega];exact ZD (f:=λr:Rw=>r.v (o+1)) (l:=c28.2) O)) ?_;refine QHB 6 I ?_;obtain⟨hb1,hb2⟩:True/\True:=⟨trivial,trivial⟩;refine QJ I (λw F hF ⟨⟨⟨⟨⟨hGl,hy⟩,h15⟩,_⟩,h28⟩,hT⟩=>dD (n:=o+1) (xs:=(el c28.2 (i.i+1)).xs) hF hGl (h28.at_ _ O).1 (h28.at_ _ O).2.1 (h28.at_ _ O).2.2.1 O (λp hp=>by
   obtain⟨j,hj,rfl⟩:=List.getElem_of_mem hp;have g:=(h28.at_ (i.i+1) O).2.2;rw[<-J4 hj,g.2.1 j O];exact ho.sz _ O _ O)) λc37=>?_
  refine JN _ (λw F hF ⟨⟨⟨⟨⟨⟨hGl,hy⟩,h15⟩,_⟩,h28⟩,hT⟩,h37⟩=>And.intro h37.2.1 (cG (h28.at_ (i.i+1) O).2.2.1 (h28.at_ (i.i+1) O).2.2.2.1)) (λe37=>?_);obtain⟨e37,x37⟩:=e37;refine QHB 11 I<|QA (QN (v:=.bool false) rfl rfl (Oo _))<|QF4<|Xo I<|QHC 5 I<|Qs I (JU Ua) Rt QEH I I λb45=>?_
  refine YC (bs1:=[_,_]) (ob:=i.ob) (n:=i.i) (k:=1) (sz:=1) (news:=[c37.v]) I I Ua Rt QEH I QD6 i.hr (Src.row (off:=0) tB (λj q hq=>by rw[Nat.zero_add];rw[List.getElem?_toArray];exact hq) rfl) O O (λv hv=>by rw[List.mem_singleton.1 hv];rfl) (λv46 ob46 hr46=>?_);refine wB 2 I<|Qi<|QD<|QB<|QA (Qm I I O)<|wB 2 I ?_
  exact Qj (⟨i.i+1,v46,ob46,i.tl++[c37],hlt,by rw[List.length_append,hil];rfl,by rw[List.map_append];exact hr46⟩) (by show y.nm.n-(i.i+1)<y.nm.n-i.i;omega) wV QGJ (λF ⟨⟨⟨⟨⟨⟨⟨hGl,hy⟩,h15⟩,_⟩,h28⟩,hT⟩,h37⟩,hs45⟩=>⟨⟨⟨⟨⟨hGl,hy⟩,h15⟩,trivial⟩,h28⟩,λv hv=>by
   have hv:v<i.i+1:=hv;rw[QDV c37 hil hv];by_cases e:v=i.i
   ·rw[if_pos e,e];refine⟨?_,e37⟩;have:=h37.1;rw[x37,e37]at this;exact this
   rw[if_neg e];exact hT v O⟩)
 have hge:i.i=y.nm.n:=wk<|QGy hc2
 refine Qv ?_
 repeat first|refine QV ?_|refine QQ wy ?_
 refine QW<|QD<|QG ?_
 obtain⟨r8,hv8,hrn8,hrc8,hfix8⟩:=Q6.fix (w0:=w) (F0:=F) (bs1:=[_,_]) (G:=_) i.hr;refine MS hfix8 ?_;rw[hv8];dsimp only[Sr.v];refine QHC 7 I ?_;exact J9 (((r8,i.tl):Sr×List Sr)) I (wO I I) (rfl) λF h9=>⟨by have:=h9.2;rw[hge]at this;exact this,hrn8.trans hge,hil.trans hge,λv hv=>h9.1.2 v O⟩
structure de(p:List Tm):Prop where
 deg:Cw p<=12
 len:p.length<=64
 gn:GJ p=false
 pw:∀t∈p,PW t.2
 sz:∀t∈p,Jn t.1<=100000000
theorem QC1(hF:Fits F w)(hP:Jl F ⟨q,n,cap⟩ ts (JQ ts))(hp:∀t∈ts,PW t.t.2)(hl:ts.length<=1000000):Qb prog 149 [.slice q n cap] w F (.int .i64 (Cw (JQ ts))):=by
 have hln:ts.length=n:=hP.2.2.2.2;refine QU.intro (G:=λF=>Jl F ⟨q,n,cap⟩ ts (JQ ts)) func149 rfl wy rfl rfl hF (λF' hF'=>hP.le hF')<|QGi<|wQ rfl<|QG<|wR rfl<|QA (Qf rfl ZA)<|QA (QN rfl rfl rfl)<|QE<|QD ?_
 refine QP I (λhc=>?_) λhc=>?_
 ·have h0:ts=[]:=by have:=QGx hc;exact List.length_eq_zero_iff.1 O
  refine wA 6 I ?_;exact QHT I I (by rw[h0];rfl) w8
 have h0:0<ts.length:=wk<|QGy hc
 have htm:=JK h0;refine QHC 5 I<|QA (Q2 (n:=n) (0) (λF hP=>(hP).1) rfl wM ZA Ju O)<|QA (QH I ZK Q5)<|QA (Qz (n:=n) ((0)*5+4) (λF hP=>(hP).1) O I Q5 (Jg (f:=Y2) (l:=ts) Yx O I))<|QJ I (λ_ _ f k=>By f (r:=(el ts 0).r) (k.2.1 _ htm).2 (hp _ htm)) λ_=>wQ I<|QT ?_
 exact QHT rfl rfl (congrArg (Value.int .i64) (by cases ts with | nil=>cases h0 | cons t l=>rfl)) w8
theorem kf(hF:Fits F w)(hGl:JG F)(hP:Jl F ⟨q,n,cap⟩ ts (JQ ts))(hs:de (JQ ts)):Qb prog 73 [.slice q n cap] w F (.int .i64 0):=by
 have hlt:ts.length<=64:=by have:=hs.len;rwa [ZC]at this
 have hln:ts.length=n:=hP.2.2.2.2;have hpw:∀t∈ts,PW t.t.2:=λt ht=>hs.pw _ (List.mem_map_of_mem ht);have hsz:∀t∈ts,Jn t.t.1<=100000000:=λt ht=>hs.sz _ (List.mem_map_of_mem ht);refine QU.intro (G:=λF=>JG F/\Jl F ⟨q,n,cap⟩ ts (JQ ts)) func73 rfl wy rfl rfl hF (λF' hF'=>⟨hGl.le hF',hP.le hF'⟩)<|QGi<|wQ rfl<|wR rfl<|QJ rfl (λ_ _ f k=>QC1 f k.2 hpw O) λ_=>QA (QN (v:=.bool false) rfl rfl (congrArg (λb=>some (Value.bool b)) (decide_eq_false (wk hs.deg))))<|QJ I (λ_ _ f k=>Kg (b:=false) f) λ_=>QF5 I<|QA (Qf I ZA)<|QA (QN (v:=.bool false) rfl rfl (congrArg (λb=>some (Value.bool b)) (decide_eq_false O)))<|QJ I (λ_ _ f k=>Kg (b:=false) f) λ_=>QF5 I<|QJ I (λ_ _ f k=>LY f k.1.1.1.2 k.1.1.1.1 hsz O) λ_=>?_
 rw[hs.gn];refine QJ I (λ_ _ f k=>Kg (b:=false) f) (λ_=>Qs I (JU Y4) WE RQ I I λb14=>QJ I (λ_ _ f k=>Ws (l:=[0,0,0]) f (Qy.of k.2 I) wu) λ_=>wQ I<|QT ?_);exact QHT I I (rfl) w8
theorem QDR{p:VO}(hF:Fits F w)(hGl:JG F)(hP:Jl F p.1 p.2 (JQ p.2))(hs:de (JQ p.2)):QU prog 55 [p.1.v] w F (λ(c:K8)=>.tuple #[c.1.v,.int .i64 0]) (λc F=>Ka F c.1 c.2 (X9 (JQ p.2))):=by
 have hlt:p.2.length<=64:=by have:=hs.len;rwa [ZC]at this
 have hpw:∀t∈p.2,PW t.t.2:=λt ht=>hs.pw _ (List.mem_map_of_mem ht);have hsz:∀t∈p.2,Jn t.t.1<=100000000:=λt ht=>hs.sz _ (List.mem_map_of_mem ht);refine QU.intro (G:=λF=>JG F/\Jl F p.1 p.2 (JQ p.2)) func55 rfl wy rfl rfl hF (λF' hF'=>⟨hGl.le hF',hP.le hF'⟩)<|QGi<|QF6 rfl<|wQ rfl<|QG<|wR rfl<|QJ rfl (λ_ _ f k=>kf f k.1 k.2 hs) λ_=>wQ rfl<|wR rfl<|QA (QN (v:=.bool false) rfl rfl (Oo _))<|QF4<|Xo rfl<|QHC 3 I ?_
 refine wA 2 I<|QJ I (λ_ _ f k=>LX f k.1.1 k.1.2 hpw O hsz) λc11=>QHB 5 I ?_
 exact J9 (c11) rfl (wO I I) (rfl) tB
theorem QBd(hF:Fits F w)(hGl:JG F)(hy:Yl F y)(ht:Nb y)(he:y.e=0)(hR:Qy F a.1.q a.1.n 2 (a.2.flatMap KI))(hA:Zz F a.2)(hta:BP a)(hpe:XB (J0 a.2) (y.nm.n:Int)=0)(hok:UD y.rs (JW (J0 a.2)) (y.nm.n+1))(hs:de (Wz y.rs (JW (J0 a.2)) y.rs.length)):QU prog 11 [y.v,a.1.v] w F (λ(c:K8)=>.tuple #[c.1.v,.int .i64 0]) (λc F=>Ka F c.1 c.2 (X9 (Wz y.rs (JW (J0 a.2)) y.rs.length))):=by
 refine QU.intro (G:=λF=>JG F/\Yl F y/\Qy F a.1.q a.1.n 2 (a.2.flatMap KI)/\Zz F a.2) func11 rfl wy rfl rfl hF (λF' hF'=>⟨hGl.le hF',hy.le hF',hR.le hF',hA.le hF'⟩)<|QGi<|JE rfl (vs:=[_,_,_]) rfl λb2=>QF6 rfl<|wQ rfl<|QGi<|QA (wI I Y3 .here)<|QF5 rfl<|QJ rfl (λw F hF ⟨hGl,hy,hR,hA⟩=>kh (y:=y) hF hGl hy ht he hR hA hta hpe) λc12=>JN _ (λ_ _ f h=>h.2.2.eqT) λe12=>QF5 rfl<|QA (QX rfl rfl)<|QA (QX rfl rfl)<|QA (QX rfl rfl)<|Qg Nj λb6=>QZ (vs:=[_,_,_,_,_]) rfl rfl rfl Ki rfl .here .h5 wW<|QF6 rfl<|wQ rfl<|QG ?_
 refine wR I<|QA (QN (v:=.bool false) rfl rfl (Oo _))<|QF4<|Xo I<|QHC 4 I<|QA (QH I M4 Gv)<|QA (Qh I Gv .here (.skip (.skip (.skip (.skip .h1)))))<|QF5 I<|QJ I (λ_ _ f k=>xF (N:=y.nm.n+1) f k.1.1 k.2.1 k.2.2.self (by rw[e12];exact hok)) λc22=>JN _ (λ_ _ f h=>h.2.eqT) λe22=>?_
 rw[e12]at e22;refine QJ I (λ_ _ f k=>QDR f k.1.1.1 k.2.self (by rw[e22];exact hs)) (λc23=>QHB 7 I ?_);exact J9 (c23) rfl (wO I I) (rfl) λF h9=>(by rw[<-e22];exact h9.2)
theorem QBe{o:Nat}(hF:Fits F w)(hGl:JG F)(hy:Yl F y)(ht:Nb y)(he:y.e=0)(hR:Qy F a.1.q a.1.n 2 (a.2.flatMap KI))(hA:Zz F a.2)(hta:BP a)(hpe:XB (J0 a.2) (y.nm.n:Int)=0)(ho:ue y o)(hc:Se.zN (Se.Hi y.rs y.s0) (JW (J0 a.2)) (y.nm.n+1) (o+1))(hz:∀k,k<o+1->Jn (Se.cmp (Se.Hi y.rs y.s0) (JW (J0 a.2)) k)<=1800):QU prog 13 [y.v,a.1.v,.int .i64 (o:Int)] w F (λ(c:Sr)=>.tuple #[c.v,.int .i64 0]) (λc F=>SxR F c (Se.cmp (Se.Hi y.rs y.s0) (JW (J0 a.2))) o):=by
 have hok:=hy.ok he;have hn0:=hok.n0;have hn1:=hok.n1;have hsn:=hok.sn;have hyl:=hy.RG;have ho16:=ho.ok.le;have hal:=hta.2.2;have hrs:y.rs.length=y.nm.n:=by have:=hy.N4;have:=hok.rn;simp only[Zh.rs,List.length_map];omega
 refine QU.intro (G:=λF=>JG F/\Yl F y/\Qy F a.1.q a.1.n 2 (a.2.flatMap KI)/\Zz F a.2) func13 rfl wy rfl rfl hF (λF' hF'=>⟨hGl.le hF',hy.le hF',hR.le hF',hA.le hF'⟩)<|QGi<|JE rfl (vs:=[_,_,_]) rfl λb3=>QF6 rfl<|wQ rfl<|QGi<|QA (wI I Y3 .here)<|QF5 rfl<|QJ rfl (λw F hF ⟨hGl,hy,hR,hA⟩=>kh (y:=y) hF hGl hy ht he hR hA hta hpe) λc14=>JN _ (λ_ _ f h=>h.2.2.eqT) λe14=>QF5 rfl<|QA (QX rfl rfl)<|QA (QX rfl rfl)<|QA (QX rfl rfl)<|Qg Nj λb8=>QZ (vs:=[_,_,_,_,_]) rfl rfl rfl Ki rfl .here .h5 wW<|QF6 rfl<|wQ rfl<|QG ?_
 refine wR I<|QA (QN (v:=.bool true) rfl rfl (eqI9 _))<|QF4<|K6 I<|QB<|QA (QR (vs:=[_,_,_,_,_]) I Ki .here .h5 rfl)<|QF5 I<|QJ I (λ_ _ f k=>zf f k.1.2.1 O ho16 ho.ex) λ_=>QHB 7 I<|QA (QN (v:=.bool false) rfl rfl (Oo _))<|QF4<|Xo I<|QHC 3 I ?_
 refine wA 2 I<|QA (QR (vs:=[_,_,_,_,_]) I Ki .here .h5 rfl)<|QF5 I ?_
 have l14:c14.2.2.length<=1000000:=by
  have:=congrArg List.length e14;rw[ZC]at this;simp only[JW,J0,List.length_map]at this;omega
 refine QJ rfl (λ_ _ f k=>zj (y:=y) (c:=c14.1) (rs:=y.rs) (st:=y.s0) (o:=o) f k.1.1.1 k.1.1.2.1 k.1.2.1 hrs hsn O (λv hv=>gE hok.st ht O) (λe he=>cH k.1.2.1 ht he) ho.ok) (λc29=>JN _ (λw F hF ⟨⟨⟨⟨hGl,hy,hR,hA⟩,⟨hrt,hpl⟩⟩,_⟩,h29⟩=>And.intro h29.n (And.intro h29.len λv (hv:v<y.nm.n+1)=>(h29.at_ v hv).2.2)) λe29=>?_);obtain⟨e29,l29,a29⟩:=e29;refine XA I (List.Perm.refl _) (zo (W:=Se.Hi y.rs y.s0) (s:=c14.2.1) (ts:=c14.2.2) (N:=c29.1.n) (n:=o+1) (rl:=c29.2) O O O l14 (λF h9=>h9.1.1.2.2.self) (λF h9=>by rw[e29];exact h9.2.row) ⟨by rw[e29];exact l29,λv hv=>cx.row (λF h9=>(h9.2.at_ v O).1) O,λv hv=>⟨⟨wk<|(a29 v O).1,(a29 v O).2.1⟩,wk<|(a29 v O).2.2⟩⟩ (λF ⟨⟨⟨⟨hGl,hy,hR,hA⟩,⟨hrt,hpl⟩⟩,_⟩,h29⟩ v hv=>(h29.at_ v O).2.1) (by rw[e14,e29];exact hc)) (λc30=>GW (b:=c30.1.1) .here ?_);have hx30:Cv c30.1.2=Mq (Se.cmp (Se.Hi y.rs y.s0) (JW (J0 a.2))) o:=cG c30.2.1 (λi hi=>(c30.2.2.at_ i hi).trans (by rw[e14]));refine QJ I (λw F hF ⟨⟨⟨⟨⟨⟨hGl,hy,hR,hA⟩,⟨hrt,hpl⟩⟩,_⟩,h29⟩,hX30⟩,hz30⟩=>dD (xs:=c30.1.2) hF hGl (Qy.of hz30 (by rw[Sc,c30.2.1])) hX30 c30.2.1 O (λp hp=>by
  obtain⟨j,hj,rfl⟩:=List.getElem_of_mem hp;have hl:=c30.2.1;rw[<-J4 hj,c30.2.2.at_ j O,e14];exact hz j O)) λc31=>?_
 refine QHB 7 I ?_;exact J9 (c31) rfl (wO I I) (rfl) λF h9=>⟨by have:=h9.2.1;rwa [hx30,h9.2.2.1]at this,h9.2.2.1⟩
def ze{T:TypeId}{sz:Nat}(h:Qy F none n sz cs):Q6 T sz (.slice none 0 0) n cs []:=by
 have h0:=h.QD1 I;subst h0;have:=h.1;rw[Nat.zero_mul,List.length_eq_zero_iff]at this;subst this;exact .nil
section
variable{P:Program}{Q:Exit->Act->World->Prop}{N:Nat}{m:Sl}{ops:Array Oper}{lo:List Oper}{w0:World}{F0:Gs}{bs:List (Nat×Obj)}{G:Gs->Prop}
theorem QCR{d:Nat}{ty t e:TypeId}{pos:String}{aft:Array Edge}{X Y:Operand}{k c:Nat}{cur new:List Value}{g:Bool}(hx:ev m X=some (.slice (some ⟨b,0,none⟩) n cap))(hy:ev m Y=some (.slice q k c))(ht:BU P t=some e)(hs:Zm P e=some (g,1))(hr:∀F,G F->Qy F q k 1 new)(hk:0<k)(hl:new.length=k)(hkn:k<=n)(hcur:cur.length=n)(h1:∀v∈new,v.oneCell'=true)
  (kk:JS P ops Q lo N ((d,.int .i64 (k:Int))::m) ⟨w0,F0,(b,.cells (new++cur.drop k).toArray e (0,0))::bs,G⟩) (hu:Ga e=true:=by rfl) (hd:J6 N (some d)=true:=by rfl) :
  JS P ops Q (⟨some d,.call ⟨.builtin .copy,#[X,Y],#[t,t]⟩,ty,pos,aft,none⟩::lo) N m ⟨w0,F0,(b,.cells cur.toArray e (0,0))::bs,G⟩:=by
 refine vZ (λa w ha hw=>?_) kk hd;have hbw:w.heap[b]?=some (.cells cur.toArray e (0,0)):=hw.own (f:=λo'=>(b,o')::bs) .here;obtain⟨F,hF⟩:=id hw;obtain⟨b2,off,rfl⟩:=(hr F hF.hG).ptr hk;have hsz:(P.info? e).map (·.size)=some 1:=by
  unfold Zm at hs;split at hs
  ·rename_i d' i' hd hi;simp only[Option.some.injEq,Prod.mk.injEq]at hs;rw[hi,Option.map_some,hs.2]
  cases hs
 have hrun:=run_copy_row P w t t ty e b 0 n cap ⟨b2,off,none⟩ k c cur.toArray e new (JU ht) hsz hbw (by rw[hl];exact(Nat.min_eq_left hkn).symm) (λj v hv=>by rw[Yj];exact KD hw hr hk hv) w6 h1;refine⟨w.setRow b (cur.toArray.toList.take 0++new++cur.toArray.toList.drop (0+new.length)).toArray,?_,?_⟩
 ·simp only[execOp,resolve,invoke,builtin,Sem.run_bind,Sem.run_pure,Result.andThen_ok,List.map_toArray,List.map_cons,List.map_nil,ha.ev hx,ha.ev hy,hrun,goInt,hl]
 have hlt:b<w.heap.size:=(Array.getElem?_eq_some_iff.1 hbw).1;refine St.write (o:=.cells cur.toArray e (0,0)) [] hw ⟨?_,rfl,rfl,rfl,rfl⟩ (Xy hu);apply Array.ext_getElem?;intro j;rw[Array.getElem?_setIfInBounds];by_cases hj:b=j
 ·subst hj;rw[if_pos rfl,if_pos hlt,setRow_heap w b _ _ e _ hbw];simp[hl]
 rw[if_neg hj,setRow_other w b j _ (λe=>hj e.symm)]
end
def GZ(p:List Tm)(j:Nat):List Tm:=p.map λt=>(t.1,t.2++List.replicate j 0)
def zT(l:List Xa)(t:Xa):JQ (l++[t])=JQ l++[t.t]:=by simp[JQ]
def QAF(p:List Tm)(t:Tm)(j:Nat):GZ (p++[t]) j=GZ p j++[(t.1,t.2++List.replicate j 0)]:=by simp[GZ]
def qL(p:List Tm)(j:Nat):(GZ p j).length=p.length:=by simp[GZ]
def QAj(n:Nat):XP [.int .i64 0] n=(List.replicate n (0:Int)).map Q7:=by
 induction n with
 |zero=>rfl
 |succ n ih=>rw[XP,ih,List.replicate_succ];rfl
structure QFE(ts:List Xa)(j:Nat) where
 i:Nat
 y:Value
 ob:List (Nat×Obj)
 us:List Xa
 le:i<=ts.length
 hr:Q6 101 5 y i (us.flatMap Y2) ob
 hu:JQ us=GZ (JQ (ts.take i)) j
def QFE.len(s:QFE ts j):s.us.length=s.i:=by
 have h:=congrArg List.length s.hu;have h2:=s.le;rw[ZC,qL,ZC,List.length_take]at h;omega
structure GaI(n:Nat) where
 i:Nat
 y:Value
 ob:List (Nat×Obj)
 dl:List K8
 le:i<=n
 hl:dl.length=i
 hr:Q6 28 1 y i (dl.map λe=>e.1.v) ob
structure QCU(F:Gs)(d:Sr×List K8)(ps:List (List Tm)):Prop where
 row:Qy F d.1.q d.1.n 1 (d.2.map λe=>e.1.v)
 n:d.1.n=ps.length
 len:d.2.length=ps.length
 cap:d.1.n<=d.1.cap
 at_:∀i,i<ps.length->Ka F (el d.2 i).1 (el d.2 i).2 (X9 (el ps i))
section
variable{w0:World}{F0:Gs}{bs:List (Nat×Obj)}{G:Gs->Prop}
theorem QBt{r:Sr}{l:List (List UInt8)}(hG:∀F,G F->Qy F r.q r.n 1 (l.map tx))(hl:r.n<=1000000):
  J8 prog 181 [r.v] ⟨w0,F0,bs,G⟩ (λ(c:Value×List (Nat×Obj))=>c.1) (λc=>⟨w0,F0,bs++c.2,λF=>G F/\Q6 9 1 c.1 r.n (l.map tx) c.2⟩):=by
 obtain⟨q,n,c⟩:=r;dsimp only[Sr.v]at hl ⊢;refine J8.intro func181 rfl wy rfl rfl<|Ml hG<|QGi<|wQ rfl<|QG<|wR rfl<|QA (LR rfl rfl Yf)<|QE<|QD ?_
 refine QP I (λhc=>?_) λhc=>?_
 ·obtain rfl:q=none:=by
   cases q with
   |none=>rfl
   |some a=>cases hc
  refine wA 6 I ?_;exact Z2 (⟨.slice none 0 0,[]⟩) I (wN I) (rfl) λw h=>St.imp h wz λF h9=>⟨h9.1,ze h9.2⟩
 refine Xe _ (λ_ F _ h=>h.2.1) (λhcl=>?_);obtain⟨a,rfl⟩:∃a,q=some a:=by
  cases q with
  |none=>cases hc
  |some a=>exact⟨a,rfl⟩
 refine QHC 4 I<|V4 (JU Yf) Hx λb5=>QF5 rfl<|X1 (bs':=bs++[(b5,.cells ([]++[]:List Value).toArray 9 (0,0))]) (List.perm_append_comm (l₁:=[_]))<|YC (ob:=[(b5,.cells ([]++[]:List Value).toArray 9 (0,0))]) (n:=0) (k:=n) (sz:=1) (news:=l.map tx) rfl rfl Yf Hx z_9 rfl QBy (.some rfl rfl (Nat.le_refl _) wu) (Src.QCu (λe=>by cases e) tB hcl) O O (λv hv=>by obtain⟨s,_,rfl⟩:=List.mem_map.1 hv;rfl) λv7 ob7 hr7=>?_
 rw[Nat.zero_add,List.nil_append]at hr7;refine wQ I<|QT ?_
 exact Z2 (⟨v7,ob7⟩) I (wN I) (rfl) λw h=>St.imp h QGJ λF h9=>⟨h9.1,hr7⟩
theorem QBu{r:Sr}(hG:∀F,G F->Qy F r.q r.n 2 (l.flatMap Ny))(hl:r.n<=1000000):
  J8 prog 110 [r.v] ⟨w0,F0,bs,G⟩ (λ(c:Value×List (Nat×Obj))=>c.1) (λc=>⟨w0,F0,bs++c.2,λF=>G F/\Q6 56 2 c.1 r.n (l.flatMap Ny) c.2⟩):=by
 obtain⟨q,n,c⟩:=r;dsimp only[Sr.v]at hl ⊢;refine J8.intro func110 rfl wy rfl rfl<|Ml hG<|QGi<|wQ rfl<|QG<|wR rfl<|QA (LR rfl rfl YP)<|QE<|QD ?_
 refine QP I (λhc=>?_) λhc=>?_
 ·obtain rfl:q=none:=by
   cases q with
   |none=>rfl
   |some a=>cases hc
  refine wA 6 I ?_;exact Z2 (⟨.slice none 0 0,[]⟩) I (wN I) (rfl) λw h=>St.imp h wz λF h9=>⟨h9.1,ze h9.2⟩
 refine Xe _ (λ_ F _ h=>h.2.1) (λhcl=>?_);obtain⟨a,rfl⟩:∃a,q=some a:=by
  cases q with
  |none=>cases hc
  |some a=>exact⟨a,rfl⟩
 refine QHC 4 I<|V4 (JU YP) Xx λb5=>QF5 I<|X1 (bs':=bs++[(b5,.cells ([]++[]:List Value).toArray 56 (0,0))]) (List.perm_append_comm (l₁:=[_])) ?_
 refine YC (ob:=[(b5,.cells ([]++[]:List Value).toArray 56 (0,0))]) (n:=0) (k:=n) (sz:=2) (news:=l.flatMap Ny) rfl rfl YP Xx EA rfl cj (.some rfl rfl (Nat.le_refl _) wu) (Src.QCu (λe=>by cases e) tB hcl) O O (λv hv=>by
  obtain⟨s,_,hs⟩:=List.mem_flatMap.1 hv;simp only[Ny,List.mem_cons,List.not_mem_nil,or_false]at hs;rcases hs with rfl | rfl<;>rfl) λv7 ob7 hr7=>?_
 rw[Nat.zero_add,List.nil_append]at hr7;refine wQ I<|QT ?_
 exact Z2 (⟨v7,ob7⟩) I (wN I) (rfl) λw h=>St.imp h QGJ λF h9=>⟨h9.1,hr7⟩
end
theorem gO{m:Nat}(hF:Fits F w)(hP:Jl F ⟨q,n,cap⟩ ts (JQ ts))(hw:∀t∈ts,t.t.2.length=N)(hN:1<=N)(hNm:N<=m)(hm:m<=1000)(hl:ts.length<=1000000):
  QU prog 76 [.slice q n cap,.int .i64 (m:Int)] w F (λ(c:VO)=>c.1.v) (λc F=>Jl F c.1 c.2 (GZ (JQ ts) (m-N))):=by
 have hln:ts.length=n:=hP.2.2.2.2;refine QU.intro (G:=λF=>Jl F ⟨q,n,cap⟩ ts (JQ ts)) func76 rfl wy rfl rfl hF (λF' hF'=>hP.le hF')<|QGi<|wQ rfl<|QGi<|wQ rfl<|QG<|wR rfl<|QA (Qf rfl ZA)<|QF5 rfl<|QF4<|QS<|Jo (ι:=QFE ts (m-N)) [(1,_),(9,_),(10,_)] (λi=>[(5,i.y),(11,.int .i64 ((i.i:Nat):Int))]) (λi=>i.ob) (λi F=>WW F i.us) (λi=>ts.length-i.i) (⟨0,.slice none 0 0,[],[],Nat.zero_le _,.nil,rfl⟩) wU wT QGJ (λ_ _ _ h=>by cases h) λi=>?_
 simp only[List.cons_append,List.nil_append];have hi:=i.le;refine wA 6 I ?_;refine QP I (λhc2=>?_) λhc2=>?_
 ·have hlt:i.i<ts.length:=wk<|QGx hc2
  have htm:=JK hlt;have hw1:=hw _ htm;refine QHC 6 I<|QA (Q2 (n:=n) i.i (λF h9=>(h9.1).1) rfl rfl ZA Ju O)<|QA (XZ (n:=n) (vs:=[.int .i64 (el ts i.i).x.n.s,.slice (el ts i.i).x.n.q (el ts i.i).x.n.n (el ts i.i).x.n.cap,.int .i64 (el ts i.i).x.d.s,.slice (el ts i.i).x.d.q (el ts i.i).x.d.n (el ts i.i).x.d.cap,.slice (el ts i.i).r.q (el ts i.i).r.n (el ts i.i).r.cap]) ((i.i)*5) (λF h9=>(h9.1).1) O I Ju I λj v hv=>Jg (f:=Y2) (l:=ts) Yx O hv)<|Qg Ye λb7=>QZ (vs:=[_,_,_,_,_]) I I I Ju I .here .h5 wW<|QHB 5 I<|Dz (n:=m) (bytes:=8) rfl rfl Qk Qu BR I D7 O O λb16=>?_
  rw[QAj];refine QHB 6 I<|QA (QH I ZK Q5)<|QA (Qh I Q5 .u1 (.skip (.skip (.skip (.skip .h1)))))<|JN _ (λ_ F _ ⟨hP,hU⟩=>(hP.2.1 _ htm).2.2) λhrl=>QCR (new:=(el ts i.i).t.2.map Q7) rfl rfl Qk Qu (λF h9=>((h9.1.2.1 _ htm).2).1) O (by rw[List.length_map];exact hrl.1) O wz (C1 _) ?_
  rw[<-List.map_drop,<-List.map_append,List.drop_replicate,<-hrl.1,hw1];refine QF4<|BQ (b:=b16) .here<|wA 2 I<|QA (QH I Ya Ql)<|QA (wJ I Ql .here)<|QF5 I<|QA (XL I U4 Ye (.cons (vs:=[_,_,_,_]) I I I .h4 (.cons (vs:=[_]) I I I (.skip (.skip (.skip (.skip .h1)))) .nil)))<|Qs I (JU ZA) Ju Ye I I λb26=>?_
  refine YC (bs1:=[_]) (ob:=i.ob) (n:=i.i) (k:=1) (sz:=5) (news:=(Y2 ⟨(el ts i.i).x,⟨some ⟨b16,0,none⟩,m,m⟩,((el ts i.i).t.1,(el ts i.i).t.2++List.replicate (m-N) 0)⟩)) I I ZA Ju Ye I CO i.hr (Src.row (off:=0) tB (λj q hq=>by rw[Nat.zero_add];rw[List.getElem?_toArray];exact hq) rfl) O O (λv hv=>by simp only[Y2,List.mem_cons,List.not_mem_nil,or_false]at hv;rcases hv with rfl | rfl | rfl | rfl | rfl<;>rfl) (λv27 ob27 hr27=>?_);refine wB 2 I<|Qi<|QD<|QB<|QA (Qm I I O)<|wB 2 I ?_
  exact Qj (⟨i.i+1,v27,ob27,i.us++[⟨(el ts i.i).x,⟨some ⟨b16,0,none⟩,m,m⟩,((el ts i.i).t.1,(el ts i.i).t.2++List.replicate (m-N) 0)⟩],hlt,by rw[List.flatMap_append];exact hr27,by rw[Xg hlt,zT,zT,QAF,i.hu]⟩) (by show ts.length-(i.i+1)<ts.length-i.i;omega) wW ((List.sublist_cons_self _ _)) (λF ⟨⟨⟨hP,hU⟩,hz16⟩,hs26⟩=>⟨hP,λt ht=>by
   rcases List.mem_append.1 ht with ht | ht
   ·exact hU t ht
   rw[List.mem_singleton.1 ht];exact⟨(hP.2.1 _ htm).1,Qy.of hz16 w6,w6,Nat.le_refl _⟩⟩)
 have hge:i.i=ts.length:=wk<|QGy hc2
 refine Qv ?_
 repeat first|refine QV ?_|refine QQ wy ?_
 refine QW<|QD<|QG ?_
 obtain⟨r5,hv5,hrn5,hrc5,hfix5⟩:=Q6.fix (w0:=w) (F0:=F) (bs1:=[]) (G:=_) i.hr;refine MS hfix5 ?_;rw[hv5];dsimp only[Sr.v];have hul:=i.len;refine QHC 6 I ?_;exact QO (((r5,i.us):VO)) I (wN I) (rfl) λF h9=>⟨by rw[hrn5];exact h9.2,h9.1.2,by rw[i.hu,hge,List.take_length],hrn5 ▸ hrc5,hul.trans hrn5.symm⟩
def QBl[Inhabited α]{tl:List α}(r:α){i v:Nat}(hl:tl.length=i)(hv:v<i+1):el (tl++[r]) v=if v=i then r else el tl v:=by
 unfold el;rw[List.getD_eq_getElem?_getD,List.getD_eq_getElem?_getD];by_cases e:v=i
 ·subst e;rw[if_pos rfl,List.getElem?_append_right O,hl,Nat.sub_self];rfl
 rw[if_neg e,List.getElem?_append_left O]
theorem QBm(hF:Fits F w)(hGl:JG F)(hR:Qy F c.1.q c.1.n 1 (c.2.map λe=>e.1.v))(hP:MR F c.2)(hn:c.2.length=c.1.n)(hb:c.1.n<=1000000)(hs:∀e∈c.2,de (JQ e.2)):Qb prog 263 [.slice c.1.q c.1.n c.1.cap,.func (.func 73) #[] #[]] w F (.int .i64 0):=by
 refine QU.intro (G:=λF=>JG F/\Qy F c.1.q c.1.n 1 (c.2.map λe=>e.1.v)/\MR F c.2) func263 rfl wy rfl rfl hF (λF' hF'=>⟨hGl.le hF',hR.le hF',λe he=>(hP e he).le hF'⟩)<|QGi<|wQ rfl<|QG<|wR rfl<|QA (Qf rfl KS)<|QF5 rfl<|QF4<|QS<|J2 (ι:=NtJ c.2.length) [(1,_),(8,_),(9,_)] (λi=>[(10,.int .i64 ((i.i:Nat):Int))]) (λi=>c.2.length-i.i) (⟨0,Nat.zero_le _⟩) wU wS λi=>?_
 simp only[List.cons_append,List.nil_append];have hi:=i.le;refine wA 6 I ?_;refine QP I (λhc2=>?_) λhc2=>?_
 ·have hlt:i.i<c.2.length:=wk<|QGx hc2
  have hem:=JK hlt;refine QHC 6 I<|QA (Q2 (n:=c.1.n) i.i (λF h9=>h9.2.1) rfl rfl KS Vg O)<|QA (Qz (n:=c.1.n) ((i.i)*1) (λF h9=>h9.2.1) O I Vg (ZD (f:=λe:VO=>e.1.v) (l:=c.2) O))<|QHB 7 I<|KG (c1:=[]) (c2:=[]) I I (λ_ _ f k=>kf (q:=(el c.2 i.i).1.q) (n:=(el c.2 i.i).1.n) (cap:=(el c.2 i.i).1.cap) f k.1 (k.2.2 _ hem) (hs _ hem)) λ_=>QHB 6 I<|QA (QN (v:=.bool false) rfl rfl (Oo _))<|QE<|QD ?_
  refine Xo I<|QM<|Qi<|QD<|QB<|QA (Qm I I O)<|wB 2 I ?_
  exact Qj (⟨i.i+1,hlt⟩) (by show c.2.length-(i.i+1)<c.2.length-i.i;omega) wV QGJ tA
 refine Qv ?_
 repeat first|refine QV ?_|refine QQ wy ?_
 refine QW<|QHD 7 I ?_
 exact QHT I I (rfl) w8
theorem QAX(hF:Fits F w)(hGl:JG F)(hR:Qy F c.1.q c.1.n 1 (c.2.map λe=>e.1.v))(hP:MR F c.2)(hn:c.2.length=c.1.n)(hb:c.1.n<=1000000)(hs:∀e∈c.2,de (JQ e.2)):QU prog 180 [.slice c.1.q c.1.n c.1.cap] w F (λ(d:Sr×List K8)=>.tuple #[d.1.v,.int .i64 0]) (λd F=>QCU F d (Ck c.2)):=by
 have hwl:(Ck c.2).length=c.2.length:=by simp[Ck]
 refine QU.intro (G:=λF=>JG F/\Qy F c.1.q c.1.n 1 (c.2.map λe=>e.1.v)/\MR F c.2) func180 rfl wy rfl rfl hF (λF' hF'=>⟨hGl.le hF',hR.le hF',λe he=>(hP e he).le hF'⟩)<|QGi<|QF6 rfl<|wQ rfl<|QG<|wR rfl<|QJ rfl (λ_ _ f k=>QBm (c:=c) f k.1 k.2.1 k.2.2 hn hb hs) λ_=>wQ rfl<|wR rfl<|QA (QN (v:=.bool false) rfl rfl (Oo _))<|QF4<|Xo rfl<|QHC 3 I ?_
 refine QHC 8 I<|QA (Qf I KS)<|QHB 4 I<|Jo (ι:=GaI c.2.length) [(13,_),(14,_)] (λi=>[(5,i.y),(15,.int .i64 ((i.i:Nat):Int))]) (λi=>i.ob) (λi F=>∀v,v<i.i->Ka F (el i.dl v).1 (el i.dl v).2 (X9 (JQ (el c.2 v).2))) (λi=>c.2.length-i.i) (⟨0,.slice none 0 0,[],[],Nat.zero_le _,rfl,.nil⟩) wT wT QGJ (λ_ _ v h=>absurd h (Nat.not_lt_zero v)) λi=>?_
 simp only[List.cons_append,List.nil_append];have hi:=i.le;have hil:=i.hl;refine wA 6 I ?_;refine QP I (λhc2=>?_) λhc2=>?_
 ·have hlt:i.i<c.2.length:=wk<|QGx hc2
  have hem:=JK hlt;refine QHC 6 I<|QA (Q2 (n:=c.1.n) i.i (λF h9=>h9.1.1.2.1) rfl rfl KS Vg O)<|QA (Qz (n:=c.1.n) ((i.i)*1) (λF h9=>h9.1.1.2.1) O I Vg (ZD (f:=λe:VO=>e.1.v) (l:=c.2) O))<|QHB 6 I ?_
  have hs1:=hs _ hem;have hl1:=hs1.len;rw[ZC]at hl1;refine QJ I (λ_ _ f k=>LX (p:=el c.2 i.i) f k.1.1.1 (k.1.1.2.2 _ hem) (λt ht=>hs1.pw _ (List.mem_map_of_mem ht)) O λt ht=>hs1.sz _ (List.mem_map_of_mem ht)) (λc21=>Qs I (JU W1) Gh vm I I λb22=>?_);refine YC (bs1:=[]) (ob:=i.ob) (n:=i.i) (k:=1) (sz:=1) (news:=[c21.1.v]) I I W1 Gh vm I QD7 i.hr (Src.row (off:=0) tB (λj q hq=>by rw[Nat.zero_add];rw[List.getElem?_toArray];exact hq) rfl) O O (λv hv=>by rw[List.mem_singleton.1 hv];rfl) (λv23 ob23 hr23=>?_);refine wB 2 I<|Qi<|QD<|QB<|QA (Qm I I O)<|wB 2 I ?_
  exact Qj (⟨i.i+1,v23,ob23,i.dl++[c21],hlt,by rw[List.length_append,hil];rfl,by rw[List.map_append];exact hr23⟩) (by show c.2.length-(i.i+1)<c.2.length-i.i;omega) wV QGJ (λF ⟨⟨⟨⟨⟨hGl,hR,hP⟩,_⟩,hD⟩,h21⟩,hs22⟩=>⟨⟨⟨hGl,hR,hP⟩,trivial⟩,λv hv=>by
   have hv:v<i.i+1:=hv;rw[QBl c21 hil hv];by_cases e:v=i.i
   ·rw[if_pos e,e];exact h21
   rw[if_neg e];exact hD v O⟩)
 have hge:i.i=c.2.length:=wk<|QGy hc2
 refine Qv ?_
 repeat first|refine QV ?_|refine QQ wy ?_
 refine QW<|QD<|QG ?_
 obtain⟨r5,hv5,hrn5,hrc5,hfix5⟩:=Q6.fix (w0:=w) (F0:=F) (bs1:=[]) (G:=_) i.hr;refine MS hfix5 ?_;rw[hv5];dsimp only[Sr.v];refine QHC 7 I ?_;exact J9 (((r5,i.dl):Sr×List K8)) I (wO I I) (rfl) (λF ⟨⟨⟨⟨hGl,hR,hP⟩,_⟩,hD⟩,hrow5⟩=>⟨by rw[hrn5];exact hrow5,hrn5.trans (hge.trans hwl.symm),hil.trans (hge.trans hwl.symm),hrn5 ▸ hrc5,λv hv=>by
  have hv2:v<c.2.length:=by rw[<-hwl];exact hv
  have:=hD v O
  rwa [show JQ (el c.2 v).2=el (Ck c.2) v from by rw[J4 hv2,J4 hv];simp[Ck]]at this⟩)
theorem QAO(hF:Fits F w)(hy:Yl F y)(hn:y.nm.n<=1000000)(hl:s.length<=1000000)(hs:Cp s=true)(hc:¬s∈y.nl):Qb prog 70 [y.v,tx s] w F (.int .i64 0):=by
 have hyn:=hy.AL;refine QU.intro (G:=λF=>Yl F y) func70 rfl wy rfl rfl hF (λF' hF'=>hy.le hF')<|QGi<|JE rfl (vs:=[_,_,_]) rfl λb2=>wQ rfl<|QG<|JL QGJ mixed wm<|QL (QC rfl)<|Qc rfl (λ_ _ f k=>C2 f O) λ_=>?_
 rw[hs];refine QL (Jw I)<|Qc I (λ_ _ f k=>Kg (b:=false) f) λ_=>QL (QH I WB YR)<|QL (Qh I YR .here .h1)<|QL (QC I)<|Qc I (λ_ _ f k=>RO f k.1.1.nm hyn O) λ_=>?_
 rw[decide_eq_false hc];refine Qc I (λ_ _ f k=>Kg (b:=false) f) (λ_=>?_);refine Jd I (JU Y4) WE RQ I I (λb14=>?_) (λw h=>h.imp tE λF h=>h.1.1.1.1);refine Qc I (λ_ _ f k=>Ws (l:=[0,0]) f (Qy.of k.2 I) wu) (λ_=>QL (QF I)<|Q3<|QD<|QT ?_);exact QHT I I (rfl) w8
section
open Go Go.RowKit Ig
section
variable[Dr][df:Df]{P:Program}{Q:Exit->Act->World->Prop}{N:Nat}{m:Sl}{l:List Oper}{w0:World}{F0:Gs}{bs bs0:List (Nat×Obj)}{G G0:Gs->Prop}
structure It where
 A:List Nat
 d:Nat->Nat
 dep:Nat->List Nat
 V:(Nat->Nat)->Nat->Value
 O:(Nat->Nat)->Nat->Option Obj
 m0:Sl
def vO(β:Nat->Nat)(i b:Nat):Nat->Nat:=λj=>bif Nat.beq j i then b else β j
def zR(t:It):List (List Nat):=(UF t.A).filter λu=>t.A.all λi=>u.contains i||(t.dep i).all λj=>!(u.contains j)
def mxU(t:It)(u:List Nat)(β:Nat->Nat):Sl:=(t.A.filter λi=>!(u.contains i)).map λi=>(t.d i,t.V β i)
def dT(t:It)(u:List Nat)(β:Nat->Nat):List (Nat×Obj):=(t.A.filter λi=>!(u.contains i)).filterMap λi=>(t.O β i).map λo=>(β i,o)
def itU(l:List Oper)(t:It)(r u R:List Nat)(i:Nat):Bool:=u.contains i&&(t.dep i).all (λj=>t.A.contains j&&!(u.contains j))&&t.A.all (λj=>u.contains j||!((t.dep j).contains i))&&(R.erase i==MV l r (u.erase i))&&(zR t).contains (u.erase i)&&R.contains i
def okU(l:List Oper)(t:It)(r:List Nat)(k:Nat):Bool:=(zR t).all λu=>!(MV l r u).isEmpty&&((MV l r u).erase k==MV l (r.erase k) u)&&(match GU l (MV l r u)with
 |some i=>itU l t r u (MV l r u) i
 |none=>((MV l r u).filter (KV l (MV l r u))).all λi=>Nat.beq i k||itU l t r u (MV l r u) i)
def QGS(l:List Oper)(t:It)(r:List Nat):Bool:=(zR t).all λu=>u.isEmpty||(!(MV l r u).isEmpty&&(match GU l (MV l r u)with
 |some i=>itU l t r u (MV l r u) i
 |none=>((MV l r u).filter (KV l (MV l r u))).all λi=>itU l t r u (MV l r u) i))
structure It.Ok(t:It)(P:Program)(l:List Oper)(N:Nat)(w0:World)(F0:Gs)(bs0:List (Nat×Obj))(G0:Gs->Prop):Prop where
 nd:t.A.Nodup
 inj:∀i∈t.A,∀j∈t.A,t.d i=t.d j->i=j
 m0:∀i∈t.A,look t.m0 (t.d i)=none
 loc:∀i∈t.A,∀j∈t.A,j≠i->j∉t.dep i->∀β b,t.V (vO β j b) i=t.V β i/\t.O (vO β j b) i=t.O β i
 step:∀i∈t.A,∃o,l[i]?=some o/\∀(β:Nat->Nat) (mX:Sl) (bsX:List (Nat×Obj)) (G:Gs->Prop),bs0.Sublist bsX->(∀F,G F->G0 F)->∀K:Act->World->Prop,
  (∀b a w,JY N ((t.d i,t.V (vO β i b) i)::((t.dep i).map (λj=>(t.d j,t.V β j))++(t.m0++mX))) a->St ⟨w0,F0,((t.O (vO β i b) i).map λo=>(b,o)).toList++bsX,G⟩ w->K a w) ->
  JD P l.toArray (XO K) ⟨w0,F0,bs0,G0⟩ [o] N ((t.dep i).map (λj=>(t.d j,t.V β j))++(t.m0++mX)) ⟨w0,F0,bsX,G⟩
def KU(P:Program)(l:List Oper)(Q:Exit->Act->World->Prop)(S0:World->Prop)(t:It)(r:List Nat)(N:Nat)(m:Sl)(w0:World)(F0:Gs)(bs:List (Nat×Obj))(G:Gs->Prop):Prop :=
 ∀(u:List Nat) (β:Nat->Nat) (a:Act) (w:World),u∈zR t->JY N t.m0 a->JY N m a->(∀i∈t.A,i∉u->a.tmps[t.d i]?=some (t.V β i))->St ⟨w0,F0,dT t u β++bs,G⟩ w->B5 P l Q S0 (MV l r u).length (MV l r u) a w
theorem JY.app{x y:Sl}{a:Act}(hx:JY N x a)(hy:JY N y a):JY N (x++y) a:=⟨hx.size,hx.df,λt v h=>by
 rw[PT]at h;cases e:look x t with
 |some v'=>rw[e]at h;exact hx.get t v (by rw[e];exact h)
 |none=>rw[e]at h;exact hy.get t v h⟩
theorem gj{d:Nat->Nat}{s:Nat}{v:Value}:∀ {B:List Nat},look (B.map λj=>(d j,V j)) s=some v->∃j∈B,d j=s/\V j=v
 |[],h=>by cases h
 |j::B,h=>by
  have h':(bif Nat.beq (d j) s then some (V j)else look (B.map λj=>(d j,V j)) s)=some v:=h;cases e:Nat.beq (d j) s with
  |true=>rw[e]at h';exact⟨j,wz,Nat.eq_of_beq_eq_true e,Option.some.inj h'⟩
  |false=>rw[e]at h';obtain⟨k,hk,h1⟩:=gj h';exact⟨k,List.mem_cons_of_mem _ hk,h1⟩
theorem Em{d:Nat->Nat}:∀ {B:List Nat},k∈B->(look (B.map λj=>(d j,V j)) (d k)).isSome=true
 |j::B,h=>by
  show(bif Nat.beq (d j) (d k)then some (V j)else look (B.map λj=>(d j,V j)) (d k)).isSome=true;cases e:Nat.beq (d j) (d k)with
  |true=>rfl
  |false =>
   rcases List.mem_cons.1 h with rfl | h
   ·simp at e
   exact Em h
theorem JY.ofMap{a a0:Act}{m0:Sl}{d:Nat->Nat}{B:List Nat}(ha:JY N m0 a)(h:∀j∈B,a.tmps[d j]?=some (V j)):JY N (B.map λj=>(d j,V j)) a:=⟨ha.size,ha.df,λs v hs=>by
 obtain⟨j,hj,rfl,rfl⟩:=gj hs;exact h j hj⟩
theorem KJ{x y:Sl}{s:Nat}(h:(look x s).isSome=true\/(look y s).isSome=true):(look (x++y) s).isSome=true:=by
 rw[PT];cases e:look x s with
 |some _=>rfl
 |none=>rw[e]at h;simpa using h
theorem JY.kept{m1:Sl}{a a':Act}{d s:Nat}{v x:Value}(h:JY N m1 a)(h':JY N ((d,v)::m1) a')(hx:a.tmps[s]?=some x)(hs:(look m1 s).isSome=true)(hd:s≠d):a'.tmps[s]?=some x:=by
 obtain⟨y,hy⟩:=Option.isSome_iff_exists.1 hs;have h1:=h.get s y hy;rw[hx]at h1;cases h1;refine h'.get s x ?_;show(bif Nat.beq d s then some v else look m1 s)=some x;have:Nat.beq d s=false:=by
  cases e:Nat.beq d s with
  |false=>rfl
  |true=>exact absurd (Nat.eq_of_beq_eq_true e).symm hd
 rw[this];exact hy
theorem Sd{γ:Type}{f g:α->Option γ}:∀ {x:List α},(∀a∈x,f a=g a)->x.filterMap f=x.filterMap g
 |[],_=>rfl
 |a::x,h=>by rw[List.filterMap_cons,List.filterMap_cons,h a wz,Sd λb hb=>h b (by simp[hb])]
theorem xL{γ:Type}(f:α->Option γ){x y:List α}(h:x.Perm y):(x.filterMap f).Perm (y.filterMap f):=h.filterMap f
theorem QF2{t:It}(ho:t.Ok P l N w0 F0 bs0 G0){r u:List Nat}{β:Nat->Nat}{a:Act}{i:Nat}(hm:∀j∈t.A,look m (t.d j)=none)(h0:bs0.Sublist bs)(hg0:∀F,G F->G0 F)(hu:u∈zR t)(hi:itU l t r u (MV l r u) i=true)
  (ha0:JY N t.m0 a) (ha:JY N m a) (hx:∀i∈t.A,i∉u->a.tmps[t.d i]?=some (t.V β i)) {R:Act->World->Prop}
  (k:∀β' a' w',JY N t.m0 a'->JY N m a'->(∀j∈t.A,j∉u.erase i->a'.tmps[t.d j]?=some (t.V β' j))->St ⟨w0,F0,dT t (u.erase i) β'++bs,G⟩ w'->R a' w') :
  ∃o m1,l[i]?=some o/\JD P l.toArray (XO R) ⟨w0,F0,bs0,G0⟩ [o] N m1 ⟨w0,F0,dT t u β++bs,G⟩/\JY N m1 a:=by
 have huA:=(List.mem_filter.1 hu).1;have hun:=ED ho.nd huA;simp only[itU,Bool.and_eq_true,List.contains_eq_mem,decide_eq_true_eq,List.all_eq_true,Bool.or_eq_true,Bool.not_eq_true',decide_eq_false_iff_not]at hi;obtain⟨⟨⟨⟨⟨hiu,hdep⟩,hnd⟩,_⟩,_⟩,_⟩:=hi;have hiA:=DI huA i hiu;obtain⟨o,ho1,hstep⟩:=ho.step i hiA;have s1:JY N ((t.dep i).map λj=>(t.d j,t.V β j)) a:=JY.ofMap (a0:=a) ha0 λj hj=>hx j (hdep j hj).1 (hdep j hj).2;have s2:JY N (mxU t u β) a:=JY.ofMap (a0:=a) ha0 λj hj=>hx j (List.mem_filter.1 hj).1 (by have:=(List.mem_filter.1 hj).2;simpa using this);have s3:=s1.app (ha0.app (ha.app s2));refine⟨o,_,ho1,hstep β (m++mxU t u β) (dT t u β++bs) G (h0.trans (List.sublist_append_right _ _)) hg0 R λb a' w' g1 g2=>?_,s3⟩;have kp:∀s x,a.tmps[s]?=some x->(look t.m0 s).isSome=true\/(look m s).isSome=true\/(look (mxU t u β) s).isSome=true->s≠t.d i->a'.tmps[s]?=some x:=λs x hs hl hd =>
  s3.kept g1 hs (KJ (.inr (KJ (hl.imp_right λh=>KJ h)))) hd
 refine k (vO β i b) a' w' ⟨g1.size,g1.df,λs x hs=>?_⟩ ⟨g1.size,g1.df,λs x hs=>?_⟩ (λj hj hju=>?_) (g2.perm ?_)
 ·exact kp s x (ha0.get s x hs) (.inl (by rw[hs];rfl)) λe=>by rw[e,ho.m0 i hiA]at hs;cases hs
 ·exact kp s x (ha.get s x hs) (.inr (.inl (by rw[hs];rfl))) λe=>by rw[e,hm i hiA]at hs;cases hs
 ·by_cases e:j=i
  ·subst e;exact g1.get _ _ (by show(bif Nat.beq (t.d j) (t.d j)then _ else _)=_;simp)
  have hju':j∉u:=λh=>hju ((hun.mem_erase_iff).2 ⟨e,h⟩);have hl:=ho.loc j hj i hiA (Ne.symm e) ((hnd j hj).resolve_left hju') β b;rw[hl.1];exact kp _ _ (hx j hj hju') (.inr (.inr (Em (List.mem_filter.2 ⟨hj,by simpa using hju'⟩)))) λh=>e (ho.inj j hj i hiA h)
 have hp:=xL (λj=>(t.O (vO β i b) j).map λo=>(vO β i b j,o)) (RN ho.nd hun hiA hiu);have e1:(i::t.A.filter λj=>!(u.contains j)).filterMap (λj=>(t.O (vO β i b) j).map λo=>(vO β i b j,o))=((t.O (vO β i b) i).map λo=>(b,o)).toList++dT t u β:=by
  have e2:(t.A.filter λj=>!(u.contains j)).filterMap (λj=>(t.O (vO β i b) j).map λo=>(vO β i b j,o))=dT t u β:=by
   unfold dT;refine Sd λj hj=>?_;have hj':=List.mem_filter.1 hj;have hju:j∉u:=by simpa using hj'.2
   have hne:j≠i:=λe=>hju (e ▸ hiu);rw[(ho.loc j hj'.1 i hiA (Ne.symm hne) ((hnd j hj'.1).resolve_left hju) β b).2];have:vO β i b j=β j:=by
    unfold vO;have:Nat.beq j i=false:=by
     cases e:Nat.beq j i with
     |false=>rfl
     |true=>exact absurd (Nat.eq_of_beq_eq_true e) hne
    rw[this];rfl
   rw[this]
  have e3:vO β i b i=b:=by unfold vO;simp
  rw[List.filterMap_cons,e2];cases e:t.O (vO β i b) i with
  |none=>rfl
  |some o=>simp only[Option.map_some,e3,Option.toList_some,List.singleton_append]
 rw[e1]at hp;rw[<-List.append_assoc];exact hp.symm.append_right bs
theorem QCM{t:It}(ho:t.Ok P l N w0 F0 bs0 G0){r:List Nat}(hm:∀j∈t.A,look m (t.d j)=none)(h0:bs0.Sublist bs)(hg0:∀F,G F->G0 F)(F1:List Nat->Prop)
  (hf:∀u∈zR t,F1 u\/(MV l r u).isEmpty=false/\((∃i,GU l (MV l r u)=some i/\itU l t r u (MV l r u) i=true)\/GU l (MV l r u)=none/\∀i∈MV l r u,KV l (MV l r u) i=true->itU l t r u (MV l r u) i=true\/(∀(β:Nat->Nat) a w,JY N t.m0 a->JY N m a->(∀i∈t.A,i∉u->a.tmps[t.d i]?=some (t.V β i))->St ⟨w0,F0,dT t u β++bs,G⟩ w->wpOp P l.toArray (λ_ _ _=>False) i (λa' w'=>St ⟨w0,F0,bs0,G0⟩ w'/\B5 P l Q (St ⟨w0,F0,bs0,G0⟩) ((MV l r u).erase i).length ((MV l r u).erase i) a' w') a w)))
  (hk:∀u∈zR t,F1 u->∀(β:Nat->Nat) a w,JY N t.m0 a->JY N m a->(∀i∈t.A,i∉u->a.tmps[t.d i]?=some (t.V β i))->St ⟨w0,F0,dT t u β++bs,G⟩ w->B5 P l Q (St ⟨w0,F0,bs0,G0⟩) (MV l r u).length (MV l r u) a w) :
  KU P l Q (St ⟨w0,F0,bs0,G0⟩) t r N m w0 F0 bs G:=by
 intro u;generalize hn:u.length=n
 induction n using Nat.strongRecOn generalizing u with
 |ind n ih =>
  intro β a w hu ha0 ha hx hw;rcases hf u hu with h1 | ⟨hne,h1⟩
  ·exact hk u hu h1 β a w ha0 ha hx hw
  obtain⟨x,s,es⟩:=List.exists_cons_of_ne_nil (show MV l r u≠[]from λe=>by rw[e]at hne;cases hne);rw[show(MV l r u).length=s.length+1 by rw[es];rfl];unfold B5;have member:∀i,itU l t r u (MV l r u) i=true->∃o m1,l[i]?=some o/\JD P l.toArray (XO λa w=>B5 P l Q (St ⟨w0,F0,bs0,G0⟩) s.length ((MV l r u).erase i) a w) ⟨w0,F0,bs0,G0⟩ [o] N m1 ⟨w0,F0,dT t u β++bs,G⟩/\JY N m1 a:=λi hi=>by
   have hi':=hi;simp only[itU,Bool.and_eq_true,List.contains_eq_mem,decide_eq_true_eq,beq_iff_eq]at hi';obtain⟨⟨⟨⟨⟨hiu,_⟩,_⟩,her⟩,hcl⟩,hmem⟩:=hi';refine QF2 ho hm h0 hg0 hu hi ha0 ha hx λβ' a' w' g0 g1 g2 g3=>?_;have hlen:s.length=((MV l r u).erase i).length:=by rw[List.length_erase_of_mem hmem,es];rfl
   rw[hlen,her];exact ih _ (by rw[<-hn,List.length_erase_of_mem hiu];have:=List.length_pos_of_mem hiu;omega) (u.erase i) rfl β' a' w' hcl g0 g1 g2 g3
  rcases h1 with ⟨i,hp,hi⟩ | ⟨hp,h2⟩
  ·rw[hp];obtain⟨o,m1,ho1,hj,hs⟩:=member i hi;have hq:Jr o.op=true:=by
    have:=List.find?_some hp;simp only[Bool.and_eq_true]at this;have:=this.1;unfold PB at this;rw[ho1]at this;exact this
   rcases hj (λw h=>h.imp (h0.trans (List.sublist_append_right _ _)) hg0) a w hs hw with ⟨_,v,h3,h4⟩ | ⟨h3,_⟩
   ·exact⟨o,v,ho1,h3,h4⟩
   rw[hq]at h3;cases h3
  rw[hp];intro i hi hrd;have hlen:s.length=((MV l r u).erase i).length:=by rw[List.length_erase_of_mem hi,es];rfl
  rcases h2 i hi hrd with h3 | h3
  ·obtain⟨o,m1,ho1,hj,hs⟩:=member i h3;have hq:Jr o.op=false:=by
    cases e:Jr o.op with
    |false=>rfl
    |true =>
     have:=List.find?_eq_none.1 hp i hi;unfold PB at this;rw[ho1]at this;simp[e,hrd]at this
   rw[hlen]at hj ⊢;exact EB (r':=(MV l r u).erase i) (Q:=Q) (E0:=⟨w0,F0,bs0,G0⟩) ho1 hq hj (λw h=>h.imp (h0.trans (List.sublist_append_right _ _)) hg0) hs hw
  rw[hlen];exact h3 β a w ha0 ha hx hw
theorem QEz{t:It}(h:(t.A.all λj=>!((m.map (·.1)).contains (t.d j)))=true):∀j∈t.A,look m (t.d j)=none:=λj hj=>Nf (by simpa using List.all_eq_true.1 h j hj)
theorem QDf{t:It}(ho:t.Ok P l N w0 F0 bs0 G0){r:List Nat}(k:Nat){ty:TypeId}{pos:String}{aft:Array Edge}{d:Nat}{o:Op}{γ:Type}{val:γ->Value}{bs1:γ->List (Nat×Obj)}{G1:γ->Gs->Prop}(hok:okU l t r k=true)(hkey:(t.A.all λj=>!((m.map (·.1)).contains (t.d j)))=true)(h0:bs0.Sublist bs)(hg0:∀F,G F->G0 F)
  (ho1:l[k]?=some ⟨some d,o,ty,pos,aft,none⟩) (hq:Jr o=false) (hdA:t.A.all (λj=>!(Nat.beq d (t.d j)))=true) (hd0:((t.m0.map (·.1)).contains d)=false) (hstep:∀(mX:Sl) (X:List (Nat×Obj)) (K:Act->World->Prop),(∀c a w,JY N ((d,val c)::(m++mX)) a->St ⟨w0,F0,X++bs1 c,G1 c⟩ w->K a w)->JD P l.toArray (XO K) ⟨w0,F0,bs0,G0⟩ [⟨some d,o,ty,pos,aft,none⟩] N (m++mX) ⟨w0,F0,X++bs,G⟩)
  (hk:∀c,KU P l Q (St ⟨w0,F0,bs0,G0⟩) t (r.erase k) N ((d,val c)::m) w0 F0 (bs1 c) (G1 c)):KU P l Q (St ⟨w0,F0,bs0,G0⟩) t r N m w0 F0 bs G:=by
 have hm:=QEz hkey;have hdd:∀j∈t.A,t.d j≠d:=λj hj e=>by
  have:=List.all_eq_true.1 hdA j hj;rw[e]at this;simp at this
 refine QCM ho hm h0 hg0 (λ_=>False) (λu hu=>.inr ?_) (λ_ _ h=>h.elim);have h1:=List.all_eq_true.1 hok u hu;simp only[Bool.and_eq_true,Bool.not_eq_true',beq_iff_eq]at h1;obtain⟨⟨c1,c2⟩,c3⟩:=h1;refine⟨c1,?_⟩;cases hp:GU l (MV l r u)with
 |some i=>rw[hp]at c3;exact .inl ⟨i,rfl,c3⟩
 |none =>
  rw[hp]at c3;refine .inr ⟨rfl,λi hi hrd=>?_⟩;have h2:=List.all_eq_true.1 c3 i (List.mem_filter.2 ⟨hi,hrd⟩);simp only[Bool.or_eq_true]at h2;rcases h2 with h2 | h2
  ·have e:=Nat.eq_of_beq_eq_true h2;subst e;refine .inr λβ a w ha0 ha hx hw=>?_;rw[c2];have s2:JY N (mxU t u β) a:=JY.ofMap (a0:=a) ha0 λj hj=>hx j (List.mem_filter.1 hj).1 (by have:=(List.mem_filter.1 hj).2;simpa using this);have s3:=ha.app (s2.app ha0);refine EB (r':=MV l (r.erase i) u) (Q:=Q) (E0:=⟨w0,F0,bs0,G0⟩) ho1 hq (hstep _ _ _ λc a' w' g1 g2=>?_) (λw h=>h.imp (h0.trans (List.sublist_append_right _ _)) hg0) s3 hw;have kp:∀s x,a.tmps[s]?=some x->(look m s).isSome=true\/(look (mxU t u β) s).isSome=true\/(look t.m0 s).isSome=true->s≠d->a'.tmps[s]?=some x:=λs x hs hl hd=>s3.kept g1 hs (KJ (hl.imp_right λh=>KJ h)) hd;refine hk c u β a' w' hu ⟨g1.size,g1.df,λs x hs=>?_⟩ ⟨g1.size,g1.df,λs x hs=>?_⟩ (λj hj hju=>?_) g2
   ·refine kp s x (ha0.get s x hs) (.inr (.inr (by rw[hs];rfl))) λe=>?_;rw[e,Nf hd0]at hs;cases hs
   ·have h':(bif Nat.beq d s then some (val c)else look m s)=some x:=hs;refine g1.get s x ?_;show(bif Nat.beq d s then some (val c)else look (m++(mxU t u β++t.m0)) s)=some x;cases e:Nat.beq d s with
    |true=>rw[e]at h';exact h'
    |false=>rw[e]at h';rw[cond_false,PT,show look m s=some x from h'];rfl
   exact kp _ _ (hx j hj hju) (.inr (.inl (Em (List.mem_filter.2 ⟨hj,by simpa using hju⟩)))) (hdd j hj)
  exact .inl h2
theorem QFN{t:It}(ho:t.Ok P l N w0 F0 bs0 G0){r R:List Nat}{M:(Nat->Nat)->Sl}{B:(Nat->Nat)->List (Nat×Obj)}(hf:QGS l t r=true)(hkey:(t.A.all λj=>!((m.map (·.1)).contains (t.d j)))=true)(h0:bs0.Sublist bs)(hg0:∀F,G F->G0 F)(hR:MV l r []=R)(hM:∀β,mxU t [] β=M β)(hB:∀β,dT t [] β=B β)
  (hk:∀β,JT P l Q ⟨w0,F0,bs0,G0⟩ R N (M β++m) ⟨w0,F0,B β++bs,G⟩):KU P l Q (St ⟨w0,F0,bs0,G0⟩) t r N m w0 F0 bs G:=by
 subst hR;refine QCM ho (QEz hkey) h0 hg0 (λu=>u=[]) (λu hu=>?_) λu hu e β a w ha0 ha hx hw=>?_
 ·have h1:=List.all_eq_true.1 hf u hu;cases u with
  |nil=>exact .inl rfl
  |cons y u =>
   simp only[List.isEmpty_cons,Bool.false_or,Bool.and_eq_true,Bool.not_eq_true']at h1;refine .inr ⟨h1.1,?_⟩;have c3:=h1.2;cases hp:GU l (MV l r (y::u))with
   |some i=>rw[hp]at c3;exact .inl ⟨i,rfl,c3⟩
   |none=>rw[hp]at c3;exact .inr ⟨rfl,λi hi hrd=>.inl (List.all_eq_true.1 c3 i (List.mem_filter.2 ⟨hi,hrd⟩))⟩
 subst e;have s2:JY N (mxU t [] β) a:=JY.ofMap (a0:=a) ha0 λj hj=>hx j (List.mem_filter.1 hj).1 wz;have h2:=hk β;rw[<-hM,<-hB]at h2;exact h2 (λw h=>h.imp (h0.trans (List.sublist_append_right _ _)) hg0) a w (s2.app ha) hw
theorem QCL{t:It}{r R:List Nat}(ho:t.Ok P l N w0 F0 bs0 G)(hm:MV l r t.A=R)(hc:(zR t).contains t.A=true)(hs:Kb m t.m0)(h:t.Ok P l N w0 F0 bs0 G->KU P l Q (St ⟨w0,F0,bs0,G⟩) t r N m w0 F0 bs G):JT P l Q ⟨w0,F0,bs0,G⟩ R N m ⟨w0,F0,bs,G⟩:=by
 subst hm;intro _ a w ha hw;refine h ho t.A (λ_=>0) a w (by simpa using hc) (ha.sub hs) ha (λi hi hn=>absurd hi hn) ?_;have:dT t t.A (λ_=>0)=[]:=by
  unfold dT;rw[List.filter_eq_nil_iff.2 (λi hi=>by simpa using hi)];rfl
 rw[this];exact hw
end
end
section
open Go Go.RowKit Ig
section
variable[Dr][df:Df]{P:Program}{Q:Exit->Act->World->Prop}{N:Nat}{m:Sl}{l:List Oper}{w0:World}{F0:Gs}{bs bs0:List (Nat×Obj)}{G G0:Gs->Prop}
def It.less(t:It)(A':List Nat):It:={ t with A:=A' }
theorem It.Ok.less{t:It}(h:t.Ok P l N w0 F0 bs0 G0){A':List Nat}(hs:A'.Sublist t.A):(t.less A').Ok P l N w0 F0 bs0 G0 :=
 ⟨h.nd.sublist hs,λi hi j hj=>h.inj i (hs.subset hi) j (hs.subset hj),λi hi=>h.m0 i (hs.subset hi),λi hi j hj=>h.loc i (hs.subset hi) j (hs.subset hj),λi hi=>h.step i (hs.subset hi)⟩
theorem cy{t:It}{r:List Nat}(p:Prop)(hp:∀w F,Fits F w->G F->p)(k:p->KU P l Q S0 t r N m w0 F0 bs G):KU P l Q S0 t r N m w0 F0 bs G:=λu β a w hu h0 ha hx hw=>k (hw.pure hp) u β a w hu h0 ha hx hw
theorem QFM{t:It}{r:List Nat}{G':Gs->Prop}(h:∀X w,St ⟨w0,F0,X++bs,G⟩ w->St ⟨w0,F0,X++bs',G'⟩ w)(k:KU P l Q S0 t r N m w0 F0 bs' G'):KU P l Q S0 t r N m w0 F0 bs G:=λu β a w hu h0 ha hx hw=>k u β a w hu h0 ha hx (h _ w hw)
def QB1(t:It)(D:List Nat)(β:Nat->Nat):List (Nat×Obj):=D.filterMap λi=>(t.O β i).map λo=>(β i,o)
def jn(t:It)(D:List Nat)(β:Nat->Nat):Sl:=D.map λi=>(t.d i,t.V β i)
def okD(l:List Oper)(t:It)(r:List Nat)(k:Nat)(A':List Nat):Bool:=(zR t).all λu=>!(MV l r u).isEmpty&&(match GU l (MV l r u)with
 |some i=>itU l t r u (MV l r u) i
 |none=>((MV l r u).filter (KV l (MV l r u))).all λi=>(Nat.beq i k&&(zR (t.less A')).contains u&&((MV l r u).erase k==MV l (r.erase k) u))||itU l t r u (MV l r u) i)
theorem QCK{t:It}(ho:t.Ok P l N w0 F0 bs0 G0){r:List Nat}(k:Nat)(D A':List Nat){ty:TypeId}{pos:String}{aft:Array Edge}{d:Nat}{o:Op}{γ:Type}{val:γ->Value}{bs1:γ->(Nat->Nat)->List (Nat×Obj)}{G1:γ->Gs->Prop}(hok:okD l t r k A'=true)(hD:t.A=D++A'\/t.A=A'++D)(hkey:(t.A.all λj=>!((m.map (·.1)).contains (t.d j)))=true)(h0:bs0.Sublist bs)(hg0:∀F,G F->G0 F)
  (ho1:l[k]?=some ⟨some d,o,ty,pos,aft,none⟩) (hq:Jr o=false) (hdA:t.A.all (λj=>!(Nat.beq d (t.d j)))=true) (hd0:((t.m0.map (·.1)).contains d)=false)
  (hstep:∀(β:Nat->Nat) (mX:Sl) (X:List (Nat×Obj)) (K:Act->World->Prop),(∀c a w,JY N ((d,val c)::(jn t D β++(m++mX))) a->St ⟨w0,F0,X++bs1 c β,G1 c⟩ w->K a w)->JD P l.toArray (XO K) ⟨w0,F0,bs0,G0⟩ [⟨some d,o,ty,pos,aft,none⟩] N (jn t D β++(m++mX)) ⟨w0,F0,X++(QB1 t D β++bs),G⟩)
  (hk:∀c β,KU P l Q (St ⟨w0,F0,bs0,G0⟩) (t.less A') (r.erase k) N ((d,val c)::(jn t D β++m)) w0 F0 (bs1 c β) (G1 c)):KU P l Q (St ⟨w0,F0,bs0,G0⟩) t r N m w0 F0 bs G:=by
 have hm:=QEz hkey;have hnd:=ho.nd;have hmem:∀j,j∈t.A↔j∈D\/j∈A':=λj=>by rcases hD with e | e<;>rw[e,List.mem_append];exact Or.comm
 have hdis:∀j∈D,j∉A':=λj h1 h2=>by
  rcases hD with e | e
  ·rw[e]at hnd;exact(List.nodup_append.1 hnd).2.2 j h1 j h2 I
  rw[e]at hnd;exact(List.nodup_append.1 hnd).2.2 j h2 j h1 I
 have hdd:∀j∈t.A,t.d j≠d:=λj hj e=>by
  have:=List.all_eq_true.1 hdA j hj;rw[e]at this;simp at this
 refine QCM ho hm h0 hg0 (λ_=>False) (λu hu=>.inr ?_) (λ_ _ h=>h.elim);have h1:=List.all_eq_true.1 hok u hu;simp only[Bool.and_eq_true,Bool.not_eq_true']at h1;obtain⟨c1,c3⟩:=h1;refine⟨c1,?_⟩;cases hp:GU l (MV l r u)with
 |some i=>rw[hp]at c3;exact .inl ⟨i,rfl,c3⟩
 |none =>
  rw[hp]at c3;refine .inr ⟨rfl,λi hi hrd=>?_⟩;have h2:=List.all_eq_true.1 c3 i (List.mem_filter.2 ⟨hi,hrd⟩);simp only[Bool.or_eq_true,Bool.and_eq_true,beq_iff_eq,List.contains_eq_mem,decide_eq_true_eq]at h2;rcases h2 with ⟨⟨h2,hu'⟩,c2⟩ | h2
  ·have e:=Nat.eq_of_beq_eq_true h2;subst e;have huA:∀j∈u,j∈A':=λj hj=>DI (List.mem_filter.1 hu').1 j hj;refine .inr λβ a w ha0 ha hx hw=>?_;rw[c2];have hDx:∀j∈D,a.tmps[t.d j]?=some (t.V β j):=λj hj=>hx j ((hmem j).2 (.inl hj)) λh=>hdis j hj (huA j h);have hAx:∀j∈A',j∉u->a.tmps[t.d j]?=some (t.V β j):=λj hj hju=>hx j ((hmem j).2 (.inr hj)) hju;have s1:JY N (jn t D β) a:=JY.ofMap (a0:=a) ha0 hDx;have s2:JY N (mxU (t.less A') u β) a:=JY.ofMap (a0:=a) (d:=t.d) (V:=t.V β) ha0 λj hj=>hAx j (List.mem_filter.1 hj).1 (by have:=(List.mem_filter.1 hj).2;simpa using this);have s3:=s1.app (ha.app (s2.app ha0));have hbx:(dT t u β).Perm (dT (t.less A') u β++QB1 t D β):=by
    have e1:(D.filter λi=>!(u.contains i))=D:=List.filter_eq_self.2 λj hj=>by simpa using λh=>hdis j hj (huA j h)
    unfold dT QB1;show((t.A.filter λi=>!(u.contains i)).filterMap _).Perm ((A'.filter λi=>!(u.contains i)).filterMap _++_);rcases hD with e | e
    ·rw[e,List.filter_append,List.filterMap_append,e1];exact List.perm_append_comm
    rw[e,List.filter_append,List.filterMap_append,e1];exact List.Perm.refl _
   refine EB (r':=MV l (r.erase i) u) (Q:=Q) (E0:=⟨w0,F0,bs0,G0⟩) ho1 hq (hstep β _ (dT (t.less A') u β) _ λc a' w' g1 g2=>?_) (λw h=>h.imp (((h0.trans (List.sublist_append_right _ _))).trans (List.sublist_append_right _ _)) hg0) s3 (hw.perm ?_)
   ·have kp:∀s x,a.tmps[s]?=some x->(look (jn t D β) s).isSome=true\/(look m s).isSome=true\/(look (mxU (t.less A') u β) s).isSome=true\/(look t.m0 s).isSome=true->s≠d->a'.tmps[s]?=some x:=λs x hs hl hd=>s3.kept g1 hs (KJ (hl.imp_right λh=>KJ (h.imp_right λh=>KJ h))) hd;refine hk c β u β a' w' hu' ⟨g1.size,g1.df,λs x hs=>?_⟩ ⟨g1.size,g1.df,λs x hs=>?_⟩ (λj hj hju=>?_) g2
    ·refine kp s x (ha0.get s x hs) (.inr (.inr (.inr (by show(look (t.less A').m0 s).isSome=true;rw[hs];rfl)))) λe=>?_;have:look t.m0 s=some x:=hs;rw[e,Nf hd0]at this;cases this
    ·have h':(bif Nat.beq d s then some (val c)else look (jn t D β++m) s)=some x:=hs;refine g1.get s x ?_;show(bif Nat.beq d s then some (val c)else look (jn t D β++(m++(mxU (t.less A') u β++t.m0))) s)=some x;cases e:Nat.beq d s with
     |true=>rw[e]at h';exact h'
     |false =>
      rw[e]at h';rw[cond_false,<-List.append_assoc,PT,show look (jn t D β++m) s=some x from h'];rfl
    refine kp _ _ (hAx j hj hju) (.inr (.inr (.inl ?_))) (hdd j ((hmem j).2 (.inr hj)));exact Em (d:=t.d) (V:=t.V β) (B:=A'.filter λi=>!(u.contains i)) (List.mem_filter.2 ⟨hj,by simpa using hju⟩)
   rw[<-List.append_assoc];exact hbx.append_right bs
  exact .inl h2
theorem QAA{t:It}{r:List Nat}(hp:bs.Perm bs')(k:KU P l Q S0 t r N m w0 F0 bs' G):KU P l Q S0 t r N m w0 F0 bs G:=QFM (λX w h=>h.perm (hp.append_left X)) k
end
section
variable{P:Program}{Q:Exit->Act->World->Prop}{N:Nat}{m:Sl}{l:List Oper}{w0:World}{F0:Gs}{bs bs0:List (Nat×Obj)}{G G0:Gs->Prop}
theorem QCS{ops:Array Oper}{E0:Env}{lo:List Oper}(hp:bs.Perm bs')(k:JD P ops Q E0 lo N m ⟨w0,F0,bs',G⟩):JD P ops Q E0 lo N m ⟨w0,F0,bs,G⟩:=λhE a w ha hw=>k (λw h=>hE w (h.perm hp.symm)) a w ha (hw.perm hp)
theorem dn{t:It}(ho:t.Ok P l N w0 F0 bs0 G0){r:List Nat}(k:Nat){ty:TypeId}{pos:String}{aft:Array Edge}{d:Nat}{f:FuncId}{args:Array Operand}{tys:Array TypeId}{vs:List Value}{γ:Type}{val:γ->Value}{cb:γ->List (Nat×Obj)}{G1:γ->Gs->Prop}(hok:okU l t r k=true)(hkey:(t.A.all λj=>!((m.map (·.1)).contains (t.d j)))=true)(h0:bs0.Sublist bs)(hg0:∀F,G F->G0 F)
  (ho1:l[k]?=some ⟨some d,.call ⟨.value (.func f),args,tys⟩,ty,pos,aft,none⟩) (hdA:t.A.all (λj=>!(Nat.beq d (t.d j)))=true) (hd0:((t.m0.map (·.1)).contains d)=false) (hv:∀mX,MW (m++mX) args.toList=some vs) (hc:∀bs,J8 P f vs ⟨w0,F0,bs,G⟩ val λc=>⟨w0,F0,bs++cb c,λF=>G F/\G1 c F⟩)
  (hk:∀c,KU P l Q (St ⟨w0,F0,bs0,G0⟩) t (r.erase k) N ((d,val c)::m) w0 F0 (bs++cb c) λF=>G F/\G1 c F) (hd:J6 N (some d)=true:=by rfl):KU P l Q (St ⟨w0,F0,bs0,G0⟩) t r N m w0 F0 bs G :=
 QDf (bs1:=λc=>bs++cb c) (G1:=λc F=>G F/\G1 c F) ho k hok hkey h0 hg0 ho1 rfl hdA hd0 (λmX X K hK=>RE (hv mX) (List.Perm.refl _) (hc _) (λc w h=>h.imp ((h0.trans (List.sublist_append_right _ _)).trans (List.sublist_append_left _ _)) λF h=>hg0 F h.1) (λc=>zG λa w ha hw=>hK c a w ha (by rw[<-List.append_assoc];exact hw)) hd) hk
theorem QAB{t:It}(ho:t.Ok P l N w0 F0 bs0 G0){r:List Nat}(k i0:Nat)(A':List Nat){ty:TypeId}{pos:String}{aft:Array Edge}{d:Nat}{tt e e':TypeId}{sz bytes n k2 kc:Nat}{X Y:Operand}{x:Value}{z:List Value}{g:Bool}{olds news:List Value}{ob bs':List (Nat×Obj)}(hok:okD l t r k A'=true)(hD:t.A=[i0]++A'\/t.A=A'++[i0])(hkey:(t.A.all λj=>!((m.map (·.1)).contains (t.d j)))=true)(h0:bs0.Sublist bs')(hg0:∀F,G F->G0 F)
  (ho1:l[k]?=some ⟨some d,.call ⟨.builtin .append,#[X,Y],#[tt,tt]⟩,ty,pos,aft,none⟩) (hdA:t.A.all (λj=>!(Nat.beq d (t.d j)))=true) (hd0:((t.m0.map (·.1)).contains d)=false) (hx:∀β mX,ev (jn t [i0] β++(m++mX)) X=some x) (hy:∀β mX,ev (jn t [i0] β++(m++mX)) Y=some (.slice (some ⟨β i0,0,none⟩) k2 kc)) (hO:∀β,t.O β i0=some (.cells news.toArray e' (0,0)))
  (ht:BU P tt=some e) (hs:Zm P e=some (g,sz)) (hz:XE P e=some z) (hzl:z.length=sz) (hby:ZP P e=some bytes) (hr:Q6 e sz x n olds ob) (hl:news.length=k2*sz) (h63:n+k2<=9223372036854775807) (h47:(n+k2)*bytes<=140737488355328) (h1:∀v∈news,v.oneCell'=true)
  (hk:∀(c:Sr) β,c.n=n+k2->n+k2<=c.cap->KU P l Q (St ⟨w0,F0,bs0,G0⟩) (t.less A') (r.erase k) N ((d,c.v)::(jn t [i0] β++m)) w0 F0 bs' λF=>G F/\Qy F c.q (n+k2) sz (olds++news)) (hu:Ga e=true:=by rfl) (hd:J6 N (some d)=true:=by rfl):KU P l Q (St ⟨w0,F0,bs0,G0⟩) t r N m w0 F0 (ob++bs') G:=by
 refine QCK (γ:={c:Sr // c.n=n+k2/\n+k2<=c.cap}) (val:=λc=>c.1.v) (bs1:=λ_ _=>bs') (G1:=λc F=>G F/\Qy F c.1.q (n+k2) sz (olds++news)) ho k [i0] A' hok hD hkey (h0.trans (List.sublist_append_right _ _)) hg0 ho1 rfl hdA hd0 (λβ mX Xs K hK=>?_) (λc β=>hk c.1 β c.2.1 c.2.2);have hb:QB1 t [i0] β=[(β i0,.cells news.toArray e' (0,0))]:=by unfold QB1;rw[List.filterMap_cons,hO];rfl
 rw[hb];refine QCS (bs':=ob++(Xs++((β i0,.cells news.toArray e' (0,0))::bs'))) ?_ ?_
 ·have:(Xs++([(β i0,Obj.cells news.toArray e' (0,0))]++(ob++bs'))).Perm (ob++(Xs++([(β i0,Obj.cells news.toArray e' (0,0))]++bs'))):=by
   have e1:([(β i0,Obj.cells news.toArray e' (0,0))]++(ob++bs')).Perm (ob++([(β i0,Obj.cells news.toArray e' (0,0))]++bs')):=by
    rw[<-List.append_assoc,<-List.append_assoc];exact List.perm_append_comm.append_right _
   refine(e1.append_left Xs).trans ?_;have e2:∀Y:List (Nat×Obj),(Xs++(ob++Y)).Perm (ob++(Xs++Y)):=λY=>by rw[<-List.append_assoc,<-List.append_assoc];exact List.perm_append_comm.append_right _
   exact e2 _
  exact this
 refine B4 (hx β mX) (hy β mX) ht hs hz hzl hby hr (Src.OV (T:=e') (fr:=(0,0)) (List.mem_append_right _ (List.mem_append_right _ List.mem_cons_self)) hl) h63 h47 h1 ((h0.trans (List.sublist_cons_self _ _)).trans (List.sublist_append_right _ _)) hg0 (λv' ob' hr'=>?_) hu hd;obtain⟨c,hv,hrn,hrc,hfix⟩:=Q6.fix (w0:=w0) (F0:=F0) (bs1:=Xs++bs') (G:=G) hr';subst hv;refine zG (λa w ha hw=>hK ⟨c,hrn,hrc⟩ a w ha (hfix w ((hw.imp ?_ λ_ h=>h).perm List.perm_append_comm)));exact QGJ.append (QGJ.append (List.sublist_cons_self _ _))
end
end
structure WnI(rs:List (List Tm)) where
 i:Nat
 y:Value
 ob:List (Nat×Obj)
 dl:List VO
 le:i<=rs.length
 hl:dl.length=i
 hr:Q6 87 1 y i (dl.map λe=>e.1.v) ob
 hw:Ck dl=(rs.take i).map λp=>GZ p 1
def vp(l:List VO)(e:VO):Ck (l++[e])=Ck l++[JQ e.2]:=by simp[Ck]
theorem QCU.QGW{d:Sr×List K8}{ps:List (List Tm)}(h:QCU F d ps):(d.2.map λe=>J0 e.2)=ps.map X9:=by
 refine List.ext_getElem (by simp[h.len]) λi h1 h2=>?_;have hi:i<ps.length:=by simpa using h2
 have hl:=h.len;have:=(h.at_ i hi).2.2.1;rw[J4 (show i<d.2.length by omega),J4 hi]at this;simpa using this
theorem QCU.pl{d:Sr×List K8}{ps:List (List Tm)}(h:QCU F d ps):KL F d.2:=λe he=>by
 obtain⟨i,hi,rfl⟩:=List.getElem_of_mem he;have:=h.at_ i (by rw[<-h.len];exact hi);rw[J4 hi]at this;exact⟨this.1,this.2.1⟩
def UE(s lo up:List UInt8):It where
 A:=[5,13]
 d:=λi=>bif Nat.beq i 5 then 48 else 56
 dep:=λ_=>[]
 V:=λβ i=>bif Nat.beq i 5 then .slice (some ⟨β 5,0,none⟩) 1 1 else .slice (some ⟨β 13,0,none⟩) 1 1
 O:=λβ i=>bif Nat.beq i 5 then some (.cells [tx s].toArray 9 (0,0))else some (.cells [tx lo,tx up].toArray 56 (0,0))
 m0:=[(47,tx s),(55,.agg [tx lo,tx up].toArray)]
def QAn(s lo up:List UInt8):∀i∈(UE s lo up).A,∀j∈(UE s lo up).A,(UE s lo up).d i=(UE s lo up).d j->i=j:=by
 show ∀i∈[5,13],∀j∈[5,13],(bif Nat.beq i 5 then 48 else 56)=(bif Nat.beq j 5 then 48 else 56)->i=j;decide
def QCn(s lo up:List UInt8):∀i∈(UE s lo up).A,look (UE s lo up).m0 ((UE s lo up).d i)=none:=by
 intro i hi;simp only[UE,List.mem_cons,List.not_mem_nil,or_false]at hi;rcases hi with rfl | rfl<;>rfl
def QAm(s lo up:List UInt8):∀i∈(UE s lo up).A,∀j∈(UE s lo up).A,j≠i->j∉(UE s lo up).dep i->∀β b,(UE s lo up).V (vO β j b) i=(UE s lo up).V β i/\(UE s lo up).O (vO β j b) i=(UE s lo up).O β i:=by
 intro i hi j hj;simp only[UE,List.mem_cons,List.not_mem_nil,or_false]at hi hj;rcases hi with rfl | rfl<;>rcases hj with rfl | rfl<;>first | exact λh _=>absurd rfl h | exact λ_ _ β b=>⟨rfl,rfl⟩
structure QFP(F:Gs)(z y:Zh)(name lo up:List UInt8)(rs:List (List Tm))(rate:List Tm):Prop where
 hz:Yl F z
 nc:z.nm.n<=z.nm.cap
 nl:z.nl=y.nl++[name]
 sl:z.sl=y.sl++[(lo,up)]
 rl:z.rl.map (λe=>J0 e.2)=(rs.map λp=>X9 (GZ p 1))++[X9 rate]
theorem QAE{p:VO}{rs:List (List Tm)}{lo up:List UInt8}(hF:Fits F w)(hGl:JG F)(hy:Yl F y)(hr:D8 F c rs)(hP:Jl F p.1 p.2 (JQ p.2))(hn:rs.length=y.nm.n)(hn1:y.nm.n<=100)(hsn:y.st.n<=100)(hw:∀q∈rs,∀t∈q,t.2.length=y.nm.n+1)(hs:∀q∈rs,de (GZ q 1))(hp:de (JQ p.2)):QU prog 75 [.agg (UG y c).toArray,tx s,p.1.v,.agg #[tx lo,tx up]] w F (λ(z:Zh)=>.tuple #[z.v,.int .i64 0]) (λz F=>QFP F z y s lo up rs (JQ p.2)):=by
 have hrn:=hr.N4;have hcl:=hr.len;have hyn:=hy.AL;have hys:=hy.RG;refine QU.intro (G:=λF=>JG F/\Yl F y/\D8 F c rs/\Jl F p.1 p.2 (JQ p.2)) func75 rfl wy rfl rfl hF (λF' hF'=>⟨hGl.le hF',hy.le hF',hr.le hF',hP.le hF'⟩)<|QGi<|JE rfl (vs:=[_,_,_,_,_]) rfl λb4=>JE rfl (vs:=[_,_]) rfl λb7=>Qg pC λb8=>wQ rfl<|QGi<|wQ rfl<|QG<|QGi<|QA (QH rfl M4 Gv)<|QA (Qh rfl Gv .u2 (.skip (.skip (.skip (.skip .h1)))))<|QA (Qf rfl KS)<|QF5 rfl<|QF4<|QS<|Jo (ι:=WnI rs) [(1,_),(2,_),(4,_),(7,_),(8,_),(16,_),(17,_)] (λi=>[(10,i.y),(18,.int .i64 ((i.i:Nat):Int))]) (λi=>[_,_,_]++i.ob) (λi F=>MR F i.dl) (λi=>rs.length-i.i) (⟨0,.slice none 0 0,[],[],Nat.zero_le _,rfl,.nil,rfl⟩) wY wT QGJ (λ_ _ _ h=>by cases h) λi=>?_
 simp only[List.cons_append,List.nil_append];have hi:=i.le;have hil:=i.hl;refine wA 6 I ?_;refine QP I (λhc2=>?_) λhc2=>?_
 ·have hlt:i.i<c.1.n:=wk<|QGx hc2
  refine QHC 6 I<|QA (Q2 (n:=c.1.n) i.i (λF h9=>h9.1.2.2.1.row) rfl rfl KS Vg O)<|QA (Qz (n:=c.1.n) ((i.i)*1) (λF h9=>h9.1.2.2.1.row) O I Vg (ZD (f:=λe:VO=>e.1.v) (l:=c.2) O))<|QHB 6 I<|QA (QH I Tl Qu)<|QA (Qh I Qu .u2 (.skip (.skip (.skip .h1))))<|QA (Qm I I O) ?_
  rw[show((y.nm.n:Int)+1+1)=((y.nm.n+2:Nat):Int)from by omega];refine QJ I (λw F hF ⟨⟨hGl,hy,hr,hP⟩,hD⟩=>gO (q:=(el c.2 i.i).1.q) (n:=(el c.2 i.i).1.n) (cap:=(el c.2 i.i).1.cap) (ts:=(el c.2 i.i).2) (N:=y.nm.n+1) (m:=y.nm.n+2) hF (hr.at O).1 (λt ht=>hw _ (JK (show i.i<rs.length by omega)) _ (by rw[<-(hr.at O).2];exact List.mem_map_of_mem ht)) O O O (by have g:=(hs _ (JK (show i.i<rs.length by omega))).len;rw[qL,<-(hr.at O).2,ZC]at g;omega)) (λc27=>JN _ (λ_ _ f k=>k.2.eqT.trans (by rw[(k.1.1.2.2.1.at (show i.i<c.1.n by omega)).2,show y.nm.n+2-(y.nm.n+1)=1 from by omega])) λe27=>Qs I (JU KS) Vg qH I I λb28=>?_);refine YC (bs1:=[_,_,_]) (ob:=i.ob) (n:=i.i) (k:=1) (sz:=1) (news:=[c27.1.v]) I I KS Vg qH I dQ i.hr (Src.row (off:=0) tB (λj q hq=>by rw[Nat.zero_add];rw[List.getElem?_toArray];exact hq) rfl) O O (λv hv=>by rw[List.mem_singleton.1 hv];rfl) (λv29 ob29 hr29=>?_);refine wB 2 I<|Qi<|QD<|QB<|QA (Qm I I O)<|wB 2 I ?_
  exact Qj (⟨i.i+1,v29,ob29,i.dl++[c27],O,by rw[List.length_append,hil];rfl,by rw[List.map_append];exact hr29,by rw[Xg O,List.map_append,vp,i.hw,e27];rfl⟩) (by show rs.length-(i.i+1)<rs.length-i.i;omega) we QGJ λF ⟨⟨⟨⟨hGl,hy,hr,hP⟩,hD⟩,h27⟩,hs28⟩=>⟨⟨hGl,hy,hr,hP⟩,λe he=>(List.mem_append.1 he).elim (hD e) λh=>by rw[List.mem_singleton.1 h];exact h27.self⟩
 have hge:i.i=rs.length:=wk<|QGy hc2
 refine Qv ?_
 repeat first|refine QV ?_|refine QQ wy ?_
 refine QW<|QHD 5 I<|Qs I (JU KS) Vg qH I I λb34=>?_
 refine YC (bs1:=[_,_,_]) (ob:=i.ob) (n:=i.i) (k:=1) (sz:=1) (news:=[p.1.v]) I I KS Vg qH I dQ i.hr (Src.row (off:=0) tB (λj q hq=>by rw[Nat.zero_add];rw[List.getElem?_toArray];exact hq) rfl) O O (λv hv=>by rw[List.mem_singleton.1 hv];rfl) (λv35 ob35 hr35=>?_);obtain⟨r35,hv35,hrn35,hrc35,hfix35⟩:=Q6.fix (w0:=w) (F0:=F) (bs1:=[_,_,_]) (G:=_) hr35;refine H6 hfix35 ?_;rw[hv35];dsimp only[Sr.v];have hwd:Ck (i.dl++[p])=(rs.map λq=>GZ q 1)++[JQ p.2]:=by rw[vp,i.hw,hge,List.take_length]
 have hall:∀e∈i.dl++[p],de (JQ e.2):=λe he=>by
  have h1:JQ e.2∈Ck (i.dl++[p]):=List.mem_map_of_mem he;rw[hwd]at h1;rcases List.mem_append.1 h1 with h1 | h1
  ·obtain⟨q,hq,e2⟩:=List.mem_map.1 h1;rw[<-e2];exact hs q hq
  rw[List.mem_singleton.1 h1];exact hp
 refine QJ I (λ_ _ f k=>QAX (c:=(r35,i.dl++[p])) f k.1.1.1.1 (by rw[hrn35,List.map_append];exact k.2) (λe he=>(List.mem_append.1 he).elim (k.1.1.2 e) λh=>by rw[List.mem_singleton.1 h];exact k.1.1.1.2.2.2) (by rw[hrn35,List.length_append,hil];rfl) (by rw[hrn35];omega) hall) (λc36=>QHB 11 I<|QA (QN (v:=.bool false) rfl rfl (Oo _))<|QF4<|Xo I<|QHC 3 I<|vY (r:=[0,1,2,3,4,5,6,7,8,9,10,11,12,13,14,15,16,17]) (.cons _ tC) mixed wm rfl<|NY 0 wm rfl rfl<|QL (QH I Lv Y3)<|Z1<|NY 1 wm rfl rfl<|QL (QH I WB YR) ?_);refine Z1<|NY 2 wm rfl rfl<|QL (Qh I YR .u1 .h1)<|Z1<|NY 4 wm rfl rfl<|QL (QC I)<|Z1<|NY 7 wm rfl rfl<|QL (QC I)<|Z1<|NY 8 wm rfl rfl<|QL (QH I Lv Y3)<|Z1<|NY 9 wm rfl rfl<|QL (QH I Bp WG)<|Z1<|NY 10 wm rfl rfl<|QL (Qh I WG .u1 (.skip (.skip .h1)))<|Z1<|NY 12 wm rfl rfl<|QL (wH I Xx .here)<|Z1 ?_
 refine QCL (t:=UE s lo up) (r:=[3,6,11,14,15,16,17]) ⟨by show[5,13].Nodup;decide,QAn s lo up,QCn s lo up,QAm s lo up,λj hj=>?_⟩ wm wm wT λhIt=>?_
 ·simp only[UE,List.mem_cons,List.not_mem_nil,or_false]at hj;rcases hj with rfl | rfl
  ·refine⟨_,rfl,λβ mX bsX G h0 hg K hK=>?_⟩;exact Rm I (JU Yf) Hx z_9 I I λb=>zG (hK b)
  refine⟨_,rfl,λβ mX bsX G h0 hg K hK=>?_⟩;exact Rm I (JU YP) Xx EA I I λb=>zG (hK b)
 refine dn hIt 3 wm wy (.cons _ QGJ) w9 rfl rfl rfl (λ_=>rfl) (λbs=>QBt (r:=y.nm) (l:=y.nl) (λF h=>h.1.1.1.1.2.1.nm) O) (λc46=>cy _ (λ_ F _ h=>h.2) λhr46=>QAA List.perm_append_comm<|QAB hIt 6 5 [13] (n:=y.nm.n) (k2:=1) (sz:=1) (olds:=y.nl.map tx) (news:=[tx s]) wm (.inl rfl) wy (.cons _ QGJ) tA rfl rfl rfl (λ_ _=>rfl) (λ_ _=>rfl) (λ_=>rfl) Yf Hx z_9 I QBy hr46 rfl O O (λv hv=>by rw[List.mem_singleton.1 hv];rfl) λc49 β n49 k49=>?_);have hIt2:=hIt.less (A':=[13]) (List.sublist_cons_self _ _);refine dn hIt2 11 wm wy (.cons _ QGJ) (λ_ h=>h.1.1) rfl rfl rfl (λ_=>rfl) (λbs=>QBu (r:=y.st) (l:=y.sl) (λF h=>h.1.1.1.1.1.1.2.1.st) O) (λc54=>cy _ (λ_ F _ h=>h.2) λhr54=>QAA List.perm_append_comm<|QAB hIt2 14 13 [] (n:=y.st.n) (k2:=1) (sz:=2) (olds:=y.sl.flatMap Ny) (news:=[tx lo,tx up]) wm (.inl rfl) wy (.cons _ QGJ) (λ_ h=>h.1.1.1) rfl rfl rfl (λ_ _=>rfl) (λ_ _=>rfl) (λ_=>rfl) YP Xx EA I cj hr54 rfl O O (λv hv=>by simp only[List.mem_cons,List.not_mem_nil,or_false]at hv;rcases hv with rfl | rfl<;>rfl) λc57 β2 n57 k57=>?_);have hIt3:=hIt2.less (A':=[]) tD;refine QFN (M:=λ_=>[]) (B:=λ_=>[]) (R:=[15,16,17]) hIt3 wm wy (.cons _ QGJ) (λ_ h=>h.1.1.1.1) wm (λ_=>rfl) (λ_=>rfl) (λ_=>NY 15 wm rfl rfl<|QL (XL I QBK pC (.cons (vs:=[_]) I I I .h1 (.cons (vs:=[_]) I I I (.skip .h1) (.cons (vs:=[_]) I I I (.skip (.skip .h1)) .nil))))<|Z1<|K7 16 wm wm rfl rfl rfl<|Ji (vs:=[_,_,_]) I I I Y3 I .here tC (λ_ h=>h.1.1.1.1) .h3 wU<|Z1<|NY 17 wm rfl rfl<|QL (QF I)<|Z1<|BV<|QD<|QT ?_);exact J9 ((⟨c49,y.nl++[s],c36.1,c36.2,c57,y.sl++[(lo,up)]⟩:Zh)) I (.Jv (c:=[_,_,_]) I Y3 .here (wN I)) I (λF h=>by
  have h36:=h.1.1.1.1.2;rw[hwd]at h36;have hln:=h36.n;have hll:=h36.len;refine⟨⟨?_,h36.row,h36.pl,?_,?_,?_,?_⟩,by show c49.n<=c49.cap;rw[n49];exact k49,rfl,rfl,?_⟩
  ·show Qy F c49.q c49.n 1 ((y.nl++[s]).map tx);rw[n49,List.map_append];exact h.1.1.2
  ·show Qy F c57.q c57.n 2 ((y.sl++[(lo,up)]).flatMap Ny);rw[n57,List.flatMap_append];exact h.2
  ·show(y.nl++[s]).length=c49.n;rw[n49,List.length_append,hyn];rfl
  ·show c36.2.length=c36.1.n;rw[hll,hln]
  ·show(y.sl++[(lo,up)]).length=c57.n;rw[n57,List.length_append,hys];rfl
  show(c36.2.map λe=>J0 e.2)=_;rw[h36.QGW,List.map_append,List.map_map];rfl)
def QAc{a b:List Int}(ha:a.length=N)(hb:b.length=N):(Jq a b).length=N:=by
 unfold Jq;rw[List.length_zipWith,ha,hb,Nat.min_self]
theorem z6{rs:List (List Tm)}{p:List Tm}(h:UD rs p N):∀k,k<=rs.length->∀t∈Wz rs p k,t.2.length=N
 |0,_,t,ht=>by
  obtain⟨y,hy,e⟩:=Bz ht;obtain⟨u,hu,_,e2⟩:=gi hy;rw[<-e,e2];simp only[List.length_set];exact(h.pw u hu).2
 |k+1,hk,t,ht=>by
  obtain⟨y,hy,e⟩:=Bz ht;rw[<-e];rcases List.mem_append.1 hy with hy | hy
  ·exact z6 h k O y hy
  obtain⟨z,hz,e2⟩:=Bz hy;obtain⟨a,ha,b,hb,e3⟩:=FY hz;rw[<-e2,e3];exact QAc ((h.mul k O).wp a ha) ((h.mul k O).wq b hb)
theorem QAY{lo up:List UInt8}(hF:Fits F w)(hGl:JG F)(hy:Yl F y)(ht:Nb y)(he:y.e=0)(hR:Qy F a.1.q a.1.n 2 (a.2.flatMap KI))(hA:Zz F a.2)(hta:BP a)(hpe:XB (J0 a.2) (y.nm.n:Int)=0)(hpo:Y1 (J0 a.2) (y.nm.n:Int))(hsl:s.length<=1000000)(hsn:Cp s=true)(hnc:¬s∈y.nl)(hn12:y.nm.n<=12)(hok:UD y.rs (JW (J0 a.2)) (y.nm.n+1))(hsz:de (Wz y.rs (JW (J0 a.2)) y.rs.length))(hsw:de (GZ (Wz y.rs (JW (J0 a.2)) y.rs.length) 1))(hrs:∀q∈y.rs,de (GZ q 1))(heq:pA (J0 a.2) (([48],[48])::y.sl)=((lo,up),0)):QU prog 17 [y.v,tx s,a.1.v] w F (λ(z:Zh)=>.tuple #[z.v,.int .i64 0]) (λz F=>QFP F z y s lo up y.rs (GZ (Wz y.rs (JW (J0 a.2)) y.rs.length) 1)):=by
 have hyn:=hy.AL;have hys:=hy.RG;have hyok:=hy.ok he;have hn0:=hyok.n0;have hsn':=hyok.sn;have hrl:y.rs.length=y.nm.n:=by have:=hy.N4;have:=hyok.rn;simp only[Zh.rs,List.length_map];omega
 have hwd:∀t∈Wz y.rs (JW (J0 a.2)) y.rs.length,t.2.length=y.nm.n+1:=z6 hok _ (Nat.le_refl _);have hwr:∀q∈y.rs,∀t∈q,t.2.length=y.nm.n+1:=λq hq t ht=>by
  obtain⟨e,he2,rfl⟩:=List.mem_map.1 hq;have:=(hyok.pl e he2).wide t ht;omega
 have hpe0:Mm (J0 a.2) (y.nm.n:Int)=0:=by unfold Mm;rw[if_pos ((K5 _).2 ⟨O,O⟩)];exact hpe
 have hq0:y.st.q=none->y.st.n=0:=λe=>by
  rcases Nat.eq_zero_or_pos y.st.n with h | h
  ·exact h
  obtain⟨b,off,arr,T,e1,_⟩:=hy.st.2 h;rw[e]at e1;cases e1
 refine QU.intro (G:=λF=>JG F/\Yl F y/\Qy F a.1.q a.1.n 2 (a.2.flatMap KI)/\Zz F a.2) func17 rfl wy rfl rfl hF (λF' hF'=>⟨hGl.le hF',hy.le hF',hR.le hF',hA.le hF'⟩)<|QGi<|JE rfl (vs:=[_,_,_]) rfl λb3=>Qg pC λb6=>wQ rfl<|QGi<|QA (wI I Y3 .u1)<|QJ rfl (λ_ _ f k=>Ls (y:=y) f k.1 k.2.1 ht he) λc15=>QF5 rfl<|QA (QX rfl rfl)<|QA (QX rfl rfl)<|Qg Nj λb8=>QZ (vs:=[_,_,_,_,_]) rfl rfl rfl Ki rfl .here .h5 wW<|wQ rfl<|QG<|wR rfl<|QA (QN (v:=.bool true) rfl rfl (eqI9 _)) ?_
 refine QF4<|K6 I<|JL QGJ mixed wm<|QL (wI I Y3 .u2)<|QL (QC I)<|Qc I (λ_ _ f k=>QAO f k.1.2.1 O hsl hsn hnc) λ_=>QL (QC I)<|QL (QH I Tl Qu)<|QL (Qh I Qu .here (.skip (.skip (.skip .h1))))<|QL (J1 I I O)<|Qc I (λ_ _ f k=>Ho (ps:=a.2) f k.1.1.1 k.1.1.2.2.1 k.1.1.2.2.2 hta.1 hta.2.1 hta.2.2) λ_=>?_
 rw[show Mm (J0 a.2) ((y.nm.n:Int)+1-1)=0 from by rw[show((y.nm.n:Int)+1-1)=(y.nm.n:Int)from by omega];exact hpe0];refine QL (QH I WB YR)<|QL (Qh I YR .u2 .h1)<|QL (Qf I Yf)<|QL (QN (v:=.bool false) rfl rfl (congrArg (λb=>some (Value.bool b)) (decide_eq_false O)))<|Qc I (λ_ _ f k=>Kg (b:=false) f) λ_=>?_
 refine Jd I (JU Y4) WE RQ I I (λb33=>?_) (λw h=>h.imp tC λF h=>h.1.1.1);refine Qc I (λ_ _ f k=>Ws (l:=[0,0,0]) f (Qy.of k.2 I) wu) (λ_=>QL (QF I)<|Q3<|QHD 5 I<|QA (QN (v:=.bool false) rfl rfl (Oo _))<|QF4<|Xo I<|QHC 3 I<|JL QGJ mixed wm<|QL (QH I M4 Gv)<|QL (Qh I Gv .here (.skip (.skip (.skip (.skip .h1)))))<|QL (QC I)<|Qc I (λ_ _ f k=>Wf (v:=(y.nm.n:Int)) f k.1.1.1.1.1.1.1 k.1.1.1.1.1.1.2.2.1 k.1.1.1.1.1.1.2.2.2 hta hpo ⟨O,O⟩) λc42=>V8 _ (λ_ _ f k=>k.2.eqT) λe42=>Qc I (λ_ _ f k=>xF (N:=y.nm.n+1) f k.1.1.1.1.1.1.1.1 k.1.1.1.1.1.1.2 k.2.self (by rw[e42];exact hok)) λc43=>V8 _ (λ_ _ f k=>k.2.eqT) λe43=>?_);rw[e42]at e43;refine QL (QF I)<|Q3<|QHD 5 I<|QJ I (λ_ _ f k=>kf (q:=c43.1.q) (n:=c43.1.n) (cap:=c43.1.cap) (ts:=c43.2) f k.1.1.1.1.1.1.1.1.1 k.2.self (by rw[e43];exact hsz)) λ_=>QHB 6 I<|QA (QN (v:=.bool false) rfl rfl (Oo _))<|QF4<|Xo I<|QHC 5 I<|QA (XL I UC EA (wP I I I))<|GX I (JU YP) Xx EA I I λb53=>?_
 refine X1 (bs':=[_,_,_]++[(b53,.cells ([tx [48],tx [48]]++[]:List Value).toArray 56 (0,0))]) (List.perm_append_comm (l₁:=[_]))<|QA (QH I Bp WG)<|QA (Qh I WG .u2 (.skip (.skip .h1)))<|YC (bs1:=[_,_,_]) (ob:=[(b53,.cells ([tx [48],tx [48]]++[]:List Value).toArray 56 (0,0))]) (n:=1) (k:=y.st.n) (sz:=2) (news:=y.sl.flatMap Ny) rfl rfl YP Xx EA I cj (.some rfl rfl (Nat.le_refl _) wu) (Src.QCu hq0 (λF h9=>h9.1.1.1.1.1.1.1.1.1.2.1.st) hy.st.1) O O (QCq _) λv56 ob56 hr56=>?_
 obtain⟨r56,hv56,hrn56,hrc56,hfix56⟩:=Q6.fix (w0:=w) (F0:=F) (bs1:=[_,_,_]) (G:=_) hr56;refine H6 hfix56 ?_;rw[hv56];dsimp only[Sr.v];refine QJ I (λ_ _ f k=>Cr (a:=a) (q:=r56.q) (n:=r56.n) (cap:=r56.cap) (ss:=([48],[48])::y.sl) f k.1.1.1.1.1.1.1.1.1.1.1 k.1.1.1.1.1.1.1.1.1.1.2.2.1 k.1.1.1.1.1.1.1.1.1.1.2.2.2 hta (by rw[hrn56];exact k.2) (by rw[hrn56];simp only[List.length_cons];omega) (λs hs=>(List.mem_cons.1 hs).elim (λe=>e ▸ ⟨wu,wu⟩) λh=>ht.st s h) (by rw[hrn56];omega)) (λ_=>?_);rw[heq];dsimp only;refine wB 3 I<|Qg EA λb12=>QZ (vs:=[_,_]) I I I Xx I .here .h2 wT<|QHB 7 I<|QA (QN (v:=.bool false) rfl rfl (Oo _))<|QF4<|Xo I<|QHC 3 I<|JL (.cons_cons _ (.cons_cons _ (.cons _ tC))) mixed wm<|QL (QR (vs:=[_,_,_,_,_]) I Ki .u1 .h5 rfl)<|QL (QC I)<|QL (QC I)<|QL (QH I Tl Qu)<|QL (Qh I Qu .u1 (.skip (.skip (.skip .h1)))) ?_
 refine QL (Qm I I O) ?_;have l43:c43.2.length<=64:=by have:=hsz.len;rw[<-e43,ZC]at this;exact this
 refine Qc I (λ_ _ f k=>gO (q:=c43.1.q) (n:=c43.1.n) (cap:=c43.1.cap) (ts:=c43.2) (N:=y.nm.n+1) (m:=y.nm.n+2) f k.1.1.1.2.self (λt ht=>hwd _ (by rw[<-e43];exact List.mem_map_of_mem ht)) O O O O) (λc70=>V8 _ (λ_ _ f k=>k.2.eqT) λe70=>?_);rw[show y.nm.n+2-(y.nm.n+1)=1 from by omega,e43]at e70;refine QL (wH I Xx .here)<|Qc I (λ_ _ f k=>QAE (c:=c15) (p:=c70) (rs:=y.rs) f k.1.1.1.1.1.1.1.1.1.1.1.1.1 k.1.1.1.1.1.1.1.1.1.1.1.1.2.1 k.1.1.1.1.1.1.1.1.1.1.1.2 k.2.self hrl O O hwr hrs (by rw[e70];exact hsw)) λc72=>QL (QX I I)<|QL (QX I I)<|Ji (vs:=[_,_,_]) I I I Y3 I .u2 tC (λ_ h=>h.1.1) .h3 wU<|QL (QF I)<|Q3<|QD<|QT ?_
 exact J9 (c72) rfl (.Jv (c:=[_,_,_]) I Y3 .u2 (wN I)) (rfl) λF h9=>(by rw[<-e70];exact h9.2)
theorem QAr{p:Pt}(h:∀x∈p,Jy x.1=0):p=X9 (JW p):=by
 unfold X9 JW;rw[List.map_map]
 induction p with
 |nil=>rfl
 |cons x p ih =>
  rw[List.map_cons,<-ih λy hy=>h y (List.mem_cons_of_mem _ hy)];show x::p=(JO (Yn x.1),x.2)::p;rw[<-(Zb (h x List.mem_cons_self)).1]
section
variable{a b:K8}{c:List UInt8}{p:Pt}{v x:Int}{l:List Tm}
def QGI(hv:VC v=0):P9 [a,b] v=Qn [XB (J0 a.2) v,XB (J0 b.2) v]:=by unfold P9;rw[if_pos hv];rfl
def QDp(hv:VC v=0)(h:Qn [XB (J0 a.2) v,XB (J0 b.2) v]=0):gV [a,b] v l=F7 l/\gW [a,b] v l=RH l:=by
 unfold gV gW;rw[QGI hv,if_pos h,if_pos h];exact⟨rfl,rfl⟩
end
def YQ(p:List Tm):JW (X9 p)=p:=by
 unfold JW X9;rw[List.map_map]
 conv=>rhs;rw[<-List.map_id p]
 refine List.map_congr_left λt _=>?_;show(Yn (JO t.1),t.2)=t;rw[Mn]
def vu{p:List Tm}(h:i<p.length):el (X9 p) i=(JO (el p i).1,(el p i).2):=by
 rw[J4 (by rw[FT];exact h),J4 h];simp[X9]
theorem QDY(l:List Int):Vw l<=l.sum:=by
 unfold Vw
 induction l with
 |nil=>exact Int.le_refl _
 |cons a l ih=>rw[List.map_cons,List.sum_cons,List.sum_cons];split<;>omega
def Bq(k:Nat)(p:List Tm):Prop:=Bd p k 64 1800 12
section
variable{k:Nat}{v:Int}{p:List Tm}
def Bq.gn(h:Bq k p):∀t∈p,XQ t.1=false:=λt ht=>W2 (h.sz t ht) (Nat.le_refl _)
theorem Bq.I8(h:Bq k p)(hk:(k:Int)=v+1):XB (X9 p) v=0:=by
 have hln:=h.ln;unfold XB;rw[FT,if_neg (by rw[decide_eq_true_eq];omega)];have hz:∀i,i<p.length->VK (X9 p) v i=0:=λi hi=>by
  have hm:=JK hi;obtain⟨h1,h2⟩:=h.nn _ hm;have e1:ZL (JO (el p i).1) (el p i).2 v=0:=by
   unfold ZL;rw[if_neg (wk<|h.wd _ hm),if_neg,Ea (h.gn _ hm),if_neg]
   ·rfl
   ·rw[decide_eq_true_eq];have:=QDY (el p i).2;omega
   intro e;obtain⟨x,hx,hx2⟩:=List.any_eq_true.1 e;rw[decide_eq_true_eq]at hx2;have:=h1 x hx;omega
  have e2:(JO (el p i).1==[48])=false:=by
   rw[QAk];exact decide_eq_false (h.can.nz _ hm)
  unfold VK;dsimp only;rw[vu hi];dsimp only;rw[e1,e2,if_neg]
  ·rfl
  rintro⟨_,h0,hc⟩;have hi1:i-1<p.length:=O;rw[vu hi1]at hc;have hb:before (el p (i-1)).2 (el p i).2=true:=by
   rw[J4 hi1,J4 hi];exact List.pairwise_iff_getElem.1 h.can.gF (i-1) i hi1 hi O
  rw[WQ,decide_eq_true_eq]at hb;dsimp only at hc;omega
 have key:∀(l:List Int),(∀x∈l,x=0)->Qn l=0:=by
  intro l
  induction l with
  |nil=>intro _;rfl
  |cons a l ih =>
   intro hl;unfold Qn;rw[if_pos (hl a List.mem_cons_self)];exact ih λx hx=>hl x (List.mem_cons_of_mem _ hx)
 refine key _ λx hx=>?_;obtain⟨i,hi,rfl⟩:=List.mem_map.1 hx;exact hz i (List.mem_range.1 hi)
theorem Bq.res(h:Bq k p):RH p=0/\F7 p=X9 p:=by
 have h1:Cw p<=12:=by
  cases p with
  |nil=>exact(by decide:(0:Int)<=12)
  |cons t l=>exact(h.nn t List.mem_cons_self).2
 have h2:=h.ln;have h3:GJ p=false:=by
  unfold GJ;rw[List.any_eq_false];intro t ht e;rw[h.gn t ht]at e;cases e
 have e:RH p=0:=by
  unfold RH;rw[if_neg (by rw[decide_eq_true_eq];omega),if_neg (by rw[decide_eq_true_eq];omega),h3];rfl
 exact⟨e,by unfold F7;rw[if_pos e]⟩
def Bq.txt(h:Bq k p):∀x∈X9 p,x.1.length<=1000000/\x.2.length<=k:=λx hx=>by
 unfold X9 at hx;obtain⟨t,ht,rfl⟩:=List.mem_map.1 hx;have h1:=GI t.1;have h2:=h.sz t ht;exact⟨by dsimp only;omega,by rw[h.wd t ht];exact Nat.le_refl _⟩
def Bq.Cu(h:Bq k p)(hk:k<=1000)(hA:Ka F a.1 a.2 (X9 p)):BP a :=
 Ka.Cu hA (λx hx=>wk<|h.txt x hx) (by rw[FT];have:=h.ln;omega)
end
section
variable{w:World}{F:Gs}{k:Nat}{v:Int}{p q:List Tm}{a b:K8}
theorem uG(hF:Fits F w)(hGl:JG F)(hA:Ka F a.1 a.2 (X9 p))(hB:Ka F b.1 b.2 (X9 q))(hk:(k:Int)=v+1)(hv:0<=v/\v<=24)(hp:Bq k p)(hq:Bq k q)(hr:Bq k (JX (JC p q))):
  QU prog 9 [a.1.v,b.1.v,.int .i64 v] w F (λ(c:K8)=>.tuple #[c.1.v,.int .i64 0]) (λc F=>Ka F c.1 c.2 (X9 (JX (JC p q)))) :=
 AO (P:=X9 p) (Q:=X9 q) hF hGl (λe he=>by
   rcases List.mem_cons.1 he with rfl | he
   ·exact⟨hA.1,hA.2.1⟩
   ·rw[List.mem_singleton.1 he];exact⟨hB.1,hB.2.1⟩) (λe he=>by
   rcases List.mem_cons.1 he with rfl | he
   ·exact hp.Cu O hA
   rw[List.mem_singleton.1 he];exact hq.Cu O hB) hA.2.2.1 hB.2.2.1 ((K5 v).2 hv) (hp.I8 hk) (hq.I8 hk) (by rw[YQ,YQ];exact hr.res.1) (by rw[YQ,YQ];exact hr.res.2)
theorem ud(hF:Fits F w)(hGl:JG F)(hA:Ka F a.1 a.2 (X9 p))(hB:Ka F b.1 b.2 (X9 q))(hk:(k:Int)=v+1)(hv:0<=v/\v<=24)(hp:Bq k p)(hq:Bq k q)(hr:Bq k (JX (p++q))):
  QU prog 10 [a.1.v,b.1.v,.int .i64 v] w F (λ(c:K8)=>.tuple #[c.1.v,.int .i64 0]) (λc F=>Ka F c.1 c.2 (X9 (JX (p++q)))):=by
 have h:=z7 (a:=a) (b:=b) (v:=v) hF hGl (λe he=>by
   rcases List.mem_cons.1 he with rfl | he
   ·exact⟨hA.1,hA.2.1⟩
   ·rw[List.mem_singleton.1 he];exact⟨hB.1,hB.2.1⟩) (λe he=>by
   rcases List.mem_cons.1 he with rfl | he
   ·exact hp.Cu O hA
   rw[List.mem_singleton.1 he];exact hq.Cu O hB)
 have hc:=(K5 v).2 hv;have e0:Qn [XB (J0 a.2) v,XB (J0 b.2) v]=0:=by rw[hA.2.2.1,hB.2.2.1,hp.I8 hk,hq.I8 hk];rfl
 rw[(QDp hc e0).1,(QDp hc e0).2,hA.2.2.1,hB.2.2.1,YQ,YQ,hr.res.1,hr.res.2]at h;exact h
theorem cE(hF:Fits F w)(hA:Ka F a.1 a.2 (X9 p))(hB:Ka F b.1 b.2 (X9 q))(hk:k<=1000)(hp:Bq k p)(e:p=q):Qb prog 12 [a.1.v,b.1.v] w F (.bool true):=by
 have ht:=hp.Cu hk hA;have h:=Uk (q:=a.1.q) (n:=a.1.n) (cap:=a.1.cap) (q2:=b.1.q) (n2:=b.1.n) (cap2:=b.1.cap) hF hA.1 hA.2.1 hB.1 hB.2.1 hA.2.2.2.2 hB.2.2.2.2 (λt ht2=>(ht.2.1 t ht2).2) ht.2.2;rw[hA.2.2.1,hB.2.2.1,e,decide_eq_true rfl]at h;exact h
end
theorem QE0{p:Pt}{v a b:Int}{dg:Nat}(hk:0<=v)(h:OG p v a b dg=true):p=X9 (JW p)/\Bd (JW p) (v+1).toNat a.toNat (8*dg+8) b:=by
 unfold OG at h;split at h
 ·cases h
 rename_i h0;rw[not_or,Classical.not_not]at h0;obtain⟨h1,h2⟩:=h0;have ho:=Wh h2;have hck:∀x∈p,Jy x.1=0:=λx hx=>(Zn (ho.term x hx)).2.2.2;have hfw:∀x∈p,x.2.sum<=b/\Gd x.1 dg=true:=λx hx=>by
  rw[Bool.not_eq_true',List.any_eq_false]at h;have:=h x hx;rw[Bool.not_eq_true,Bool.or_eq_false_iff,decide_eq_false_iff_not,Bool.not_eq_false']at this;exact⟨O,this.2⟩
 refine⟨QAr hck,ho.can,λt ht=>wk<|ho.wide t ht,λt ht=>?_,by unfold JW;rw[List.length_map];omega,λt ht=>?_⟩
 ·unfold JW at ht;obtain⟨x,hx,rfl⟩:=List.mem_map.1 ht;exact⟨λy hy=>((Zn (ho.term x hx)).2.1 y hy).1,(hfw x hx).1⟩
 unfold JW at ht;obtain⟨x,hx,rfl⟩:=List.mem_map.1 ht;have hl:=(hfw x hx).2;simp only[Gd,Bool.and_eq_true,decide_eq_true_eq]at hl;have:=vz (hck x hx) (k:=2*dg+2) O O;dsimp only;omega
structure Pd(F b T N:Nat)(d:Int)(l:List Tm):Prop where
 len:l.length<=T
 t:∀u∈l,Cl F 1 b u.1/\u.2.length=N/\(∀x∈u.2,0<=x)/\u.2.sum<=d
theorem QAy{l:List Int}{v:Nat}(hv:v<l.length)(z:Int):(l.set v z).sum=l.sum-Qd l v+z:=by
 induction l generalizing v with
 |nil=>simp at hv
 |cons x l ih =>
  cases v with
  |zero=>show z+l.sum=x+l.sum-x+z;omega
  |succ v =>
   have:=ih (v:=v) (by simpa using hv);have d:Qd (x::l) (v+1)=Qd l v:=by simp[Qd]
   show x+(l.set v z).sum=x+l.sum-Qd (x::l) (v+1)+z;rw[this,d];omega
def QDX{n:Int}{c:Nat}(h:n.natAbs<=2^c):Cl 1 1 c (n:Rat):=⟨n,by rw[Nat.pow_one];exact(Rat.ext (Pv n).1.symm (Pv n).2.symm),by simpa using h⟩
section
variable{F E b e T S N:Nat}{d f:Int}{l p q:List Tm}
def Pd.mono{F' b' T':Nat}{d':Int}(h:Pd F b T N d l)(h0:0<F')(hd:F ∣ F')(hb:b<=b')(hT:T<=T')(hK:d<=d'):Pd F' b' T' N d' l :=
 ⟨Nat.le_trans h.len hT,λu hu=>⟨(h.t u hu).1.dvd h0 hd hb,(h.t u hu).2.1,(h.t u hu).2.2.1,Int.le_trans (h.t u hu).2.2.2 hK⟩⟩
theorem Pd.norm(h0:0<F)(h:Pd F b T N d l):Pd F (b+T) T N d (JX l) :=
 ⟨Nat.le_trans (QAM l) h.len,λu hu=>by
  have h1:=QAN (Pw:=λp=>p.length=N/\(∀x∈p,0<=x)/\p.sum<=d) h0 h.t u hu;exact⟨h1.1.mono h0 (Nat.le_refl _) (wk h.len),h1.2⟩⟩
def Pd.app(h:Pd F b T N d p)(k:Pd F b S N d q):Pd F b (T+S) N d (p++q) :=
 ⟨by rw[List.length_append];exact Nat.add_le_add h.len k.len,λu hu=>by
  rcases List.mem_append.1 hu with hu | hu
  ·exact h.t u hu
  exact k.t u hu⟩
def Pd.ex(h:Pd F b T N d l){u:Tm}(hu:u∈l):∀x∈u.2,0<=x/\x<=d:=λx hx=>by
 obtain⟨_,_,h3,h4⟩:=h.t u hu;exact⟨h3 x hx,Int.le_trans (QBX h3 x hx) h4⟩
theorem Pd.zO{v c:Nat}(h:Pd F b T N d l)(hv:v<N)(hK:d<=2^c):Pd F (b+c) T N d (X5 v l) :=
 ⟨Nat.le_trans (dL v l) h.len,λu hu=>by
  obtain⟨t,ht,hd,rfl⟩:=QBn hu;obtain⟨h1,h2,h3,h4⟩:=h.t t ht;have hdm:Qd t.2 v∈t.2:=by rw[Zk O];exact JK O
  have hb:=h.ex ht _ hdm;refine⟨?_,by show(t.2.set v _).length=N;rw[List.length_set];exact h2,λk hk=>?_,?_⟩
  ·have h9:(Qd t.2 v).natAbs<=2^c:=by
    have:((Qd t.2 v).natAbs:Int)<=((2^c:Nat):Int):=by rw[Int.natCast_pow];exact Int.le_trans O hK
    exact_mod_cast this
   have:=h1.QC6 (QDX (n:=Qd t.2 v) (c:=c) h9)
   rwa [Nat.mul_one]at this
  ·rcases List.mem_or_eq_of_mem_set hk with hk | rfl
   ·exact h3 k hk
   omega
  show(t.2.set v _).sum<=d;rw[QAy O];omega⟩
theorem Pd.prod(h:Pd F b T N d p)(k:Pd E e S N f q):Pd (F*E) (b+e) (T*S) N (d+f) (JC p q) :=
 ⟨by rw[Nd];exact Nat.mul_le_mul h.len k.len,λu hu=>by
  obtain⟨s,hs,hu⟩:=List.mem_flatMap.1 hu;obtain⟨t,ht,rfl⟩:=List.mem_map.1 hu;obtain⟨h1,h2,h3,h4⟩:=h.t s hs;obtain⟨k1,k2,k3,k4⟩:=k.t t ht;obtain⟨g3,g4⟩:=cw (a:=s.2) (b:=t.2) O h3 k3;exact⟨h1.QC6 k1,by show(Jq s.2 t.2).length=N;rw[WT O];exact h2,g3,by show(Jq s.2 t.2).sum<=_;omega⟩⟩
def Pd.sz(h0:0<F)(h:Pd F b T N d l){u:Tm}(hu:u∈l):Jn u.1<=b+YtpmehagnedbkhaaGreatDoor.sz (F:Int)+2:=by
 have:=(h.t u hu).1.Jn h0;omega
theorem Pd.Z3(h0:0<F)(h:Pd F b T N d l)(hz:YtpmehagnedbkhaaGreatDoor.sz (F:Int)<=z):YtpmehagnedbkhaaGreatDoor.Z3 l<=T*(b+z+3):=by
 have h1:=OO (l:=l) (k:=b+z+2) λu hu=>wk<|h.sz h0 hu
 exact Nat.le_trans h1 (Nat.mul_le_mul h.len (Nat.le_refl _))
def Pd.wn(h:Pd F b T N d l):WN N l:=⟨λu hu=>(h.t u hu).2.1,λu hu=>(h.t u hu).2.2.1⟩
def Pd.pw(h:Pd F b T N d l)(hN:N<=1000)(hd:d<=1000000):∀u∈l,PW u.2:=λu hu=>⟨λx hx=>wk<|h.ex hu x hx,by rw[(h.t u hu).2.1];exact hN⟩
def Pd.wid(h:Pd F b T N d l):Pd F b T (N+1) d (GZ l 1) :=
 ⟨by rw[qL];exact h.len,λu hu=>by
  obtain⟨t,ht,rfl⟩:=List.mem_map.1 hu;obtain⟨h1,h2,h3,h4⟩:=h.t t ht;refine⟨h1,by simp[h2],λx hx=>?_,?_⟩
  ·rcases List.mem_append.1 hx with hx | hx
   ·exact h3 x hx
   have:x=0:=by simpa using hx
   omega
  show(t.2++List.replicate 1 0).sum<=d;rw[List.sum_append];have:(List.replicate 1 (0:Int)).sum=0:=rfl;omega⟩
def Pd.bq(h0:0<F)(h:Pd F b T N d l)(hc:Canon l)(hT:T<=64)(hd:d<=12){z:Nat}(hz:YtpmehagnedbkhaaGreatDoor.sz (F:Int)<=z)(hb:b+z+2<=1800):Bq N l :=
 ⟨hc,λu hu=>(h.t u hu).2.1,λu hu=>⟨(h.t u hu).2.2.1,Int.le_trans (h.t u hu).2.2.2 hd⟩,Nat.le_trans h.len hT,λu hu=>wk<|h.sz h0 hu⟩
def Pd.tk(h:Pd F b T N d l){s:Nat}(hs:d<=(s:Int)):Se.TmK F b N s l :=
 ⟨λu hu=>(h.t u hu).1,λu hu=>(h.t u hu).2.1,λu hu=>by
  have:=QAz u.2 N (h.t u hu).2.2.1 (h.t u hu).2.1;have:=(h.t u hu).2.2.2;omega⟩
theorem Pd.QFo{y:Nat}(h:Pd F b T N d p)(k:Pd E e S N f q)(h0:0<F)(h1:0<E)(hN:N<=1000)(hd:d+f<=1000000)(hd0:0<=d)(hf0:0<=f)(hT:T<=1000)(hS:S<=1000)(hy:YtpmehagnedbkhaaGreatDoor.sz (F:Int)<=y)(hz:YtpmehagnedbkhaaGreatDoor.sz (E:Int)<=z)(hb:T*(b+y+3)<=20000000)(he:S*(e+z+3)<=20000000)(hbe:T*S*(b+e+(y+z)+3)<=40000000):z8 p q N where
 wp:=λt ht=>(h.t t ht).2.1
 wq:=λt ht=>(k.t t ht).2.1
 lp:=wk h.len
 lq:=wk k.len
 pp:=h.pw hN O
 pq:=k.pw hN O
 pm:=λs hs t ht=>(h.prod k).pw hN hd (s.1*t.1,Jq s.2 t.2) (List.mem_flatMap.2 ⟨s,hs,List.mem_map.2 ⟨t,ht,rfl⟩⟩)
 zp:=Nat.le_trans (h.Z3 h0 hy) hb
 zq:=Nat.le_trans (k.Z3 h1 hz) he
 zm:=Nat.le_trans ((h.prod k).Z3 (Nat.mul_pos h0 h1) (z:=y+z) (wk<|RL F E)) hbe
def Pd.QFy(h:Pd F b T N d p)(k:Pd F b S N d q)(h0:0<F)(hN:N<=1000)(hd:d<=1000000)(hz:YtpmehagnedbkhaaGreatDoor.sz (F:Int)<=z)(hb:(T+S)*(b+z+3)<=40000000)(hT:T<=1000)(hS:S<=1000):yA p q where
 pp:=h.pw hN hd
 pq:=k.pw hN hd
 lp:=wk h.len
 lq:=wk k.len
 zs:=Nat.le_trans ((h.app k).Z3 h0 hz) hb
end
section
variable{Fp E bp br T S N c:Nat}{d f:Int}{rs:List (List Tm)}{p:List Tm}
def Pd.alo(h0:0<Fp)(h1:0<E)(hn:N=rs.length+1)(hm:rs.length<=2)(hp:Pd Fp bp T N d p)(hr:∀k,k<rs.length->Pd E br S N f (el rs k))(hc:d<=2^c)(hf:0<=f):
  ∀k,k<=rs.length->Pd (Fp*E) (bp+c+T+k*(br+T*S+T+2*(T*S))) (T+k*(T*S)) N (d+f) (Wz rs p k)
 |0,_=>((hp.zO (v:=0) (c:=c) O hc).norm h0).mono (Nat.mul_pos h0 h1) (Nat.dvd_mul_right _ _) O O O
 |k+1,hk=>by
  have ih:=Pd.alo h0 h1 hn hm hp hr hc hf k O;have hq:=((((hp.zO (v:=k+1) (c:=c) O hc).norm h0).prod (hr k O)).norm (Nat.mul_pos h0 h1));have hg:=Nat.mul_pos h0 h1;have e1:(k+1)*(br+T*S+T+2*(T*S))=k*(br+T*S+T+2*(T*S))+(br+T*S+T+2*(T*S)):=by rw[Nat.succ_mul]
  have e2:(k+1)*(T*S)=k*(T*S)+T*S:=by rw[Nat.succ_mul]
  have e3:k*(T*S)<=1*(T*S):=Nat.mul_le_mul_right _ O;have hB:bp+c+T+br+T*S<=bp+c+T+k*(br+T*S+T+2*(T*S))+br+T*S:=O;have ih':=ih.mono (b':=bp+c+T+k*(br+T*S+T+2*(T*S))+br+T*S) hg (Nat.dvd_refl _) O (Nat.le_refl _) (Int.le_refl _);have hq':=hq.mono (b':=bp+c+T+k*(br+T*S+T+2*(T*S))+br+T*S) hg (Nat.dvd_refl _) hB (Nat.le_refl _) (Int.le_refl (d+f));exact((ih'.app hq').norm hg).mono hg (Nat.dvd_refl _) O O (Int.le_refl _)
def Pd.QFx{y:Nat}(h0:0<Fp)(h1:0<E)(hn:N=rs.length+1)(hm:rs.length<=2)(hp:Pd Fp bp T N d p)(hr:∀k,k<rs.length->Pd E br S N f (el rs k))(hc:d<=2^c)(hf:0<=f)(hd:0<=d)(hdf:d+f<=1000)(hT:T<=64)(hS:S<=10)(hy:YtpmehagnedbkhaaGreatDoor.sz (Fp:Int)<=y)(hz:YtpmehagnedbkhaaGreatDoor.sz (E:Int)<=z)(hY:y<=1000)(hZ:z<=1000)(hb:bp<=1000)(hbr:br<=1000)(hcc:c<=100):UD rs p N where
 n:=hn
 n1:=O
 lp:=wk hp.len
 pw:=λt ht=>⟨hp.pw O O t ht,(hp.t t ht).2.1⟩
 sp:=λt ht=>wk<|hp.sz h0 ht
 zO:=λv hv=>by
  have h2:=(hp.zO (v:=v) (c:=c) O hc).Z3 h0 hy;have h3:T*(bp+c+y+3)<=64*3000:=Nat.mul_le_mul hT O;omega
 mul:=λk hk=>by
  have h2:=((hp.zO (v:=k+1) (c:=c) O hc).norm h0);have h3:T*(bp+c+T+y+3)<=64*3000:=Nat.mul_le_mul hT O;have h4:S*(br+z+3)<=10*3000:=Nat.mul_le_mul hS O;have h5:T*S<=64*10:=Nat.mul_le_mul hT hS;have h6:T*S*(bp+c+T+br+(y+z)+3)<=640*6000:=Nat.mul_le_mul h5 O;exact Pd.QFo h2 (hr k hk) h0 h1 O O hd hf O O hy hz O O O
 add:=λk hk=>by
  have hg:=Nat.mul_pos h0 h1;have h5:T*S<=64*10:=Nat.mul_le_mul hT hS;have h6:k*(T*S)<=1*640:=Nat.mul_le_mul O h5;have h7:k*(br+T*S+T+2*(T*S))<=1*5000:=Nat.mul_le_mul O O;have ih:=(Pd.alo h0 h1 hn hm hp hr hc hf k O).mono (b':=10000) (T':=900) hg (Nat.dvd_refl _) O O (Int.le_refl _);have hq:=(((((hp.zO (v:=k+1) (c:=c) O hc).norm h0).prod (hr k O)).norm hg)).mono (b':=10000) (T':=900) hg (Nat.dvd_refl _) O O (Int.le_refl (d+f));have hs:=RL Fp E;exact Pd.QFy (z:=2000) ih hq hg O O O wu wu wu
end
end Go.Proofs.YtpmehagnedbkhaaGreatDoor
namespace Go.Proofs.YtpmehagnedbkhaaGreatDoor
variable{α:Type}{N b cap i j k n o off z:Nat}{c:Sr×List VO}{a:K8}{cs:List Value}{w:World}{F:Gs}{q:Option Addr}{l:List (List UInt8×List UInt8)}{s:List UInt8}{d:Int}{y:Zh}{xs:List (Fr×Rat)}{ts:List Xa}{S S0:World->Prop}{V:Nat->Value}{bs':List (Nat×Obj)}{A:Se}{rl:List Rw}
open Go.RowKit Ig
section
variable{n:Nat}
def Lq(R:Nat->Pq n)(x:Pq n):Nat->Pq n
 |0=>Pq.D 0 x
 |k+1=>Lq R x k+Pq.D (k+1) x*R k
def QCJ(R:Nat->Pq n)(x y:Pq n):∀k,Lq R (x+y) k=Lq R x k+Lq R y k
 |0=>Pq.dz 0 x y
 |k+1=>by rw[Lq,Lq,Lq,QCJ R x y k,Pq.dz,Pq.add_mul];ac_rfl
def QCI(R:Nat->Pq n)(x y:Pq n):∀k,k<n->Lq R (x*y) k=Lq R x k*y+x*Lq R y k
 |0,h=>Pq.zM h x y
 |k+1,h=>by
  rw[Lq,Lq,Lq,QCI R x y k O,Pq.zM h,Pq.add_mul,Pq.add_mul,Pq.mul_add];have e1:Pq.D (k+1) x*y*R k=Pq.D (k+1) x*R k*y:=by ac_rfl
  have e2:x*Pq.D (k+1) y*R k=x*(Pq.D (k+1) y*R k):=by ac_rfl
  rw[e1,e2];ac_rfl
def Eo{rs:List (List Tm)}{p:List Tm}(hp:WN n p)(hr:∀k,k<rs.length->WN n (el rs k)):∀k,k<=rs.length->WN n (Wz rs p k)
 |0,_=>(hp.zO 0).norm
 |k+1,h=>((Eo hp hr k O).app (((hp.zO (k+1)).norm).prod (hr k O)).norm).norm
def B3(rs:List (List Tm))(p:List Tm):∀k,Canon (Wz rs p k)
 |0=>Zg _
 |k+1=>Zg _
def rsQ{rs:List (List Tm)}(hr:∀k,k<rs.length->WN n (el rs k))(k:Nat):Pq n:=if h:k<rs.length then Pq.mk (el rs k) (hr k h)else Pq.O
def Iy{rs:List (List Tm)}{p:List Tm}(hp:WN n p)(hr:∀k,k<rs.length->WN n (el rs k)):∀k (h:k<=rs.length),Pq.mk (Wz rs p k) (Eo hp hr k h)=Lq (rsQ hr) (Pq.mk p hp) k
 |0,h=>by
  show Pq.mk (JX (X5 0 p)) _=_;rw[DY (hp.zO 0)];rfl
 |k+1,h=>by
  have ih:=Iy hp hr k O;have h1:=(hp.zO (k+1)).norm;have h2:=h1.prod (hr k O);have h3:=Eo hp hr k O;show Pq.mk (JX (Wz rs p k++JX (JC (JX (X5 (k+1) p)) (el rs k)))) _=_;rw[DY (h3.app h2.norm),<-jv h3 h2.norm,DY h2,<-ju h1 (hr k O),DY (hp.zO (k+1)),ih,Lq];have e:rsQ hr k=Pq.mk (el rs k) (hr k O):=dif_pos (show k<rs.length by omega);rw[e];rfl
def dO{p q:List Tm}(hp:WN n p)(hq:WN n q)(cp:Canon p)(cq:Canon q)(e:Pq.mk p hp=Pq.mk q hq):p=q:=B1 cp cq (Pq.eqv e)
variable{rs:List (List Tm)}{p q:List Tm}
def QDd(hn:n=rs.length+1)(hp:WN n p)(hq:WN n q)(hr:∀k,k<rs.length->WN n (el rs k)):
  Wz rs (JX (JC p q)) rs.length=JX (JX (JC (Wz rs p rs.length) q)++JX (JC p (Wz rs q rs.length))):=by
 have h1:=Eo hp hr rs.length (Nat.le_refl _);have h2:=Eo hq hr rs.length (Nat.le_refl _);have h3:=h1.prod hq;have h4:=hp.prod h2;refine dO (Eo (hp.prod hq).norm hr _ (Nat.le_refl _)) (h3.norm.app h4.norm).norm (B3 _ _ _) (Zg _) ?_;rw[Iy (hp.prod hq).norm hr rs.length (Nat.le_refl _),DY (hp.prod hq),<-ju hp hq,QCI _ _ _ _ O,DY (h3.norm.app h4.norm),<-jv h3.norm h4.norm,DY h3,DY h4,<-ju h1 hq,<-ju hp h2,Iy hp hr rs.length (Nat.le_refl _),Iy hq hr rs.length (Nat.le_refl _)]
def QDe(hp:WN n p)(hq:WN n q)(hr:∀k,k<rs.length->WN n (el rs k)):
  Wz rs (JX (p++q)) rs.length=JX (Wz rs p rs.length++Wz rs q rs.length):=by
 have h1:=Eo hp hr rs.length (Nat.le_refl _);have h2:=Eo hq hr rs.length (Nat.le_refl _);refine dO (Eo (hp.app hq).norm hr _ (Nat.le_refl _)) (h1.app h2).norm (B3 _ _ _) (Zg _) ?_;rw[Iy (hp.app hq).norm hr rs.length (Nat.le_refl _),DY (hp.app hq),<-jv hp hq,QCJ,DY (h1.app h2),<-jv h1 h2,Iy hp hr rs.length (Nat.le_refl _),Iy hq hr rs.length (Nat.le_refl _)]
end
namespace Se
def cY{ks:List Int}{m:Nat}:Qd (ks++List.replicate 1 0) m=Qd ks m:=by
 unfold Qd;by_cases h:m<ks.length
 ·rw[dif_pos h,dif_pos w6,List.getElem_append_left h]
 rw[dif_neg h];by_cases h2:m<(ks++List.replicate 1 (0:Int)).length
 ·rw[dif_pos h2,List.getElem_append_right O,List.getElem_replicate]
 rw[dif_neg h2]
def cS{W X:Nat->Se}{ks:List Int}:∀m,(∀v,v<m->X v=W v)->Ez X (ks++List.replicate 1 0) m=Ez W ks m
 |0,_=>rfl
 |m+1,h=>by rw[Ez,Ez,cS m λv hv=>h v O,cY,h m O]
def vG{W X:Nat->Se}{N:Nat}(h:∀v,v<N->X v=W v):∀ {l:List Tm},Xw N l->cmp X (GZ l 1)=cmp W l
 |[],_=>rfl
 |t::l,hl=>by
  have ih:=vG h hl.tail;have ht:t.2.length=N:=hl t wz;show C t.1*Ez X (t.2++List.replicate 1 0) (t.2++List.replicate 1 0).length+cmp X (GZ l 1)=C t.1*Ez W t.2 t.2.length+cmp W l;rw[ih,show(t.2++List.replicate 1 (0:Int)).length=N+1 by simp[ht],Ez,cS N h,cY,show Qd t.2 N=0 from by unfold Qd;rw[dif_neg O],ht];show C t.1*(Ez W t.2 N*C 1)+cmp W l=_;rw[mul_one]
def cg{rs:List (List Tm)}{p:List Tm}{W:Nat->Se}(hp:WN (rs.length+1) p)(hr:∀k,k<rs.length->WN (rs.length+1) (el rs k))(h0:W 0=T)(hd:∀k,k<rs.length->D (W (k+1))=cmp W (el rs k)):∀k,k<=rs.length->cmp W (Wz rs p k)=sum (λj=>cmp W (X5 j p)*D (W j)) (k+1)
 |0,_=>by
  show cmp W (JX (X5 0 p))=zeroS+cmp W (X5 0 p)*D (W 0);rw[L0 W (eqv_norm _),h0,D_T,mul_one,QEC]
 |k+1,h=>by
  have ih:=cg hp hr h0 hd k O;show cmp W (JX (Wz rs p k++JX (JC (JX (X5 (k+1) p)) (el rs k))))=sum _ (k+1)+cmp W (X5 (k+1) p)*D (W (k+1));rw[L0 W (eqv_norm _),C3,ih,L0 W (eqv_norm _),xi W (hp.zO (k+1)).norm (hr k O),L0 W (eqv_norm (X5 (k+1) p)),hd k O]
theorem QCr{rs:List (List Tm)}{st:List Rat}{p:List Tm}(hr:∀k,k<rs.length->WN (rs.length+1) (el rs k))(hp:WN (rs.length+1) p)(hs:st.length=rs.length){v:Nat}(hv:v<=rs.length+1):
  Hi ((rs.map λq=>GZ q 1)++[GZ (Wz rs p rs.length) 1]) (st++[cmp (Hi rs st) p 0]) v=if v<=rs.length then Hi rs st v else cmp (Hi rs st) p:=by
 have hl:((rs.map λq=>GZ q 1)++[GZ (Wz rs p rs.length) 1]).length=rs.length+1:=wz;have hrm:∀q∈rs,WN (rs.length+1) q:=λq hq=>by
  obtain⟨i,hi,rfl⟩:=List.getElem_of_mem hq;rw[<-J4 hi];exact hr i hi
 have hal:=Eo hp hr rs.length (Nat.le_refl _);have hw:∀q∈(rs.map λq=>GZ q 1)++[GZ (Wz rs p rs.length) 1],Xw (((rs.map λq=>GZ q 1)++[GZ (Wz rs p rs.length) 1]).length+1) q:=λq hq=>by
  rw[hl];have key:∀l:List Tm,Xw (rs.length+1) l->Xw (rs.length+1+1) (GZ l 1):=λl h t ht=>by
   obtain⟨u,hu,rfl⟩:=List.mem_map.1 ht;have:=h u hu;simp[this]
  rcases List.mem_append.1 hq with hq | hq
  ·obtain⟨r,hr2,rfl⟩:=List.mem_map.1 hq;exact key r (hrm r hr2).w
  rw[List.mem_singleton.1 hq];exact key _ hal.w
 have hS:=pL (st:=st) λq hq=>(hrm q hq).w;have elA:∀j,j<rs.length->el ((rs.map λq=>GZ q 1)++[GZ (Wz rs p rs.length) 1]) j=GZ (el rs j) 1:=λj hj=>by
  rw[J4 w6,List.getElem_append_left (by simpa using hj),List.getElem_map,J4 hj]
 have elB:el ((rs.map λq=>GZ q 1)++[GZ (Wz rs p rs.length) 1]) rs.length=GZ (Wz rs p rs.length) 1:=by
  rw[J4 wz,List.getElem_append_right wz];simp
 have stA:∀j,j<rs.length->el (st++[cmp (Hi rs st) p 0]) j=el st j:=λj hj=>by
  rw[J4 w6,List.getElem_append_left O,J4 O]
 have stB:el (st++[cmp (Hi rs st) p 0]) rs.length=cmp (Hi rs st) p 0:=by
  rw[J4 w6,List.getElem_append_right O];simp
 refine Sol.eq (pL hw) (Y:=λv=>if v<=rs.length then Hi rs st v else cmp (Hi rs st) p) ⟨?_,λv hv=>?_,λv hv=>?_⟩ hw O
 ·show(if 0<=rs.length then _ else _)=_;rw[if_pos (Nat.zero_le _)];exact hS.t
 ·rw[hl]at hv;show(if v+1<=rs.length then Hi rs st (v+1)else cmp (Hi rs st) p) 0=_;by_cases h:v<rs.length
  ·rw[if_pos O,hS.st v h,stA v h]
  obtain rfl:v=rs.length:=O;rw[if_neg O,stB]
 rw[hl]at hv;show D (if v+1<=rs.length then Hi rs st (v+1)else cmp (Hi rs st) p)=_;have hX:∀u,u<rs.length+1->(λv=>if v<=rs.length then Hi rs st v else cmp (Hi rs st) p) u=Hi rs st u:=λu hu=>if_pos (show u<=rs.length by omega);by_cases h:v<rs.length
 ·rw[if_pos O,hS.ode v h,elA v h,vG hX (hr v h).w]
 obtain rfl:v=rs.length:=O;rw[if_neg O,elB,vG hX hal.w,chain (Hi rs st) hp,cg hp hr hS.t (λk hk=>hS.ode k hk) rs.length (Nat.le_refl _)]
end Se
end Go.Proofs.YtpmehagnedbkhaaGreatDoor
namespace Go.Proofs.YtpmehagnedbkhaaGreatDoor
variable{α:Type}{N b cap i j k n o off z:Nat}{c:Sr×List VO}{a:K8}{cs:List Value}{w:World}{F:Gs}{q:Option Addr}{l:List (List UInt8×List UInt8)}{s:List UInt8}{d:Int}{y:Zh}{xs:List (Fr×Rat)}{ts:List Xa}{S S0:World->Prop}{V:Nat->Value}{bs':List (Nat×Obj)}{A:Se}{rl:List Rw}
open Go.RowKit Ig
theorem zQ{lo hi:List UInt8}(hF:Fits F w)(hl:lo.length<=9223372036854775807/\hi.length<=9223372036854775807):Qb prog 126 [.agg #[tx lo,tx hi]] w F (.int .i64 (ZJ lo hi)):=by
 refine QU.intro (G:=λF=>True) func126 rfl wy rfl rfl hF w8<|QGi<|JE rfl (vs:=[_,_]) rfl λb1=>wQ rfl<|QGi<|QA (QH rfl H4 Jk)<|QA (Qh rfl Jk .here .h1)<|QJ rfl (λ_ _ f k=>EI f (hl.1)) λ_=>QF6 rfl<|QE<|QD ?_
 refine X8 [(1,_)] [(3,.int .i64 (Qn [Jy lo,Jy hi]))] wS ?_ ?_
 ·refine wA 6 I ?_;refine QP I (λhc=>?_) λhc=>?_
  ·refine QB<|QA (QH I Bo Jk)<|QA (Qh I Jk .here (.skip .h1))<|QJ I (λ_ _ f k=>EI f (hl.2)) λ_=>wB 2 I ?_
   exact JB ⟨rfl,(congrArg (λz:Int=>some (Value.int .i64 z)) (by simp[Qn];simp at hc;simp[hc])),trivial⟩ QGJ tA
  refine QM ?_;exact JB ⟨rfl,(congrArg (λz:Int=>some (Value.int .i64 z)) (by simp[Qn];simp at hc;simp[hc])),trivial⟩ QGJ w9
 simp only[List.cons_append,List.nil_append];refine wA 6 I ?_;refine Qe (t:=14) rfl (λhb14=>?_) λhb14=>?_
 ·refine QK I I ?_;obtain⟨k1,k2⟩:=ET (by simpa using hb14);refine QA (QH I H4 Jk)<|QK I I<|QA (Qh I Jk .here .h1)<|QK I I<|QA (QH I Bo Jk)<|QK I I<|QA (Qh I Jk .here (.skip .h1))<|QK I I<|QJ I (λ_ _ f k=>Cz f (k1) (k2)) λ_=>QHB 5 I ?_
  refine QP I (λhc=>?_) λhc=>?_
  ·refine wA 6 I ?_;exact QHT I I (congrArg (Value.int .i64) (by unfold ZJ;rw[if_pos (by simpa using hb14),if_pos (QGx hc)])) w8
  refine QHC 9 I ?_;exact QHT I I (congrArg (Value.int .i64) (by unfold ZJ;rw[if_pos (by simpa using hb14),if_neg (QGy hc)];symm;simpa using hb14)) w8
 refine QHB 9 I<|Xo I<|QHC 9 I ?_
 exact QHT I I (congrArg (Value.int .i64) (by unfold ZJ;rw[if_neg (by simpa using hb14)])) w8
theorem yj{c:Nat}(hF:Fits F w)(hR:Qy F q n 2 (l.flatMap Ny))(hl:l.length=n/\∀s∈l,s.1.length<=9223372036854775807/\s.2.length<=9223372036854775807)(hn:n<=1000000):Qb prog 38 [.slice q n c] w F (.int .i64 (Qn (l.map λp=>ZJ p.1 p.2))):=by
 have hln:=hl.1;refine QU.intro (G:=λF=>Qy F q n 2 (l.flatMap Ny)) func38 rfl wy rfl rfl hF (λF' hF'=>hR.le hF')<|QGi<|wQ rfl<|QG<|QGi<|wQ rfl<|QS<|J2 (ι:=Zc l λp=>ZJ p.1 p.2) [(0,_)] (λi=>[(3,.int .i64 ((i.i:Nat):Int))]) (λi=>l.length-i.i) (Zc.start _ _) wS wS λi=>?_
 simp only[List.cons_append,List.nil_append];refine wA 5 I<|QA (Qf I YP)<|QHB 3 I ?_
 refine QP I (λhc=>?_) λhc=>?_
 ·have hi:i.i<l.length:=wk<|QGx hc
  refine QHC 8 I<|QA (Q2 (n:=n) i.i w9 rfl rfl YP Xx O)<|QA (XZ (n:=n) (vs:=[tx (el l i.i).1,tx (el l i.i).2]) ((i.i)*2) w9 O I Xx I λj v hv=>Jg (f:=Ny) (l:=l) Gi O hv)<|QJ I (λ_ _ f k=>zQ f (hl.2 _ (JK hi))) λ_=>QHB 9 I ?_
  refine QP I (λhc=>?_) λhc=>?_
  ·refine wA 7 I ?_
   repeat first|refine Qw ?_|refine Qp ?_
   exact QHT I I (congrArg (Value.int .i64) (i.hit hi (by simpa using hc))) w8
  refine QM<|Qi<|QHD 3 I<|QA (Qm I I O)<|wB 2 I ?_
  exact Qj (i.next hi (by simpa using hc)) (by show l.length-(i.i+1)<l.length-i.i;omega) wT QGJ tA
 have hi:l.length<=i.i:=wk<|QGy hc
 refine Qv ?_
 repeat first|refine QV ?_|refine QQ wy ?_
 refine QW<|QHD 7 I ?_
 exact QHT I I (congrArg (Value.int .i64) (i.stop hi)) w8
structure vi(y:Zh):Prop where
 nn:y.nm.n<=1000000
 nc:y.nm.n<=y.nm.cap
 nt:∀s∈y.nl,s.length<=9223372036854775807
 rn:y.rt.n<=9223372036854775807
 tm:∀e∈y.rl,e.2.length=e.1.n/\(∀t∈e.2,t.f.length<=9223372036854775807/\t.k.length<=9223372036854775807)/\e.2.length<=9223372036854775807
 sn:y.st.n<=9223372036854775807
 st:∀s∈y.sl,s.1.length<=9223372036854775807/\s.2.length<=9223372036854775807
def kI(h:Jy s=0):s.length<=4804:=by
 have h1:=V7 h;have h2:=GI (Yn s);rw[<-(Zb h).1]at h2;omega
theorem vi.t(h:vi y)(hy:Yl F y)(he:y.e=0):Nb y:=by
 have ho:=hy.ok he;have h1:=ho.n1;refine⟨h.nn,h.nc,h.nt,wk ho.rn,λe hem=>⟨(h.tm e hem).1,λt ht=>?_,?_⟩,wk ho.sn,λs hs=>?_⟩
 ·have h2:=(ho.pl e hem).term (t.f,t.k) (List.mem_map.2 ⟨t,ht,rfl⟩);have h3:=kI (Zn h2).2.2.2;have h4:=(Zn h2).1;dsimp only at h3 h4;exact⟨O,O⟩
 ·have:=(ho.pl e hem).len;simp only[J0,List.length_map]at this;omega
 have h2:=Eb (ho.st s hs);exact⟨wk<|kI h2.1,wk<|kI h2.2.1⟩
theorem QCs(hF:Fits F w)(hGl:JG F)(hy:Yl F y)(ht:vi y):Qb prog 23 [y.v] w F (.int .i64 y.e):=by
 obtain⟨⟨qn,nn,cn⟩,nl,⟨qr,nr,cr⟩,rl,⟨qs,ns,cs⟩,sl⟩:=y;have hnl:=hy.AL;have hrl:=hy.N4;have hsl:=hy.RG;have hnn:=ht.nn;have hrn:=ht.rn;have hsn:=ht.sn;dsimp only at *
 dsimp only[Zh.v];refine QU.intro (G:=λF=>JG F/\Yl F ⟨⟨qn,nn,cn⟩,nl,⟨qr,nr,cr⟩,rl,⟨qs,ns,cs⟩,sl⟩) func23 rfl wy rfl rfl hF (λF' hF'=>⟨hGl.le hF',hy.le hF'⟩)<|QGi<|JE rfl (vs:=[_,_,_]) rfl λb1=>wQ rfl<|QGi<|QA (QH rfl WB YR)<|QA (Qh rfl YR .here .h1)<|QA (Qf rfl Yf)<|wQ rfl<|QG<|wR rfl<|QA (QN rfl rfl rfl)<|QE<|QD ?_
 refine QP I (λhc2=>?_) λhc2=>?_
 ·have h11:nl.length=0:=by have:(nn:Int)=0:=eq_of_beq hc2;omega
  refine wA 6 I ?_;exact QHT I I (congrArg (Value.int .i64) (by show BB nl (rl.map λe=>J0 e.2) sl=12;unfold BB;rw[if_pos h11])) w8
 have h11:nl.length≠0:=by have:¬(nn:Int)=0:=(by simpa using hc2);omega
 refine QHC 9 I ?_;refine QP I (λhc2=>?_) λhc2=>?_
 ·have h13:nl.length>24:=wk<|QGx hc2
  refine wA 6 I ?_;exact QHT I I (congrArg (Value.int .i64) (by show BB nl (rl.map λe=>J0 e.2) sl=5;unfold BB;rw[if_neg h11,if_pos h13])) w8
 have h13:¬nl.length>24:=wk<|QGy hc2
 refine QHC 3 I ?_;refine X8 [(1,_),(3,_)] [(25,.bool (((nr:Int) != nn||(ns:Int) != nn)))] wT ?_ ?_
 ·refine QB<|QA (QH I Pl H9)<|QA (Qh I H9 .here (.skip .h1))<|QA (Qf I W1)<|wB 3 I ?_
  refine Qe (t:=19) rfl (λhb19=>?_) λhb19=>?_
  ·refine wB 7 I ?_;exact JB ⟨rfl,rfl,(congrArg (λb=>some (Value.bool b)) (by rw[hb19];rfl)),trivial⟩ QGJ w9
  refine QK I I<|QA (QH I Bp WG)<|QK I I<|QA (Qh I WG .here (.skip (.skip .h1)))<|QK I I<|QA (Qf I YP)<|wB 6 I ?_
  exact JB ⟨rfl,rfl,(congrArg (λb=>some (Value.bool b)) (by rw[hb19];rfl)),trivial⟩ QGJ w9
 simp only[List.cons_append,List.nil_append];refine QP I (λhc2=>?_) λhc2=>?_
 ·have h25:(rl.map λe=>J0 e.2).length≠nl.length\/sl.length≠nl.length:=by simp only[Bool.or_eq_true,bne_iff_ne]at hc2;rw[List.length_map];omega
  refine wA 6 I ?_;exact QHT I I (congrArg (Value.int .i64) (by show BB nl (rl.map λe=>J0 e.2) sl=2;unfold BB;rw[if_neg h11,if_neg h13,if_pos h25])) w8
 have h25:(rl.map λe=>J0 e.2).length=nl.length/\sl.length=nl.length:=by simp only[Bool.or_eq_false_iff,bne_eq_false_iff_eq]at hc2;rw[List.length_map];omega
 have h25r:rl.length=nl.length:=by rw[<-h25.1,List.length_map]
 refine QHC 9 I<|J2 (ι:=Zc (List.range nl.length) (BG nl)) [(1,_),(3,_)] (λi=>[(4,.int .i64 ((i.i:Nat):Int))]) (λi=>nl.length-i.i) (Zc.start _ _) wT wS λi=>?_
 simp only[List.cons_append,List.nil_append];have hi:=i.le;rw[List.length_range]at hi;refine wA 8 I ?_;refine QP I (λhc2=>?_) λhc2=>?_
 ·have hlt:i.i<nl.length:=wk<|QGx hc2
  have hem:=JK hlt;refine QHC 7 I<|QA (QH I WB YR)<|QA (Qh I YR .here .h1)<|QF5 I<|QA (Q2 (n:=nn) i.i (λF h9=>h9.2.nm) rfl rfl Yf Hx O)<|QA (Qz (n:=nn) ((i.i)*1) (λF h9=>h9.2.nm) O I Hx (ZD (f:=tx) (l:=nl) O))<|QJ I (λ_ _ f k=>gK f (ht.nt _ hem)) λ_=>QA (Jw I)<|QE<|QD ?_
  refine QP I (λhc2=>?_) λhc2=>?_
  ·have h37:(!Cp (el nl i.i))=true:=hc2;have hnE:BG nl i.i≠0:=by unfold BG;rw[if_pos h37,Kh wu];decide
   refine wA 6 I ?_
   repeat first|refine Qw ?_|refine Qp ?_
   exact QHT I I (congrArg (Value.int .i64) (by show BB nl (rl.map λe=>J0 e.2) sl=8;rw[qW h11 h13 h25];have h9:=i.hit (by rw[List.length_range];exact hlt) (by rw[VN hlt];exact hnE);rw[VN hlt]at h9;rw[show Gb nl=BG nl i.i from h9,Kh hnE];unfold BG;rw[if_pos h37,Kh wu])) w8
  have h37:(!Cp (el nl i.i))=false:=hc2;refine QHC 3 I<|JL QGJ mixed wm<|QL (QH I WB YR)<|QL (Qh I YR .here .h1)<|QL (QC I)<|QL (Ra i.i I I I Yf Hx (by have:=ht.nc;dsimp only at this;omega))<|QL (QH I WB YR)<|QL (Qh I YR .here .h1)<|QL (QC I)<|QL (Q2 (n:=nn) i.i (λF h9=>h9.1.2.nm) rfl rfl Yf Hx O)<|QL (Qz (n:=nn) ((i.i)*1) (λF h9=>h9.1.2.nm) O I Hx (ZD (f:=tx) (l:=nl) O))<|Qc I (λ_ _ f k=>QEc f (Qy.uz (l:=nl) k.1.2.nm hnl hi) (by rw[List.length_take];omega) O) λ_=>Q3<|QD ?_
  refine QP I (λhc2=>?_) λhc2=>?_
  ·have h47:decide (el nl i.i∈nl.take i.i)=true:=hc2;have hnE:BG nl i.i≠0:=by unfold BG;rw[if_neg (by rw[h37];decide),if_pos h47,WO,Kh wu];decide
   refine wA 6 I ?_
   repeat first|refine Qw ?_|refine Qp ?_
   exact QHT I I (congrArg (Value.int .i64) (by show BB nl (rl.map λe=>J0 e.2) sl=9;rw[qW h11 h13 h25];have h9:=i.hit (by rw[List.length_range];exact hlt) (by rw[VN hlt];exact hnE);rw[VN hlt]at h9;rw[show Gb nl=BG nl i.i from h9,Kh hnE];unfold BG;rw[if_neg (by rw[h37];decide),if_pos h47,WO,Kh wu])) w8
  have h47:decide (el nl i.i∈nl.take i.i)=false:=hc2;refine QM<|Qi<|QHD 3 I<|QA (Qm I I O)<|wB 2 I ?_
  exact Qj (i.next (by rw[List.length_range];exact hlt) (by rw[VN hlt];unfold BG;rw[if_neg (by rw[h37];decide),if_neg (by rw[h47];decide)];rfl)) (by show nl.length-(i.i+1)<nl.length-i.i;omega) wU QGJ λF h=>h.1.1
 have hge:nl.length<=i.i:=wk<|QGy hc2
 have hnz:Gb nl=0:=i.stop (by rw[List.length_range];exact hge);refine Qv ?_
 repeat first|refine QV ?_|refine QQ wy ?_
 refine QW<|QHD 8 I<|J2 (ι:=Zc rl λe=>XB (J0 e.2) (nn:Int)) [(1,_),(3,_)] (λi2=>[(5,.int .i64 ((i2.i:Nat):Int))]) (λi2=>rl.length-i2.i) (Zc.start _ _) wT wS λi2=>?_
 simp only[List.cons_append,List.nil_append];have hi2:=i2.le;refine wA 8 I ?_;refine QP I (λhc2=>?_) λhc2=>?_
 ·have hlt2:i2.i<rl.length:=wk<|QGx hc2
  have hem:=JK hlt2;refine QHC 6 I<|QA (QH I Pl H9)<|QA (Qh I H9 .here (.skip .h1))<|QF5 I<|QA (Q2 (n:=nr) (i2.i) (λF h9=>h9.2.rt) rfl rfl W1 Gh O)<|QA (Qz (n:=nr) ((i2.i)*1) (λF h9=>h9.2.rt) O I Gh (ZD (f:=λe:K8=>e.1.v) (l:=rl) O))<|QF5 I<|QJ I (λ_ _ f k=>El (q:=(el rl i2.i).1.q) (n:=(el rl i2.i).1.n) (cap:=(el rl i2.i).1.cap) f k.1 (k.2.pl _ hem).1 (k.2.pl _ hem).2 (ht.tm _ hem).1 (λt htt=>wk<|(ht.tm _ hem).2.1 t htt) (wk<|(ht.tm _ hem).2.2) O) λ_=>QHB 9 I ?_
  refine QP I (λhc2=>?_) λhc2=>?_
  ·have h61:=bne_iff_ne.1 hc2;refine wA 7 I ?_
   repeat first|refine Qw ?_|refine Qp ?_
   exact QHT I I (congrArg (Value.int .i64) (by show BB nl (rl.map λe=>J0 e.2) sl=_;rw[qW h11 h13 h25,hnz,WO,List.map_map,hnl];have h9:=i2.hit hlt2 h61;rw[show Qn (rl.map ((λp=>XB p (nn:Int))∘λe=>J0 e.2))=XB (J0 (el rl i2.i).2) (nn:Int)from h9,Kh h61])) w8
  have h61:=bne_eq_false_iff_eq.1 hc2;refine QM<|Qi<|QHD 3 I<|QA (Qm I I O)<|wB 2 I ?_
  exact Qj (i2.next hlt2 h61) (by show rl.length-(i2.i+1)<rl.length-i2.i;omega) wU QGJ tA
 have hge2:rl.length<=i2.i:=wk<|QGy hc2
 refine Qv ?_
 repeat first|refine QV ?_|refine QQ wy ?_
 refine QW<|QD<|QGi<|QA (QH I Bp WG)<|QA (Qh I WG .here (.skip (.skip .h1)))<|QJ I (λ_ _ f k=>yj f k.2.st ⟨hsl,ht.st⟩ (wk h25.2)) λ_=>wQ I<|QT ?_
 exact QHT I I (congrArg (Value.int .i64) (by show BB nl (rl.map λe=>J0 e.2) sl=_;rw[qW h11 h13 h25,hnz,WO,List.map_map,hnl];have h9:=i2.stop hge2;rw[show Qn (rl.map ((λp=>XB p (nn:Int))∘λe=>J0 e.2))=0 from h9,WO,xK])) w8
def Fj(y:Zh)(v:Int):Bool:=!(decide ((y.nm.n:Int)>v)||(y.e != 0)||!(decide ((y.st.n:Int)<=v)&&y.sl.all (Ax 9)))
def O9(y:Zh)(v t d:Int):Bool:=Fj y v&&y.rl.all λe=>OG (J0 e.2) (y.nm.n:Int) t d 9
def kq{v:Int}(h:Fj y v=true):(y.nm.n:Int)<=v/\y.e=0/\(y.st.n:Int)<=v/\∀s∈y.sl,Ax 9 s=true:=by
 unfold Fj at h;simp only[Bool.not_eq_true',Bool.or_eq_false_iff,Bool.not_eq_false',bne_eq_false_iff_eq,decide_eq_false_iff_not,Bool.and_eq_true,decide_eq_true_eq,List.all_eq_true]at h;exact⟨O,h.1.2,h.2.1,h.2.2⟩
def exY(s:List UInt8×List UInt8):Bool:=s.1==s.2
theorem pR(hF:Fits F w)(hy:Yl F y)(hn:y.st.n<=9223372036854775807):Qb prog 32 [y.v] w F (.bool (y.sl.all exY)):=by
 have hsl:=hy.RG;refine QU.intro (G:=λF=>Yl F y) func32 rfl wy rfl rfl hF (λF' hF'=>hy.le hF')<|QGi<|JE rfl (vs:=[_,_,_]) rfl λb1=>wQ rfl<|QG<|QGi<|wQ rfl<|QS<|J2 (ι:=Gg y.sl exY) [(1,_)] (λi=>[(3,.int .i64 ((i.i:Nat):Int))]) (λi=>y.sl.length-i.i) (Gg.start _ _) wS wS λi=>?_
 simp only[List.cons_append,List.nil_append];have hi:=i.le;refine wA 4 I<|QA (QH I Bp WG)<|QA (Qh I WG .here (.skip (.skip .h1)))<|QA (Qf I YP)<|QHB 3 I ?_
 refine QP I (λhc2=>?_) λhc2=>?_
 ·have hlt:i.i<y.sl.length:=wk<|QGx hc2
  have hem:=JK hlt;refine QHC 5 I<|JL QGJ mixed wm<|QL (QH I Bp WG)<|QL (Qh I WG .here (.skip (.skip .h1)))<|QL (QC I)<|QL (Q2 (n:=y.st.n) i.i (λF hy=>hy.st) rfl rfl YP Xx O)<|QL (QH I H4 Jk)<|QL (Qz (n:=y.st.n) ((i.i)*2+0) (λF hy=>hy.st) O I Jk (Jg (f:=Ny) (l:=y.sl) Gi O I))<|QL (QH I Bp WG)<|QL (Qh I WG .here (.skip (.skip .h1)))<|QL (QC I)<|QL (Q2 (n:=y.st.n) i.i (λF hy=>hy.st) rfl rfl YP Xx O)<|QL (QH I Bo Jk)<|QL (Qz (n:=y.st.n) ((i.i)*2+1) (λF hy=>hy.st) O I Jk (Jg (f:=Ny) (l:=y.sl) Gi O I))<|QL (TL I I)<|Q3<|QD ?_
  refine QP I (λhc2=>?_) λhc2=>?_
  ·have h23:exY (el y.sl i.i)=false:=by have h:=hc2;rw[Bool.not_eq_true']at h;exact h
   refine wA 6 I ?_
   repeat first|refine Qw ?_|refine Qp ?_
   exact QHT I I (congrArg Value.bool (i.hit hlt h23)) w8
  have h23:exY (el y.sl i.i)=true:=by have h:=hc2;rw[Bool.not_eq_false']at h;exact h
  refine QM<|Qi<|QHD 3 I<|QA (Qm I I O)<|wB 2 I ?_
  exact Qj (i.next hlt h23) (by show y.sl.length-(i.i+1)<y.sl.length-i.i;omega) wT QGJ w9
 have hge:y.sl.length<=i.i:=wk<|QGy hc2
 refine Qv ?_
 repeat first|refine QV ?_|refine QQ wy ?_
 refine QW<|QHD 7 I ?_
 exact QHT I I (congrArg Value.bool (i.stop hge)) w8
theorem QCv{v t:Int}(hF:Fits F w)(hGl:JG F)(hy:Yl F y)(hu:y.nm.n<=24->vi y)(hv:v<=24):Qb prog 39 [y.v,.int .i64 v,.int .i64 t,.int .i64 d] w F (.bool (O9 y v t d)):=by
 have hnl:=hy.AL;have hrl:=hy.N4;have hsl:=hy.RG;refine QU.intro (G:=λF=>JG F/\Yl F y) func39 rfl wy rfl rfl hF (λF' hF'=>⟨hGl.le hF',hy.le hF'⟩)<|QGi<|JE rfl (vs:=[_,_,_]) rfl λb4=>wQ rfl<|QG ?_
 refine X8 [(2,_),(3,_),(4,_)] [(26,.bool (!(Fj y v)))] wU ?_ ?_
 ·refine QB<|QA (QH I WB YR)<|QA (Qh I YR .here .h1)<|QA (Qf I Yf)<|wB 3 I ?_
  refine Qe (t:=15) rfl (λhb15=>?_) λhb15=>?_
  ·refine wB 12 I ?_;exact JB ⟨rfl,rfl,rfl,(congrArg (λb=>some (Value.bool b)) (by unfold Fj;rw[Bool.not_not,hb15];rfl)),trivial⟩ QGJ w9
  have ht:vi y:=hu (wk<|QGy hb15);refine QK I I<|QA (wI I Y3 .here)<|QK I I<|QJ I (λ_ _ f k=>QCs (y:=y) f k.1 k.2 ht) λ_=>wB 4 I ?_
  refine Qe (t:=20) rfl (λhb20=>?_) λhb20=>?_
  ·refine wB 7 I ?_;exact JB ⟨rfl,rfl,rfl,(congrArg (λb=>some (Value.bool b)) (by unfold Fj;rw[Bool.not_not,hb15,hb20];rfl)),trivial⟩ QGJ tA
  refine QK I I<|QA (QH I Bp WG)<|QK I I<|QA (Qh I WG .here (.skip (.skip .h1)))<|wB 3 I<|QJ I (λ_ _ f k=>LO f k.1.2.st hsl O (by have:=(k.1.2.ok (bne_eq_false_iff_eq.1 hb20)).sn;have:=ht.nn;omega)) λ_=>QK I I<|QA (Jw I)<|wB 2 I ?_
  exact JB ⟨rfl,rfl,rfl,(congrArg (λb=>some (Value.bool b)) (by unfold Fj;rw[Bool.not_not,hb15,hb20];rfl)),trivial⟩ QGJ λ_ h=>h.1.1
 simp only[List.cons_append,List.nil_append];refine QP I (λhc2=>?_) λhc2=>?_
 ·have h26:Fj y v=false:=by simpa using hc2
  refine wA 6 I ?_;exact QHT I I (congrArg Value.bool (by unfold O9;rw[h26];rfl)) w8
 have h26:Fj y v=true:=by simpa using hc2
 obtain⟨hv1,he1,hv2,hs1⟩:=kq h26;have ht:vi y:=hu O;have ho:=hy.ok he1;have hon:=ho.n1;have hor:=ho.rn;refine QHC 9 I<|J2 (ι:=Gg y.rl λe=>OG (J0 e.2) (y.nm.n:Int) t d 9) [(2,_),(3,_),(4,_)] (λi=>[(9,.int .i64 ((i.i:Nat):Int))]) (λi=>y.rl.length-i.i) (Gg.start _ _) wU wS λi=>?_
 simp only[List.cons_append,List.nil_append];have hi:=i.le;refine wA 4 I<|QA (QH I Pl H9)<|QA (Qh I H9 .here (.skip .h1))<|QA (Qf I W1)<|QHB 3 I ?_
 refine QP I (λhc2=>?_) λhc2=>?_
 ·have hlt:i.i<y.rl.length:=wk<|QGx hc2
  have hem:=JK hlt;refine QHC 5 I<|JL QGJ mixed wm<|QL (QH I Pl H9)<|QL (Qh I H9 .here (.skip .h1))<|QL (QC I)<|QL (Q2 (n:=y.rt.n) i.i (λF h9=>h9.2.rt) rfl rfl W1 Gh O)<|QL (Qz (n:=y.rt.n) ((i.i)*1) (λF h9=>h9.2.rt) O I Gh (ZD (f:=λe:K8=>e.1.v) (l:=y.rl) O))<|QL (QH I WB YR)<|QL (Qh I YR .here .h1)<|QL (Qf I Yf)<|QL (QC I)<|QL (QC I)<|Qc I (λ_ _ f k=>Uo (q:=(el y.rl i.i).1.q) (n:=(el y.rl i.i).1.n) (cap:=(el y.rl i.i).1.cap) f k.1 (k.2.pl _ hem).1 (k.2.pl _ hem).2 (ht.tm _ hem).1 (λt htt=>(ht.tm _ hem).2.1 t htt) (ht.tm _ hem).2.2 O O) λ_=>QL (Jw I)<|Q3<|QD ?_
  refine QP I (λhc2=>?_) λhc2=>?_
  ·have h45:OG (J0 (el y.rl i.i).2) (y.nm.n:Int) t d 9=false:=by simpa using hc2
   refine wA 6 I ?_
   repeat first|refine Qw ?_|refine Qp ?_
   exact QHT I I (congrArg Value.bool (by unfold O9;rw[h26,i.hit hlt h45];rfl)) w8
  have h45:OG (J0 (el y.rl i.i).2) (y.nm.n:Int) t d 9=true:=by simpa using hc2
  refine QM<|Qi<|QHD 3 I<|QA (Qm I I O)<|wB 2 I ?_
  exact Qj (i.next hlt h45) (by show y.rl.length-(i.i+1)<y.rl.length-i.i;omega) wV QGJ tA
 have hge:y.rl.length<=i.i:=wk<|QGy hc2
 refine Qv ?_
 repeat first|refine QV ?_|refine QQ wy ?_
 refine QW<|QHD 7 I ?_
 exact QHT I I (congrArg Value.bool (by unfold O9;rw[h26,i.stop hge];rfl)) w8
theorem QEU(hF:Fits F w)(hGl:JG F)(hy:Yl F y)(hu:y.nm.n<=24->vi y)(hsn:y.st.n<=9223372036854775807):Qb prog 6 [y.v] w F (.bool (O9 y 2 3 2&&y.sl.all exY)):=by
 refine QU.intro (G:=λF=>JG F/\Yl F y) func6 rfl wy rfl rfl hF (λF' hF'=>⟨hGl.le hF',hy.le hF'⟩)<|QGi<|JE rfl (vs:=[_,_,_]) rfl λb1=>wQ rfl<|QGi<|QA (wI I Y3 .here)<|QJ rfl (λ_ _ f k=>QCv (y:=y) f k.1 k.2 hu O) λ_=>QF5 rfl ?_
 refine Qe (t:=5) rfl (λhb5=>?_) λhb5=>?_
 ·refine QK I I<|QA (wI I Y3 .here)<|QK I I<|QJ I (λ_ _ f k=>pR (y:=y) f k.1.2 hsn) λ_=>QHB 5 I ?_
  exact QHT I I (congrArg Value.bool (by rw[hb5];rfl)) w8
 refine QHB 7 I ?_;exact QHT I I (congrArg Value.bool (by rw[hb5];rfl)) w8
theorem cB(hF:Fits F w)(hGl:JG F)(hy:Yl F y)(hn:y.nm.n<=24)(hR:Qy F a.1.q a.1.n 2 (a.2.flatMap KI))(hA:Zz F a.2)(hln:a.2.length=a.1.n)(hf:∀t∈a.2,t.f.length<=9223372036854775807/\t.k.length<=9223372036854775807)(hl:a.2.length<=9223372036854775807):Qb prog 7 [a.1.v,y.v] w F (.bool (OG (J0 a.2) (y.nm.n:Int) 3 2 4)):=by
 refine QU.intro (G:=λF=>JG F/\Yl F y/\Qy F a.1.q a.1.n 2 (a.2.flatMap KI)/\Zz F a.2) func7 rfl wy rfl rfl hF (λF' hF'=>⟨hGl.le hF',hy.le hF',hR.le hF',hA.le hF'⟩)<|QGi<|JE rfl (vs:=[_,_,_]) rfl λb3=>wQ rfl<|wR rfl<|QA (QH rfl WB YR)<|QA (Qh rfl YR .here .h1)<|QA (Qf rfl Yf)<|QJ rfl (λ_ _ f k=>Uo f k.1 k.2.2.1 k.2.2.2 hln hf hl O O) λ_=>wQ rfl<|QT ?_
 exact QHT I I (rfl) w8
def QBh{p:Pt}{n T dg:Nat}{b:Int}(h:OG p (n:Int) (T:Int) b (dg:Int)=true)(hz:10^dg<=2^z):p=X9 (JW p)/\Canon (JW p)/\(JW p).length<=T/\∀u∈JW p,Jn u.1<=z/\u.2.length=n+1/\(∀x∈u.2,0<=x)/\u.2.sum<=b:=by
 obtain⟨h1,h2⟩:=QE0 O h;refine⟨h1,h2.can,wk h2.ln,λu hu=>⟨?_,wk<|h2.wd u hu,(h2.nn u hu).1,(h2.nn u hu).2⟩⟩;unfold OG at h;split at h
 ·cases h
 rw[Bool.not_eq_true',List.any_eq_false]at h;unfold JW at hu;obtain⟨x,hx,rfl⟩:=List.mem_map.1 hu;have h3:=h x hx;rw[Bool.not_eq_true,Bool.or_eq_false_iff,Bool.not_eq_false',decide_eq_false_iff_not]at h3;exact cX h3.2 hz
def QDy{l:List Tm}{c:List Rat}{T:Nat}(hl:l.length<=T)(h:∀u∈l,Jn u.1<=z/\u.2.length=N/\(∀x∈u.2,0<=x)/\u.2.sum<=d)(hc:∀u∈l,u.1∈c):Pd (yo c) z T N d l :=
 ⟨hl,λu hu=>⟨QBv (SA _) (jF (hc u hu)) (h u hu).1,(h u hu).2⟩⟩
def dR(y:Zh):Nat:=yo (QBk y.rs)
def dS(y:Zh):Nat:=yo y.s0
def dP(P:List Tm):Nat:=yo (P.map (·.1))
structure Lz(y:Zh):Prop where
 m1:1<=y.rs.length
 m2:y.rs.length<=2
 nm:y.nm.n=y.rs.length
 s0:y.s0.length=y.rs.length
 ex:∀s∈y.sl,s.1=s.2
 can:∀p∈y.rs,Canon p
 r:∀k,k<y.rs.length->Pd (dR y) 30 3 (y.rs.length+1) 2 (el y.rs k)
 s:∀v,v<y.rs.length->Cl (dS y) 1 30 (el y.s0 v)
 zr:sz ((dR y:Nat):Int)<=181
 zs:sz ((dS y:Nat):Int)<=61
def WD(y:Zh):0<dR y:=SA _
def P4(y:Zh):0<dS y:=SA _
def ZY(P:List Tm):0<dP P:=SA _
theorem QD4(hy:Yl F y)(hf:O9 y 2 3 2=true)(he:y.sl.all exY=true):Lz y:=by
 unfold O9 at hf;rw[Bool.and_eq_true,List.all_eq_true]at hf;obtain⟨h1,h2⟩:=hf;obtain⟨v1,e1,v2,s1⟩:=kq h1;have ho:=hy.ok e1;have hrl:=hy.N4;have hsl:=hy.RG;have hn0:=ho.n0;have hrs:y.rs.length=y.nm.n:=by have:=ho.rn;simp only[Zh.rs,List.length_map];omega
 have hs0:y.s0.length=y.rs.length:=by have:=ho.sn;simp only[Zh.s0,Zh.vs,List.length_map];omega
 have hP:∀p∈y.rs,Canon p/\p.length<=3/\∀u∈p,Jn u.1<=30/\u.2.length=y.nm.n+1/\(∀x∈u.2,0<=x)/\u.2.sum<=2:=λp hp=>by
  obtain⟨e,hem,rfl⟩:=List.mem_map.1 hp;exact(QBh (T:=3) (dg:=9) (h2 e hem) wu).2
 have hS:∀r∈y.s0,Jn r<=30:=λr hr=>by
  obtain⟨x,hx,rfl⟩:=List.mem_map.1 hr;obtain⟨s,hs,rfl⟩:=List.mem_map.1 hx;have h3:=s1 s hs;unfold Ax at h3;rw[Bool.and_eq_true]at h3;exact cX (d:=9) h3.1 wu
 refine⟨O,O,O,hs0,λs hs=>?_,λp hp=>(hP p hp).1,λk hk=>?_,λv hv=>?_,?_,?_⟩
 ·have:=(List.all_eq_true.1 he) s hs;unfold exY at this;exact eq_of_beq this
 ·have hm:=JK hk;rw[hrs];exact QDy (hP _ hm).2.1 (hP _ hm).2.2 λu hu=>List.mem_flatMap.2 ⟨_,hm,List.mem_map_of_mem hu⟩
 ·have hm:=JK (show v<y.s0.length by omega);exact QBv (SA _) (jF hm) (hS _ hm)
 ·have h3:=C0 (k:=30) (l:=QBk y.rs) λr hr=>by
   obtain⟨q,hq,hr⟩:=List.mem_flatMap.1 hr;obtain⟨u,hu,rfl⟩:=List.mem_map.1 hr;exact((hP q hq).2.2 u hu).1
  have h4:=dJ λp hp=>(hP p hp).2.1;have h5:(QBk y.rs).length*30<=6*30:=Nat.mul_le_mul_right _ O;unfold dR;omega
 have h3:=C0 (k:=30) (l:=y.s0) hS;have h5:y.s0.length*30<=2*30:=Nat.mul_le_mul_right _ O;unfold dS;omega
section
variable{y:Zh}(h:Lz y)
include h
open Se
theorem Lz.wn(hk:k<y.rs.length):WN (y.rs.length+1) (el y.rs k):=(h.r k hk).wn
theorem Lz.mem{p:List Tm}(hp:p∈y.rs):Pd (dR y) 30 3 (y.rs.length+1) 2 p:=by
 obtain⟨i,hi,rfl⟩:=List.getElem_of_mem hp;rw[<-J4 hi];exact h.r i hi
theorem Lz.gr:∀n,n<=5->∀v,v<=y.rs.length->Gr (sN (dR y*12) (dS y) 1) 71 30 n (Hi y.rs y.s0 v) :=
 QA3 (F:=dR y) (Bc:=30) (Iv:=12) (d:=2) (T:=3) (o:=4) (WD y) (Nat.mul_pos (WD y) wu) (P4 y) rfl wu wu (λp hp=>⟨(h.mem hp).tk wu,(h.mem hp).len⟩) h.s wu
theorem Lz.zg:sz ((dR y*12:Nat):Int)<=185:=by
 have:=RL (dR y) 12;have:sz (((12:Nat):Nat):Int)=4:=wu;have:=h.zr;omega
theorem Lz.sNz(hk:k<5):sz ((sN (dR y*12) (dS y) 1 k:Nat):Int)<=1048:=by
 have h1:=h.zg;have h2:=h.zs;have h3:=RL ((dR y*12)^k) (dS y^(1*k+1));have h4:=zU (dR y*12) k;have h5:=zU (dS y) (1*k+1);have h6:k*sz ((dR y*12:Nat):Int)<=4*185:=Nat.mul_le_mul O h1;have h7:(1*k+1)*sz ((dS y:Nat):Int)<=5*61:=Nat.mul_le_mul O h2;unfold sN;omega
end
theorem QA5{F G E al be B Bc s T f g e:Nat}{rs:List (List Tm)}{st:List Rat}(hF:0<F)(hG:0<G)(hE:0<E)(ho:o<=16)(hW:∀v,v<rs.length+1->Se.Gr (sN G E al) be B (o+1) (Se.Hi rs st v))(hr:∀k,k<rs.length->Se.TmK F Bc (rs.length+1) s (el rs k)/\(∀t∈el rs k,PW t.2)/\(el rs k).length<=T)
  (hf:sz ((F:Nat):Int)<=f) (hg:sz ((G:Nat):Int)<=g) (he:sz ((E:Nat):Int)<=e) (hz:be*o+Bc+s*(B+o)+T+B+o+3*(f+(o*g+1)+((al*o+s+1)*e+1))<=40000000):dh rs st o :=
 ⟨ho,λk hk v hv=>by
  obtain⟨h1,h2,h3⟩:=hr v hv;refine Se.zN.of (F:=F) (G:=G) (E:=E) (al:=al) (be:=be) (B:=B) (Bc:=Bc) (T:=T) (f:=f) (g:=g) (e:=e) hF hG hE (λu hu i hi=>?_) h1 h2 h3 hf hg he ?_
  ·rw[<-Se.yV rs st k u i O];exact hW u hu i O
  have a1:be*(k+1)<=be*o:=Nat.mul_le_mul_left _ O;have a2:s*(B+(k+1))<=s*(B+o):=Nat.mul_le_mul_left _ O;have a3:(k+1)*g<=o*g:=Nat.mul_le_mul_right _ O;have a4:(al*(k+1)+s+1)*e<=(al*o+s+1)*e:=Nat.mul_le_mul_right _ (by have:=Nat.mul_le_mul_left al (show k+1<=o by omega);omega);omega⟩
section
variable{y:Zh}(h:Lz y)
include h
open Se
theorem Lz.ser:dh y.rs y.s0 4 :=
 QA5 (F:=dR y) (G:=dR y*12) (E:=dS y) (al:=1) (be:=71) (B:=30) (Bc:=30) (s:=2) (T:=3) (f:=181) (g:=185) (e:=61) (WD y) (Nat.mul_pos (WD y) wu) (P4 y) wu (λv hv=>h.gr 5 (Nat.le_refl _) v O) (λk hk=>⟨(h.r k hk).tk wu,(h.r k hk).pw (wk h.m2) wu,(h.r k hk).len⟩) h.zr h.zg h.zs wu
theorem Lz.sys:ue y 4:=⟨h.ser,h.ex,λv hv k hk=>by
 have:=h.nm;have:=(h.gr 5 (Nat.le_refl _) v O).sz (Z:=1048) (qw (Nat.mul_pos (WD y) wu) (P4 y)) (λk hk=>h.sNz hk) hk;omega⟩
end
structure Lp(y:Zh)(P:List Tm):Prop where
 can:Canon P
 p:Pd (dP P) 14 3 (y.rs.length+1) 2 P
 z:sz ((dP P:Nat):Int)<=43
theorem QBV{p:Pt}(h:Lz y)(hp:OG p (y.nm.n:Int) 3 2 4=true):p=X9 (JW p)/\Lp y (JW p):=by
 obtain⟨h1,h2,h3,h4⟩:=QBh (T:=3) (dg:=4) (z:=14) hp wu;refine⟨h1,h2,?_,?_⟩
 ·rw[<-h.nm];exact QDy h3 h4 λu hu=>List.mem_map_of_mem hu
 have h5:=C0 (k:=14) (l:=(JW p).map (·.1)) λr hr=>by
  obtain⟨u,hu,rfl⟩:=List.mem_map.1 hr;exact(h4 u hu).1
 have h6:((JW p).map (·.1)).length*14<=3*14:=Nat.mul_le_mul_right _ (by rw[List.length_map];exact h3);unfold dP;omega
def RI(y:Zh)(L:List Tm):List Tm:=Wz y.rs L y.rs.length
def yL{F T:Nat}{l:List Tm}(h0:0<F)(h:Pd F b T N d l)(hN:N<=1000)(hT:T<=64)(hd0:0<=d)(hd:d<=12)(hz:sz (F:Int)<=z)(hb:b+z+2<=1800):de l where
 deg:=by
  cases l with
  |nil=>show(0:Int)<=12;decide
  |cons t l=>show t.2.sum<=12;have:=(h.t t wz).2.2.2;omega
 len:=Nat.le_trans h.len hT
 gn:=by
  unfold GJ;rw[List.any_eq_false];intro t ht;rw[Bool.not_eq_true];exact W2 (show Jn t.1<=1800 from wk<|h.sz h0 ht) (Nat.le_refl _)
 pw:=h.pw hN O
 sz:=λt ht=>wk<|h.sz h0 ht
section
variable{y:Zh}(h:Lz y)
include h
open Se
theorem Lz.lie{F T c z:Nat}{L:List Tm}(h0:0<F)(hp:Pd F b T (y.rs.length+1) d L)(hc:d<=2^c):Pd (F*dR y) (b+c+T+2*(30+T*3+T+2*(T*3))) (T+2*(T*3)) (y.rs.length+1) (d+2) (RI y L):=by
 have hm:=h.m2;have h1:=Pd.alo h0 (WD y) rfl hm hp h.r hc wu y.rs.length (Nat.le_refl _);have a1:y.rs.length*(30+T*3+T+2*(T*3))<=2*(30+T*3+T+2*(T*3)):=Nat.mul_le_mul_right _ hm;have a2:y.rs.length*(T*3)<=2*(T*3):=Nat.mul_le_mul_right _ hm;exact h1.mono (Nat.mul_pos h0 (WD y)) (Nat.dvd_refl _) O O (Int.le_refl _)
theorem Lz.aok{F T c:Nat}{L:List Tm}(h0:0<F)(hp:Pd F b T (y.rs.length+1) d L)(hc:d<=2^c)(hd0:0<=d)(hd:d<=100)(hT:T<=64)(hz:sz (F:Int)<=z)(hz2:z<=1000)(hb:b<=1000)(hcc:c<=100):UD y.rs L (y.rs.length+1) :=
 Pd.QFx h0 (WD y) rfl h.m2 hp h.r hc wu hd0 O hT wu hz h.zr hz2 wu hb wu hcc
theorem Lz.QDq{F Bc T s:Nat}{L:List Tm}(h0:0<F)(hp:Pd F Bc T (y.rs.length+1) d L)(hs:d<=(s:Int))(hd:d<=100)(hz:sz (F:Int)<=z)(hb:284+Bc+s*35+T+(z+741+((4+s)*61+1))+2<=1800):
  zN (Hi y.rs y.s0) L (y.rs.length+1) 5/\(∀k,k<5->Jn (cmp (Hi y.rs y.s0) L k)<=1800)/\Gr (mN F (dR y*12) (dS y) 1 s) 71 (Bc+s*35+T) 5 (cmp (Hi y.rs y.s0) L):=by
 have hm:=h.m2;have hG:=Nat.mul_pos (WD y) (show 0<12 by decide);have hW:∀v,v<y.rs.length+1->Gr (sN (dR y*12) (dS y) 1) 71 30 5 (Hi y.rs y.s0 v):=λv hv=>h.gr 5 (Nat.le_refl _) v O;have h1:=vI h0 hG (P4 y) hW (hp.tk hs);have h2:Gr (mN F (dR y*12) (dS y) 1 s) 71 (Bc+s*35+T) 5 (cmp (Hi y.rs y.s0) L):=h1.mono (EN h0 hG (P4 y) s) (λ_=>Nat.dvd_refl _) (wk hp.len);refine⟨zN.of h0 hG (P4 y) hW (hp.tk hs) (hp.pw O O) hp.len hz h.zg h.zs O,λk hk=>?_,h2⟩;have h3:=(h2 k hk).Jn (EN h0 hG (P4 y) s k);have h4:=QD3 (F:=F) (G:=dR y*12) (E:=dS y) (al:=1) (s:=s) (k:=k) hz h.zg h.zs;have h5:k*185<=4*185:=Nat.mul_le_mul_right _ O;have h6:(1*k+s)*61<=(4+s)*61:=Nat.mul_le_mul_right _ O;omega
end
section
variable{y:Zh}{P Q:List Tm}(h:Lz y)(hp:Lp y P)(hq:Lp y Q)
include h hp hq
omit hq in
theorem Lp.bq:Bq (y.rs.length+1) P:=hp.p.bq (ZY P) hp.can wu wu hp.z wu
omit h in
theorem zpq:sz ((dP P*dP Q:Nat):Int)<=86:=by have:=RL (dP P) (dP Q);have:=hp.z;have:=hq.z;omega
theorem QCl:sz ((dP P*dP Q*dR y:Nat):Int)<=267:=by have:=RL (dP P*dP Q) (dR y);have:=zpq hp hq;have:=h.zr;omega
omit hq in
theorem zpr:sz ((dP P*dR y:Nat):Int)<=224:=by have:=RL (dP P) (dR y);have:=hp.z;have:=h.zr;omega
omit h in
theorem QC2:Pd (dP P*dP Q) 37 9 (y.rs.length+1) 4 (JX (JC P Q)):=(hp.p.prod hq.p).norm (Nat.mul_pos (ZY P) (ZY Q))
omit h in
theorem QEd:Pd (dP P*dP Q) 20 6 (y.rs.length+1) 2 (JX (P++Q)) :=
 have h0:=Nat.mul_pos (ZY P) (ZY Q)
 ((hp.p.mono h0 (Nat.dvd_mul_right _ _) (Nat.le_refl _) (Nat.le_refl _) (Int.le_refl _)).app (hq.p.mono h0 (Nat.dvd_mul_left _ _) (Nat.le_refl _) (Nat.le_refl _) (Int.le_refl _))).norm h0
omit h in
theorem QE8:Bq (y.rs.length+1) (JX (JC P Q)):=(QC2 hp hq).bq (Nat.mul_pos (ZY P) (ZY Q)) (Zg _) wu wu (zpq hp hq) wu
omit h in
theorem QFt:Bq (y.rs.length+1) (JX (P++Q)):=(QEd hp hq).bq (Nat.mul_pos (ZY P) (ZY Q)) (Zg _) wu wu (zpq hp hq) wu
omit hq in
theorem QBN:Pd (dP P*dR y) 138 21 (y.rs.length+1) 4 (RI y P):=h.lie (z:=0) (c:=1) (ZY P) hp.p wu
theorem QD0:Pd (dP P*dP Q*dR y) 288 63 (y.rs.length+1) 6 (RI y (JX (JC P Q))):=h.lie (z:=0) (c:=2) (Nat.mul_pos (ZY P) (ZY Q)) (QC2 hp hq) wu
theorem QDz:Pd (dP P*dP Q*dR y) 207 42 (y.rs.length+1) 4 (RI y (JX (P++Q))):=h.lie (z:=0) (c:=1) (Nat.mul_pos (ZY P) (ZY Q)) (QEd hp hq) wu
omit hq in
theorem QDa:Bq (y.rs.length+1) (RI y P):=(QBN h hp).bq (Nat.mul_pos (ZY P) (WD y)) (B3 _ _ _) wu wu (zpr h hp) wu
theorem QD9:Bq (y.rs.length+1) (RI y (JX (JC P Q))):=(QD0 h hp hq).bq (Nat.mul_pos (Nat.mul_pos (ZY P) (ZY Q)) (WD y)) (B3 _ _ _) wu wu (QCl h hp hq) wu
theorem QD8:Bq (y.rs.length+1) (RI y (JX (P++Q))):=(QDz h hp hq).bq (Nat.mul_pos (Nat.mul_pos (ZY P) (ZY Q)) (WD y)) (B3 _ _ _) wu wu (QCl h hp hq) wu
omit hq in
theorem QCp:de (RI y P):=yL (z:=224) (Nat.mul_pos (ZY P) (WD y)) (QBN h hp) (wk h.m2) wu wu wu (zpr h hp) wu
theorem QFh:de (RI y (JX (JC P Q))):=yL (z:=267) (Nat.mul_pos (Nat.mul_pos (ZY P) (ZY Q)) (WD y)) (QD0 h hp hq) (wk h.m2) wu wu wu (QCl h hp hq) wu
theorem QFg:de (RI y (JX (P++Q))):=yL (z:=267) (Nat.mul_pos (Nat.mul_pos (ZY P) (ZY Q)) (WD y)) (QDz h hp hq) (wk h.m2) wu wu wu (QCl h hp hq) wu
omit hq in
theorem QDc:UD y.rs P (y.rs.length+1):=h.aok (c:=1) (z:=43) (ZY P) hp.p wu wu wu wu hp.z wu wu wu
theorem QFw:UD y.rs (JX (JC P Q)) (y.rs.length+1):=h.aok (c:=2) (z:=86) (Nat.mul_pos (ZY P) (ZY Q)) (QC2 hp hq) wu wu wu wu (zpq hp hq) wu wu wu
theorem QFv:UD y.rs (JX (P++Q)) (y.rs.length+1):=h.aok (c:=1) (z:=86) (Nat.mul_pos (ZY P) (ZY Q)) (QEd hp hq) wu wu wu wu (zpq hp hq) wu wu wu
theorem bqX:Bq (y.rs.length+1) (JX (JC (RI y P) Q)):=by
 have h0:=Nat.mul_pos (Nat.mul_pos (ZY P) (WD y)) (ZY Q);refine(((QBN h hp).prod hq.p).norm h0).bq h0 (Zg _) wu wu (z:=267) ?_ wu;have:=RL (dP P*dR y) (dP Q);have:=zpr h hp;have:=hq.z;omega
theorem bqY:Bq (y.rs.length+1) (JX (JC P (RI y Q))):=by
 have h0:=Nat.mul_pos (ZY P) (Nat.mul_pos (ZY Q) (WD y));refine((hp.p.prod (QBN h hq)).norm h0).bq h0 (Zg _) wu wu (z:=267) ?_ wu;have:=RL (dP P) (dP Q*dR y);have:=zpr h hq;have:=hp.z;omega
theorem QDu:JX (JX (JC (RI y P) Q)++JX (JC P (RI y Q)))=RI y (JX (JC P Q)) :=
 (QDd I hp.p.wn hq.p.wn λk hk=>h.wn hk).symm
theorem QEA:JX (RI y P++RI y Q)=RI y (JX (P++Q)) :=
 (QDe hp.p.wn hq.p.wn λk hk=>h.wn hk).symm
omit hq in
theorem pO:Se.zN (Se.Hi y.rs y.s0) P (y.rs.length+1) 5/\(∀k,k<5->Jn (Se.cmp (Se.Hi y.rs y.s0) P k)<=1800)/\Se.Gr (mN (dP P) (dR y*12) (dS y) 1 2) 71 87 5 (Se.cmp (Se.Hi y.rs y.s0) P) :=
 have h1:=h.QDq (s:=2) (z:=43) (ZY P) hp.p wu wu hp.z wu
 ⟨h1.1,h1.2.1,h1.2.2⟩
theorem QDr:Se.zN (Se.Hi y.rs y.s0) (JX (JC P Q)) (y.rs.length+1) 5/\(∀k,k<5->Jn (Se.cmp (Se.Hi y.rs y.s0) (JX (JC P Q)) k)<=1800) :=
 have h1:=h.QDq (s:=4) (z:=86) (Nat.mul_pos (ZY P) (ZY Q)) (QC2 hp hq) wu wu (zpq hp hq) wu
 ⟨h1.1,h1.2.1⟩
theorem QEY:Se.cmp (Se.Hi y.rs y.s0) (JX (JC P Q))=Se.cmp (Se.Hi y.rs y.s0) P*Se.cmp (Se.Hi y.rs y.s0) Q:=by
 rw[Se.L0 _ (eqv_norm _),Se.xi _ hp.p.wn hq.p.wn]
end
theorem zi:∀ {a b:List Int},a.length=b.length->ZU (a++List.replicate 1 0) (b++List.replicate 1 0)=ZU a b
 |[],[],_=>rfl
 |x::a,y::b,h=>by
  show(decide (y<x)||(decide (x=y)&&ZU (a++List.replicate 1 0) (b++List.replicate 1 0)))=(decide (y<x)||(decide (x=y)&&ZU a b));rw[zi (by simpa using h)]
def cC(a:List Int):(a++List.replicate 1 0).sum=a.sum:=by
 rw[List.sum_append];show a.sum+0=_;omega
theorem zz{l:List Tm}(h:Canon l)(hw:Xw N l):Canon (GZ l 1):=by
 refine⟨?_,λt ht=>?_⟩
 ·unfold GZ;rw[List.pairwise_map];refine h.gF.imp_of_mem λ{a b} ha hb hab=>?_;have e1:=hw a ha;have e2:=hw b hb;show before (a.2++List.replicate 1 0) (b.2++List.replicate 1 0)=true;unfold before at hab ⊢;rw[cC,cC,zi O];exact hab
 obtain⟨u,hu,rfl⟩:=List.mem_map.1 ht;exact h.nz u hu
def cU{W:Nat->Se}{xs:List Rat}{ks:List Int}:∀m,(∀v,v<m->W v 0=el xs v)->Se.Ez W ks m 0=Ep 1 xs ks m
 |0,_=>rfl
 |m+1,h=>by
  have hp:∀e:Nat,Se.pw (W m) e 0=(el xs m)^e:=λe=>by
   induction e with
   |zero=>rw[Rat.pow_zero];rfl
   |succ e ih=>rw[Se.pw,Se.Lg,ih,h m O,Rat.pow_succ]
  rw[Se.Ez,Se.Lg,cU m λv hv=>h v O,hp,Bv]
def cd{W:Nat->Se}{xs:List Rat}(h:∀v,v<N->W v 0=el xs v):∀ {l:List Tm},Xw N l->Se.cmp W l 0=Ay xs l
 |[],_=>rfl
 |t::l,hl=>by
  have ih:=cd h hl.tail;have ht:t.2.length=N:=hl t wz;have e:Se.cmp W (t::l)=Se.C t.1*Se.Ez W t.2 t.2.length+Se.cmp W l:=rfl;rw[e,Se.Yj,Se.qG,ih,CA,CA,Z0,ht,cU N h];unfold QAP;rw[ht]
section
variable{y:Zh}{P:List Tm}(h:Lz y)(hp:Lp y P)
def vx(y:Zh)(P:List Tm):Rat:=Se.cmp (Se.Hi y.rs y.s0) P 0
def rx(y:Zh)(P:List Tm):List (List Tm):=(y.rs.map λq=>GZ q 1)++[GZ (RI y P) 1]
def sx(y:Zh)(P:List Tm):List Rat:=y.s0++[vx y P]
def QEZ(y:Zh)(P:List Tm):(rx y P).length=y.rs.length+1:=by simp[rx]
include h hp
theorem QDl:Jn (vx y P)<=1800:=(pO h hp).2.1 0 wu
theorem QA1(hs:∀s∈y.sl,ZJ s.1 s.2=0):pA (X9 P) (([48],[48])::y.sl)=((JO (vx y P),JO (vx y P)),0):=by
 have hS:=Se.pL (rs:=y.rs) (st:=y.s0) λp hp=>(h.mem hp).wn.w;have hm1:=h.m1;have hm2:=h.m2;have hsl:y.sl.length=y.rs.length:=by have:=h.s0;simpa[Zh.s0,Zh.vs]using this
 have hln:(([48],[48])::y.sl).length=y.rs.length+1:=by simp[hsl]
 have hbq:=Lp.bq h hp;have e1:PG (X9 P) (([48],[48])::y.sl).length=0:=by
  have z1:(if decide (((y.rs.length+1:Nat):Int)=0)=true then(2:Int)else 0)=0:=if_neg (by rw[decide_eq_true_eq];omega);have z2:(if decide (((y.rs.length+1:Nat):Int)>25)=true then(5:Int)else 0)=0:=if_neg (by rw[decide_eq_true_eq];omega);unfold PG;rw[hln,z1,z2];exact(if_pos rfl).trans (hbq.I8 (v:=((y.rs.length+1:Nat):Int)-1) O)
 have e2:Qn ((([48],[48])::y.sl).map λs=>ZJ s.1 s.2)=0:=Wt λx hx=>by
  obtain⟨s,hs2,rfl⟩:=List.mem_map.1 hx;rcases List.mem_cons.1 hs2 with rfl | hs2
  ·decide +kernel
  exact hs s hs2
 have e3:B0 ((([48],[48])::y.sl).map ZR) P=(vx y P,vx y P):=by
  have hpt:∀i,i<((([48],[48])::y.sl).map ZR).length->el ((([48],[48])::y.sl).map ZR) i=(el ((0:Rat)::y.s0) i,el ((0:Rat)::y.s0) i):=λi hi=>by
   cases i with
   |zero=>show ZR ([48],[48])=(0,0);decide +kernel
   |succ i =>
    have hi2:i<y.sl.length:=by simpa using hi
    have a1:el ((([48],[48])::y.sl).map ZR) (i+1)=ZR (el y.sl i):=by
     rw[J4 hi,J4 hi2];simp
    have a2:el ((0:Rat)::y.s0) (i+1)=(ZR (el y.sl i)).1:=by
     rw[J4 (by simpa[Zh.s0,Zh.vs]using hi2),J4 hi2];simp[Zh.s0,Zh.vs]
    rw[a1,a2];have:=h.ex _ (JK hi2);unfold ZR;rw[<-this]
  rw[zk (xs:=(0:Rat)::y.s0) (λt ht=>⟨by rw[List.length_map,hln,hp.p.wn.w t ht];exact Nat.le_refl _,hp.p.wn.nn t ht⟩) hpt];have e4:vx y P=Ay ((0:Rat)::y.s0) P:=cd (N:=y.rs.length+1) (λv hv=>by
   cases v with
   |zero=>rw[hS.t];rfl
   |succ v =>
    rw[hS.st v O];have:=h.s0;rw[J4 (show v<y.s0.length by omega),J4 (show v+1<((0:Rat)::y.s0).length by simp;omega)];rfl) hp.p.wn.w
  rw[e4]
 unfold pA;rw[if_pos e1,if_pos e2,YQ,e3];unfold RM;rw[W2 (QDl h hp) (Nat.le_refl _)];rfl
theorem QA2{v:Nat}(hv:v<=y.rs.length+1):Se.Hi (rx y P) (sx y P) v=if v<=y.rs.length then Se.Hi y.rs y.s0 v else Se.cmp (Se.Hi y.rs y.s0) P :=
 Se.QCr (λk hk=>h.wn hk) hp.p.wn h.s0 hv
theorem QDs{q:List Tm}(hq:q∈rx y P):Pd (dP P*dR y) 138 21 (y.rs.length+1+1) 4 q/\Canon q:=by
 have h0:=Nat.mul_pos (ZY P) (WD y);rcases List.mem_append.1 hq with hq | hq
 ·obtain⟨r,hr,rfl⟩:=List.mem_map.1 hq;have h1:=h.mem hr;exact⟨h1.wid.mono h0 (Nat.dvd_mul_left _ _) wu wu wu,zz (h.can r hr) h1.wn.w⟩
 rw[List.mem_singleton.1 hq];have h1:=QBN h hp;exact⟨h1.wid,zz (B3 _ _ _) h1.wn.w⟩
theorem QA7{q:List Tm}(hq:q∈rx y P):Bq (y.rs.length+1+1) q/\de q:=by
 have h0:=Nat.mul_pos (ZY P) (WD y);obtain⟨h1,h2⟩:=QDs h hp hq;exact⟨h1.bq h0 h2 wu wu (zpr h hp) wu,yL (z:=224) h0 h1 (wk h.m2) wu wu wu (zpr h hp) wu⟩
theorem QGR{v:Nat}(hv:v<=y.rs.length+1):Se.Gr (sN (dR y*12) (dP P*(dS y*dS y)) 1) 71 87 5 (Se.Hi (rx y P) (sx y P) v):=by
 have hG:=Nat.mul_pos (WD y) (show 0<12 by decide);have hE:=Nat.mul_pos (ZY P) (Nat.mul_pos (P4 y) (P4 y));rw[QA2 h hp hv];split
 ·rename_i g;refine(h.gr 5 (Nat.le_refl _) v g).mono (qw hG hE) (λk=>?_) wu;unfold sN;exact Nat.mul_dvd_mul (Nat.dvd_refl _) (Nat.pow_dvd_pow_iff O |>.2 (Nat.dvd_trans (Nat.dvd_mul_left _ _) (Nat.dvd_mul_left _ _)))
 refine(pO h hp).2.2.mono (qw hG hE) (λk=>?_) (Nat.le_refl _);unfold sN mN;refine⟨dP P^k*dS y^k,?_⟩;have e1:(dP P*(dS y*dS y))^(1*k+1)=dP P^k*dP P*(dS y^k*dS y*(dS y^k*dS y)):=by
  rw[Nat.one_mul,Nat.mul_pow,Nat.mul_pow,Nat.pow_succ,Nat.pow_succ]
 have e2:dS y^(1*k+2)=dS y^k*dS y*dS y:=by rw[Nat.one_mul,Nat.pow_succ,Nat.pow_succ]
 rw[e1,e2]
 ac_rfl
theorem zE:sz ((dP P*(dS y*dS y):Nat):Int)<=165:=by
 have:=RL (dP P) (dS y*dS y);have:=RL (dS y) (dS y);have:=hp.z;have:=h.zs;omega
theorem QFj:dh (rx y P) (sx y P) 4:=by
 have hl:=QEZ y P;refine QA5 (F:=dP P*dR y) (G:=dR y*12) (E:=dP P*(dS y*dS y)) (al:=1) (be:=71) (B:=87) (Bc:=138) (s:=4) (T:=21) (f:=224) (g:=185) (e:=165) (Nat.mul_pos (ZY P) (WD y)) (Nat.mul_pos (WD y) wu) (Nat.mul_pos (ZY P) (Nat.mul_pos (P4 y) (P4 y))) wu (λv hv=>QGR h hp O) (λk hk=>?_) (zpr h hp) h.zg (zE h hp) wu;have h1:=(QDs h hp (JK hk)).1;rw[hl];exact⟨h1.tk wu,h1.pw (wk h.m2) wu,h1.len⟩
theorem QFi{z:Zh}(hr:z.rs=rx y P)(hs:z.s0=sx y P)(hl:z.sl=y.sl++[(JO (vx y P),JO (vx y P))])(hn:z.nm.n=y.nm.n+1):ue z 4:=by
 refine⟨by rw[hr,hs];exact QFj h hp,λs hs=>?_,λv hv k hk=>?_⟩
 ·rw[hl]at hs;rcases List.mem_append.1 hs with hs | hs
  ·exact h.ex s hs
  rw[List.mem_singleton.1 hs]
 have:=h.nm;rw[hr,hs,QA2 h hp O];split
 ·rename_i g;exact h.sys.sz v O k hk
 exact(pO h hp).2.1 k hk
end
def QE4[Inhabited α]{l:List α}{x:α}{i:Nat}(h:i<l.length):el (l++[x]) i=el l i:=by
 rw[J4 w6,List.getElem_append_left h,J4 h]
def QE3[Inhabited α]{l:List α}{x:α}:el (l++[x]) l.length=x:=by
 rw[J4 wz,List.getElem_append_right (Nat.le_refl _)];simp
theorem uE{nl:List (List UInt8)}(h:Gb nl=0)(hs:Cp s=true)(hc:¬s∈nl):Gb (nl++[s])=0:=by
 unfold Gb at h ⊢;refine Wt λx hx=>?_;obtain⟨i,hi,rfl⟩:=List.mem_map.1 hx;rw[List.mem_range,List.length_append]at hi;have hi:i<nl.length+1:=hi;by_cases g:i<nl.length
 ·have h1:=KK h _ (List.mem_map_of_mem (List.mem_range.2 g));unfold BG at h1 ⊢;rw[QE4 g,List.take_append_of_le_length O];exact h1
 obtain rfl:i=nl.length:=O;unfold BG;rw[QE3,List.take_left,hs,decide_eq_false hc];rfl
def QCt{a:List Gn}(h:Qy F q n 2 (a.flatMap KI)):a.length=n:=by
 have h1:=h.1;rw[QB3]at h1;omega
section
variable{y:Zh}{P:List Tm}(h:Lz y)(hp:Lp y P)
include h hp
theorem QFq{F':Gs}{z:Zh}(hy:Yl F y)(ht:Nb y)(he:y.e=0)(hs:Cp s=true)(hc:¬s∈y.nl)(hsl:s.length<=1000)(hz:QFP F' z y s (JO (vx y P)) (JO (vx y P)) y.rs (GZ (RI y P) 1)):
  (z.rs=rx y P/\z.s0=sx y P/\z.sl=y.sl++[(JO (vx y P),JO (vx y P))]/\z.nm.n=y.nm.n+1)/\z.e=0/\Nb z:=by
 have ho:=hy.ok he;have hn:=h.nm;have hm1:=h.m1;have hm2:=h.m2;have hyn:=hy.AL;have hyr:=hy.N4;have hys:=hy.RG;have h1:=hz.hz.AL;have h2:=hz.hz.N4;have h3:=hz.hz.RG;have k1:=congrArg List.length hz.nl;have k2:=congrArg List.length hz.sl;have k3:=congrArg List.length hz.rl;simp only[List.length_append,List.length_map,List.length_singleton]at k1 k2 k3;have hsn:=ho.sn;have hvl:=QDl h hp;have hT:(z.rl.map λe=>J0 e.2)=(rx y P).map X9:=by
  rw[hz.rl];unfold rx;rw[List.map_append,List.map_map];rfl
 have hrs:z.rs=rx y P:=by
  have e1:z.rs=(z.rl.map λe=>J0 e.2).map JW:=by unfold Zh.rs;rw[List.map_map];rfl
  rw[e1,hT,List.map_map]
  conv=>rhs;rw[<-List.map_id (rx y P)]
  exact List.map_congr_left λq _=>YQ q
 have hs0:z.s0=sx y P:=by
  unfold Zh.s0 Zh.vs sx;rw[hz.sl,List.map_append,List.map_append];show _++[Yn (JO (vx y P))]=_;rw[Mn];rfl
 have hbq:∀q∈rx y P,Bq (y.rs.length+1+1) q:=λq hq=>(QA7 h hp hq).1;have htx:∀e∈z.rl,∃q∈rx y P,J0 e.2=X9 q:=λe he2=>by
  have:J0 e.2∈(rx y P).map X9:=by rw[<-hT];exact List.mem_map_of_mem he2
  obtain⟨q,hq,e1⟩:=List.mem_map.1 this;exact⟨q,hq,e1.symm⟩
 have hchk:ZJ (JO (vx y P)) (JO (vx y P))=0:=xo (W2 hvl (Nat.le_refl _)) (W2 hvl (Nat.le_refl _)) Rat.le_refl;have hze:z.e=0:=by
  unfold Zh.e;rw[qW O O ⟨by rw[List.length_map];omega,O⟩,hz.nl,uE ho.nm hs hc];have z2:Qn ((z.rl.map λe=>J0 e.2).map λp=>XB p ((y.nl++[s]).length:Int))=0:=Wt λx hx=>by
   obtain⟨p,hp2,rfl⟩:=List.mem_map.1 hx;rw[hT]at hp2;obtain⟨q,hq,rfl⟩:=List.mem_map.1 hp2;refine(hbq q hq).I8 ?_;rw[List.length_append,hyn,hn];rfl
  have z3:Qn (z.sl.map λs=>ZJ s.1 s.2)=0:=Wt λx hx=>by
   obtain⟨t,ht2,rfl⟩:=List.mem_map.1 hx;rw[hz.sl]at ht2;rcases List.mem_append.1 ht2 with ht2 | ht2
   ·exact ho.st t ht2
   rw[List.mem_singleton.1 ht2];exact hchk
  rw[z2,z3];rfl
 have hzo:=hz.hz.ok hze;refine⟨⟨hrs,hs0,hz.sl,O⟩,hze,⟨O,hz.nc,λt ht2=>?_,wk hzo.rn,λe he2=>?_,wk hzo.sn,λt ht2=>?_⟩⟩
 ·rw[hz.nl]at ht2;rcases List.mem_append.1 ht2 with ht2 | ht2
  ·exact ht.nt t ht2
  rw[List.mem_singleton.1 ht2];omega
 ·obtain⟨q,hq,e1⟩:=htx e he2;have hb:=hbq q hq;have hl:e.2.length=e.1.n:=QCt (hz.hz.pl e he2).1;refine⟨hl,λt ht2=>?_,?_⟩
  ·have h5:(t.f,t.k)∈X9 q:=by rw[<-e1];exact List.mem_map.2 ⟨t,ht2,rfl⟩
   have h6:=hb.txt _ h5;dsimp only at h6;omega
  have h5:=congrArg List.length e1;rw[Wg,FT]at h5;have:=hb.ln;omega
 rw[hz.sl]at ht2;rcases List.mem_append.1 ht2 with ht2 | ht2
 ·exact ht.st t ht2
 rw[List.mem_singleton.1 ht2];have:=GI (vx y P);dsimp only;omega
end
def QBi(n s:Nat)(nl:List (List UInt8))(rl:List Pt)(sl:List (List UInt8×List UInt8))(v t d:Int):Bool:=!(decide ((n:Int)>v)||(BB nl rl sl != 0)||!(decide ((s:Int)<=v)&&sl.all (Ax 9)))&&rl.all λp=>OG p (n:Int) t d 9
def QE1(y:Zh)(v t d:Int):O9 y v t d=QBi y.nm.n y.st.n y.nl (y.rl.map λe=>J0 e.2) y.sl v t d:=by
 unfold O9 QBi Fj Zh.e;rw[List.all_map];rfl
def thN:List (List UInt8):=[[120],[121]]
def thR:List Pt:=[[([49],[1,0,0]),([49],[0,0,1])],[([45,49],[0,1,0])]]
def thS:List (List UInt8×List UInt8):=[([49],[49]),([48],[48])]
def QAu:List (List Tm):=[[(1,[1,0,0]),(1,[0,0,1])],[(-1,[0,1,0])]]
def thY(b1 b2 b4 b6 b7 b9 b10 b13:Nat):Zh:=⟨⟨some ⟨b1,0,none⟩,2,2⟩,thN,⟨some ⟨b10,0,none⟩,2,2⟩,[zh b6 [FX [49] b2 [1,0,0],FX [49] b4 [0,0,1]],zh b9 [FX [45,49] b7 [0,1,0]]],⟨some ⟨b13,0,none⟩,2,2⟩,thS⟩
theorem QFc{b1 b2 b4 b6 b7 b9 b10 b13:Nat}{T1 T2 T3 T4 T5 T6 T7 T8:TypeId}(h1:F b1=some ([tx [120],tx [121]].toArray,T1))(h2:F b2=some (([1,0,0].map Q7).toArray,T2))(h4:F b4=some (([0,0,1].map Q7).toArray,T3))(h6:F b6=some (([FX [49] b2 [1,0,0],FX [49] b4 [0,0,1]].flatMap KI).toArray,T4))(h7:F b7=some (([0,1,0].map Q7).toArray,T5))(h9:F b9=some ((KI (FX [45,49] b7 [0,1,0])).toArray,T6))(h10:F b10=some ([(zh b6 [FX [49] b2 [1,0,0],FX [49] b4 [0,0,1]]).1.v,(zh b9 [FX [45,49] b7 [0,1,0]]).1.v].toArray,T7))(h13:F b13=some ([tx [49],tx [49],tx [48],tx [48]].toArray,T8)):Cs F (thY b1 b2 b4 b6 b7 b9 b10 b13) thN thR thS:=by
 refine⟨⟨Qy.of h1 I,Qy.of h10 I,λx hx=>?_,Qy.of h13 rfl,rfl,rfl,rfl⟩,⟨(by show 2<=1000000;decide),Nat.le_refl _,λs hs=>?_,(by show 2<=1000000;decide),λx hx=>?_,(by show 2<=1000000;decide),λs hs=>?_⟩,rfl,rfl,rfl⟩
 ·simp only[thY,List.mem_cons,List.not_mem_nil,or_false]at hx;rcases hx with rfl | rfl
  ·refine⟨Qy.of h6 I,λt ht=>?_⟩;simp only[zh,List.mem_cons,List.not_mem_nil,or_false]at ht;rcases ht with rfl | rfl
   ·exact BF (k:=[1,0,0]) h2
   exact BF (k:=[0,0,1]) h4
  exact⟨Qy.of h9 I,λt ht=>by rw[List.mem_singleton.1 ht];exact BF (k:=[0,1,0]) h7⟩
 ·simp only[thY,thN,List.mem_cons,List.not_mem_nil,or_false]at hs;rcases hs with rfl | rfl<;>decide
 ·simp only[thY,List.mem_cons,List.not_mem_nil,or_false]at hx;rcases hx with rfl | rfl
  ·refine⟨rfl,λt ht=>?_,by show 2<=1000000;decide⟩;simp only[zh,List.mem_cons,List.not_mem_nil,or_false]at ht;rcases ht with rfl | rfl<;>exact⟨by show 1<=1000000;decide,by show 3<=1000000;decide⟩
  exact⟨rfl,λt ht=>by rw[List.mem_singleton.1 ht];exact⟨by show 2<=1000000;decide,by show 3<=1000000;decide⟩,by show 1<=1000000;decide⟩
 simp only[thY,thS,List.mem_cons,List.not_mem_nil,or_false]at hs;rcases hs with rfl | rfl<;>decide
theorem QAt(h:Cs F y thN thR thS):Lz y:=by
 refine QD4 h.r ?_ ?_
 ·rw[QE1,h.n,h.p,h.s,h.nn,show y.st.n=2 from by rw[<-h.r.RG,h.s];rfl];show QBi 2 2 thN thR thS 2 3 2=true;decide +kernel
 rw[h.s];decide +kernel
def QAs(h:Cs F y thN thR thS):y.rs=QAu:=by rw[h.rs];decide +kernel
def QFd(h:Cs F y thN thR thS):y.s0=[1,0]:=by unfold Zh.s0;rw[h.vs];decide +kernel
theorem QEO(h:Cs F y thN thR thS):ue y 3 :=
 have k:=(QAt h).sys
 ⟨⟨wu,λk' hk=>k.ok.c k' O⟩,k.ex,λv hv k' hk=>k.sz v hv k' O⟩
def QGE:Mq (Se.Hi QAu [1,0] 1) 3=[[49],[48],[48],[48]]:=wv
def QGD:Mq (Se.Hi QAu [1,0] 2) 3=[[48],[45,49],[48],[48]]:=wv
def thP:Pt:=[([49],[0,1,1])]
def thD:Pt:=[([49],[1,0,1]),([45,49],[0,2,0]),([49],[0,0,2])]
def QGC:X9 (Wz QAu (JW thP) 2)=thD:=wv
def thA:Pt:=[([49],[0,1,0])]
def thB:Pt:=[([50],[0,1,0]),([49],[0,0,0])]
def thM:Pt:=[([50],[0,2,0]),([49],[0,1,0])]
def QFe:RH (JX (JC (JW thA) (JW thB)))=0/\F7 (JX (JC (JW thA) (JW thB)))=thM:=wv
theorem QFf(h:Cs F y thN thR thS):Lp y (JW thP):=(QBV (QAt h) (by rw[show y.nm.n=2 from h.nn];decide +kernel)).2
theorem BS{c:Nat}(hF:Fits F w):Qb prog 42 [tx s,.slice q n c] w F (.agg #[tx s,.slice q n c]):=by
 refine QU.intro (G:=λF=>True) func42 rfl wy rfl rfl hF w8<|QGi<|Qg Ro λb4=>QF4<|wR rfl<|QF5 rfl<|QA (XL rfl cK Ro (wP rfl rfl rfl))<|QZ (vs:=[_,_]) rfl rfl rfl Zl rfl .here .h2 wT<|QF4<|QT ?_
 exact QO (()) I (.Jv (c:=[_,_]) I Zl .here .nil) (rfl) w8
theorem QAw(hF:Fits F w):QU prog 41 [] w F (λ(y:Zh)=>y.v) (λy F=>Cs F y thN thR thS):=by
 refine QU.intro (G:=λF=>True) func41 rfl wy rfl rfl hF w8<|QGi<|Qg pC λb0=>QF4<|QGi<|Qs rfl (JU Yf) Hx z_9 rfl rfl λb1=>Qs rfl (JU Qk) Qu BR rfl rfl λb2=>QJ rfl (λ_ _ f k=>BS f) λ_=>Qs rfl (JU Qk) Qu BR rfl rfl λb4=>QJ rfl (λ_ _ f k=>BS f) λ_=>Qs rfl (JU ZI) Zl Ro rfl rfl λb6=>Qs rfl (JU Qk) Qu BR rfl rfl λb7=>QJ rfl (λ_ _ f k=>BS f) λ_=>Qs rfl (JU ZI) Zl Ro rfl rfl λb9=>Qs rfl (JU W1) Gh vm rfl rfl λb10=>QA (XL rfl UC EA (wP rfl rfl rfl))<|QA (XL rfl UC EA (wP rfl rfl rfl))<|Qs rfl (JU YP) Xx EA rfl rfl λb13=>QA (XL rfl QBK pC (.cons (vs:=[_]) rfl rfl rfl .h1 (.cons (vs:=[_]) rfl rfl rfl (.skip .h1) (.cons (vs:=[_]) rfl rfl rfl (.skip (.skip .h1)) .nil))))<|QZ (vs:=[_,_,_]) rfl rfl rfl Y3 rfl .here .h3 wU<|QE<|QD ?_
 refine QT ?_;exact QO (thY b1 b2 b4 b6 b7 b9 b10 b13) rfl (.Jv (c:=[_,_,_]) I Y3 .here .nil) (rfl) λF ⟨⟨⟨⟨⟨⟨⟨⟨⟨⟨⟨hT,hs1⟩,hs2⟩,_⟩,hs4⟩,_⟩,hs6⟩,hs7⟩,_⟩,hs9⟩,hs10⟩,hs13⟩=>QFc hs1 hs2 hs4 hs6 hs7 hs9 hs10 hs13
end Go.Proofs.YtpmehagnedbkhaaGreatDoor
