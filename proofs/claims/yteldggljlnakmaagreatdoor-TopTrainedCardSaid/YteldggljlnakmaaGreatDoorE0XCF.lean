/- Steps of the proof of the theorem in the last file. -/
import Derived.Test.YteldggljlnakmaaGreatDoorQ0
import Derived.Laws.IdiomArrays
import Derived.KernelRfl
import Derived.Laws.CopyRow
set_option linter.all false
set_option maxHeartbeats 4000000
open Go.Proofs.Tryz
namespace Go.Proofs.YteldggljlnakmaaGreatDoor
variable{α ι:Type}{k sh:Int}{N b c i j:Nat}{a:Addr}{cs z:List Value}{T e ty:TypeId}{w w0:World}{F F0:Gs}{q q2:Option Addr}{l out:List Int}{x:Operand}{bb g:Bool}{s:Sr}{aft:Array Edge}{xs:List (Fr×Rat)}{S:World->Prop}{bs:List (Nat×Obj)}{G:Gs->Prop}{f:Obj->List (Nat×Obj)}
section
open Go.RowKit Go.ChangeShapes Go.WideShapes Ig
theorem ze{f:α->List Value}{k off:Nat}{c:Array Value}(hf:∀x,(f x).length=k):∀(l:List α) (i0:Nat),(∀i x,l[i]?=some x->∀j,j<k->c[off+(i0+i)*k+j]?=(f x)[j]?)->∀p u,(l.flatMap f)[p]?=some u->c[off+i0*k+p]?=some u
 |[],_,_,p,u,e=>by simp at e
 |x::l,i0,h,p,u,e=>by
  rw[List.flatMap_cons]at e;rcases Nat.lt_or_ge p k with g | g
  ·rw[List.getElem?_append_left (by rw[hf];exact g)]at e;have:=h 0 x rfl p g;rw[Nat.add_zero]at this;rw[this,e]
  rw[List.getElem?_append_right (by rw[hf];exact g),hf]at e;have:=ze hf l (i0+1) (λi y hy j hj=>by
   have:=h (i+1) y (by simpa using hy) j hj
   rwa [show i0+(i+1)=i0+1+i by omega]at this) (p-k) u e
  rwa [show off+(i0+1)*k+(p-k)=off+i0*k+p by rw[Nat.add_mul,Nat.one_mul];omega]at this
def cg{off n:Nat}:(⟨b,off,none⟩:Addr).add n=⟨b,off+n,none⟩:=by
 unfold Addr.add;split
 ·rename_i h;rw[h,Nat.add_zero]
 rfl
section
variable{H:Type}{enc:TypeId×Value->H}{w:World}
def ki{n:Nat}(h:w.cells? 0 a n=some cs):cs.length=n/\∀i,i<n->w.cell? (a.add i)=cs[i]?:=by
 unfold World.cells? at h;rw[if_pos (Nat.zero_le _)]at h;exact⟨by simpa using mapM_some_length h,λi hi=>by simpa using mapM_some_get h i i (by simp[hi])⟩
theorem Na{fuel:Nat}{cs:List Value}{x:DataW H×List MemPlace}{t:TypeId}{sz:Nat}{f:α->List Value}{Q:α->Prop}(ht:prog.underlying t=some (.slice e))(hc:prog.cellsOf e=sz)(h0:0<sz)(hf:∀x,(f x).length=sz)
  (hel:∀(n:Nat) (cs:List Value) (x:DataW H×List MemPlace),DataW.trod enc prog w 0 (λ_=>true) true n e cs=some x->∃y,cs=f y/\Q y)
  (hh:DataW.trod enc prog w 0 (λ_=>true) true fuel t cs=some x) :
  ∃(q:Option Addr) (n cap:Nat) (l:List α),cs=[.slice q n cap]/\Qu (V9 w) q n sz (l.flatMap f)/\l.length=n/\n<=9223372036854775807/\(∀y∈l,Q y)/\n<=cap:=by
 rcases DataW.trod_slice ht hh with ⟨e0,_⟩ | ⟨a',len,cap,elems,rest,n,_,e0,_,_,h1,h2,hlen,hg,_,_⟩
 ·exact⟨none,0,0,[],e0,Qu.nil _ _ _,rfl,Nat.zero_le _,λy hy=>(by cases hy),Nat.le_refl _⟩
 subst e0;rw[hc]at hg;have key:∀i,i<len->∃y:α,w.cells? 0 (a'.add (i*sz)) sz=some (f y)/\Q y:=λi hi=>by
  have e:=hg i hi;rw[List.getElem?_eq_getElem O,Option.bind_eq_some_iff]at e;obtain⟨cs,hcs,htr⟩:=e;obtain⟨y,rfl,hq⟩:=hel _ _ _ htr;exact⟨y,hcs,hq⟩
 have hm:len<=9223372036854775807:=by have:=h2;unfold maxLen at this;omega
 have build:∀m,m<=len->∃l:List α,l.length=m/\(∀i x,l[i]?=some x->w.cells? 0 (a'.add (i*sz)) sz=some (f x))/\∀y∈l,Q y:=by
  intro m
  induction m with
  |zero=>exact λ_=>⟨[],rfl,λi x e=>by simp at e,λy hy=>by cases hy⟩
  |succ m ih =>
   intro hm';obtain⟨l,hl,hx,hQ⟩:=ih O;obtain⟨y,hy,hq⟩:=key m O;refine⟨l++[y],by simp[hl],λi x e=>?_,λz hz=>by rcases List.mem_append.1 hz with hz | hz;exact hQ z hz;rw[List.mem_singleton.1 hz];exact hq⟩;rcases Nat.lt_or_ge i m with g | g
   ·rw[List.getElem?_append_left O]at e;exact hx i x e
   have:i=m:=by
    have:=(List.getElem?_eq_some_iff.1 e).1;simp at this;omega
   subst this;rw[List.getElem?_append_right O,hl,Nat.sub_self]at e;simp only[List.getElem?_cons_zero,Option.some.injEq]at e;rw[<-e];exact hy
 obtain⟨l,hl,hx,hQ⟩:=build len (Nat.le_refl _);refine⟨some a',len,cap,l,rfl,⟨?_,λhn=>?_⟩,hl,hm,hQ,h1⟩
 ·rw[List.length_flatMap];have:∀l:List α,(l.map λx=>(f x).length).sum=l.length*sz:=λl=>by
   induction l with
   |nil=>simp
   |cons x l ih=>rw[List.map_cons,List.sum_cons,ih,hf,List.length_cons,Nat.add_mul];omega
  rw[this,hl]
 have c0:=hx 0 (l[0]' O) (List.getElem?_eq_getElem _);have g0:=(ki c0).2 0 h0;have hs:(f (l[0]' O))[0]?=some ((f (l[0]' O))[0]'(by rw[hf];exact h0)):=List.getElem?_eq_getElem _;rw[hs,Nat.zero_mul]at g0;have ea:(a'.add 0).add 0=a':=rfl;rw[ea]at g0;obtain⟨b',off,spot⟩:=a';unfold World.cell? at g0;split at g0
 ·rename_i c T fr hheap;split at g0
  ·cases g0
  rename_i hsp;have:spot=none:=by cases spot with
   |none=>rfl
   |some s=>simp at hsp
  subst this;refine⟨b',off,c,T,rfl,by unfold V9;rw[hheap],λj u hu=>?_⟩;have:=ze (off:=off) (c:=c) hf l 0 (λi x e j hj=>?_) j u hu
  ·rwa [Nat.zero_mul,Nat.add_zero]at this
  have:=(ki (hx i x e)).2 j hj;rw[cg,cg]at this;unfold World.cell? at this;rw[hheap]at this;simpa using this
 cases g0
end
end
open Go.RowKit Ig
def QIB(lo hi:List UInt8):Int:=if Qz [Q9 lo,Q9 hi]=0 then(if yF (Jc lo) (Jc hi)>0 then 11 else 0)else Qz [Q9 lo,Q9 hi]
def QH5(d:Int)(p:List UInt8×List UInt8):Bool:=D4 p.1 d&&(D4 p.2 d&&!decide (yF (Jc p.1) (Jc p.2)>0))
section
open Go.RowKit Go.ChangeShapes Go.WideShapes Ig
section
variable{H:Type}{enc:TypeId×Value->H}{w:World}
theorem vR{n:Nat}{t:TypeId}{v:Value}{x:DataW H×List MemPlace}(ht:prog.underlying t=some .string)(h:DataW.trod enc prog w 0 (λ_=>true) true n t [v]=some x):∃l,v=tx l/\l.length<=9223372036854775807:=by
 obtain⟨s,e,_,hs⟩:=DataW.trod_string ht h;obtain⟨rfl⟩:=List.cons.inj e;exact⟨s.data.toList,by simp[tx],by unfold maxLen at hs;simpa using hs⟩
end
end
def Szs(a:Rat×Rat)(k:Nat):Prop:=XH a.1<=k/\XH a.2<=k
def fpB(p:Pt)(v a b c:Int):Bool:=if(p.length:Int)>a\/Y3 p v≠0 then false else !(p.any λx=>decide (x.2.sum>b)||!(D4 x.1 c))
structure BxA(F:Gs)(r:Sr)(l:List (List UInt8×List UInt8)):Prop where
 row:Qu F r.q r.n 2 (l.flatMap spC)
 len:l.length=r.n
structure ABx where
 e:List UInt8
 w:Sr
 wl:List (List UInt8×List UInt8)
 l:Sr
 ll:List (List UInt8×List UInt8)
def abC(b:ABx):List Value:=[tx b.e,.slice b.w.q b.w.n b.w.cap,.slice b.l.q b.l.n b.l.cap]
structure QKW(F:Gs)(r:Sr)(tb:List ABx):Prop where
 row:Qu F r.q r.n 3 (tb.flatMap abC)
 len:tb.length=r.n
 bx:∀b∈tb,BxA F b.w b.wl/\BxA F b.l b.ll
def txs(v:List (Rat×Rat)):List (List UInt8×List UInt8):=v.map λa=>(Q6 a.1,Q6 a.2)
abbrev TbQ:=Rat×List (Rat×Rat)×List (Rat×Rat)
def QJx(t:List TbQ):List (List UInt8×List (List UInt8×List UInt8)×List (List UInt8×List UInt8)):=t.map λp=>(Q6 p.1,txs p.2.1,txs p.2.2)
def ABx.d(b:ABx):List UInt8×List (List UInt8×List UInt8)×List (List UInt8×List UInt8):=(b.e,b.wl,b.ll)
structure QKV(F:Gs)(c:Sr×List ABx)(t:List TbQ):Prop where
 a:QKW F c.1 c.2
 d:c.2.map ABx.d=QJx t
 cap:c.1.n<=c.1.cap
def ClS(Q d b:Nat)(x:Rat×Rat):Prop:=Cl Q d b x.1/\Cl Q d b x.2
section
variable{Q d b e c:Nat}{x y:Rat×Rat}(h0:0<Q)
include h0
variable{al be:Nat}{a a':List SpQ}
def QHL(ks:List Int):Nat->Nat
 |0=>0
 |v+1=>QHL ks v+(Qc ks v).toNat
end
def QJC(l:List SpQ):Prop:=∀i,i<l.length->(el l i).1<=(el l i).2
def QJ4(s:List UInt8×List UInt8):Bool:=!(decide ((s.1.length:Int)>40)||decide ((s.2.length:Int)>40))
theorem uU{n:Nat}{m d:Int}{l:List (List UInt8)}(hF:Fits F w)(hR:Qu F q n 1 (l.map tx))(hl:l.length=n)(hd:0<=d/\d<=1000)(hn:n<=1000000):QY prog 108 [.slice q n c,.int .i64 m,.int .i64 d] w F (.bool (decide ((n:Int)<=m)&&l.all λs=>D4 s d)):=by
 have hln:=hl;refine QQ.go (G:=λF=>Qu F q n 1 (l.map tx)) func108 hF hR ?_;refine wA 9 I<|QA (QW I YI)<|QLi 4 I ?_
 refine QL I (λhc=>?_) λhc=>?_
 ·have hg:=QK8 hc;refine wA 6 I ?_;exact QL3 I I (congrArg Value.bool (by have h1:decide ((n:Int)<=m)=false:=decide_eq_false O;rw[h1];rfl)) tB
 have hg:=QK9 hc;refine QLj 9 I<|Jo (ι:=Rr l λs=>D4 s d) [(0,_),(2,_)] (λi=>[(7,.int .i64 ((i.i:Nat):Int))]) (λi=>l.length-i.i) (Rr.start _ _) wU wT λi=>wA 5 I<|QA (QW I YI)<|QLi 3 I ?_
 refine QL I (λhc=>?_) λhc=>?_
 ·have hi:i.i<l.length:=wm<|QK8 hc
  refine QLj 8 I<|QA (Qo (n:=n) i.i tC rfl rfl YI JP O)<|QA (Qg (n:=n) ((i.i)*1) tC O rfl JP (ZF (f:=tx) (l:=l) O))<|QJj I<|QJ I (λ_ _ f k=>qh f hd) λ_=>QA (YD I)<|QF<|QC ?_
  refine QL I (λhc=>?_) λhc=>?_
  ·refine wA 5 I<|X6 ?_
   exact QL3 I I (congrArg Value.bool (by rw[i.hit hi (by simpa using hc),Bool.and_false])) tB
  refine QK<|Qa<|QLk 3 I<|QA (Qk I I O)<|wB 2 I ?_
  exact Qb (i.next hi (by simpa using hc)) (by show l.length-(i.i+1)<l.length-i.i;omega)
 have hi:l.length<=i.i:=wm<|QK9 hc
 refine Q7 ?_;refine wA 6 I ?_;exact QL3 I I (congrArg Value.bool (by rw[i.stop hi];have h1:decide ((n:Int)<=m)=true:=decide_eq_true O;rw[h1];rfl)) tB
structure ATk where
 fr:List UInt8
 te:List UInt8
 bx:Sr
 bl:List (List UInt8×List UInt8)
 wh:Sr
 wl:List (List UInt8×List UInt8)
 o:Int
 b:Int
section
open Go.RowKit Go.ChangeShapes Go.WideShapes Ig
section
variable{H:Type}{enc:TypeId×Value->H}{w:World}
theorem Ae{n:Nat}{v:Value}{x:DataW H×List MemPlace}(h:DataW.trod enc prog w 0 (λ_=>true) true n 3 [v]=some x):∃k,v = .int .i64 k:=by
 obtain⟨k,e,_⟩:=DataW.trod_int QGg h;exact⟨k,(List.cons.inj e).1⟩
end
end
section
variable[Dr][df:Df]{P:Program}{Q:Exit->Act->World->Prop}{N:Nat}{m:Sl}{E0:Env}{ops:Array Oper}{l:List Oper}{w0:World}{F0:Gs}{bs:List (Nat×Obj)}{G:Gs->Prop}
theorem OX.QKE(h:OX ⟨w0,F0,bs,G⟩ w F){b:Nat}{c:Array Value}{T:TypeId}{fr:Nat×Nat}(hm:(b,Obj.cells c T fr)∈bs):∃FL,Gs.le F FL/\Fits FL w/\FL b=some (c,T) /\
  ∀w' F',RF w w'->Gs.le FL F'->(∀i,i<w.heap.size->F' i=FL i)->Fits F' w'->St ⟨w0,F0,bs,G⟩ w':=by
 obtain⟨h1,h2,h3⟩:=h.bx _ hm;have hb:b<w.heap.size:=by
  grind
 have hle:Gs.le F (λi=>if i=b then some (c,T)else F i):=λi x hx=>by
  grind
 refine⟨_,hle,⟨λi c' T' hi=>?_,λi c' fr' hi=>?_⟩,w9,λw' F' e1 e2 e3 e4=>?_⟩
 ·by_cases e:i=b
  ·simp_all
  rw[if_neg e]at hi;exact h.fits.row i c' T' hi
 ·by_cases e:i=b
  ·simp_all
  rw[if_neg e];exact h.fits.all i c' fr' hi
 have hne:∀i x,F i=some x->i≠b:=λi x hx e=>by simp_all
 have hgo:Gs.le F (λi=>if i=b then none else F' i):=λi x hx=>by
  show(if i=b then _ else _)=_;rw[if_neg (hne i x hx)];exact e2 i x (hle i x hx)
 refine⟨λi=>if i=b then none else F' i,Gs.le_trans h.le hgo,λi hi=>?_,⟨λi c' T' hi=>?_,λi c' fr' hi=>?_⟩,h.ext.trans e1,λk hk=>?_,h.nd,λF'' hF=>h.g F'' (Gs.le_trans hgo hF)⟩
 ·have hib:i≠b:=O;rw[if_neg hib,e3 i (Nat.lt_of_lt_of_le hi h.ext.size),if_neg hib];exact h.old i hi
 ·by_cases e:i=b
  ·simp_all
  rw[if_neg e]at hi;exact e4.row i c' T' hi
 ·by_cases e:i=b
  ·subst e;rw[e1.block i hb,h1]at hi;cases hi;have:=h.fits.all _ _ _ h1;simp_all
  rw[if_neg e];exact e4.all i c' fr' hi
 obtain⟨g1,g2,g3⟩:=h.bx k hk;have hlt:k.1<w.heap.size:=by
  grind
 refine⟨by rw[e1.block _ hlt];exact g1,g2,?_⟩;simp_all
theorem OX.QFs(h:OX ⟨w0,F0,bs,G⟩ w F){T:TypeId}{sz n:Nat}{v:Value}{cs:List Value}{ob:List _}(hr:Qp T sz v n cs ob)(hm:∀k∈ob,k∈bs):∃FL q c,v = .slice q n c/\n<=c/\Qu FL q n sz cs/\Gs.le F FL/\Fits FL w /\
  ∀w' F',RF w w'->Gs.le FL F'->(∀i,i<w.heap.size->F' i=FL i)->Fits F' w'->St ⟨w0,F0,bs,G⟩ w':=by
 cases hr with
 |nil=>exact⟨F,Option.none,0,rfl,Nat.le_refl _,Qu.nil _ _ _,Gs.le_refl F,h.fits,λw' F' e1 e2 e3 e4=>⟨F',by
   have:=h.call e1 e2 e3 e4 tB;simp_all⟩⟩
 |some h1 h2 h3 h4 =>
  rename_i b cap rest;obtain⟨FL,g1,g2,g3,g4⟩:=h.QKE (hm _ (.head _));refine⟨FL,_,_,rfl,h3,⟨h1,λ_=>⟨b,0,_,T,rfl,g3,λj u hu=>?_⟩⟩,g1,g2,g4⟩
  grind
theorem Ft{x y:Code}(K:Sl)(M:ι->Sl)(B:ι->List _)(R:ι->Gs->Prop)(_hk:YT m K)(h1:J P x (Exit.then (λa w=>∃i,JO N (K++M i) a/\St ⟨w0,F0,B i,λF=>G F/\R i F⟩ w) Q) N m ⟨w0,F0,bs,G⟩)
  (h2:∀i,J P y Q N (K++M i) ⟨w0,F0,B i,λF=>G F/\R i F⟩):J P (.seq x y) Q N m ⟨w0,F0,bs,G⟩:=λa w ha hw=>by
 refine wp_seq (wp_mono (h1 a w ha hw) ?_);intro e a' w' h;cases e with
 |normal=>obtain⟨i,h3,h4⟩:=h;exact h2 i a' w' h3 h4
 |_=>exact h
theorem P7{G':Gs->Prop}{M:ι->Sl}{B:ι->List _}{H:ι->Gs->Prop}(i:ι)(hm:YT m (M i):=by repeat' (first | exact trivial | refine⟨rfl,?_⟩))(hb:(B i).Sublist bs:=by first | exact List.Sublist.refl _ | (repeat' (first | exact List.Sublist.refl _ | exact List.nil_sublist _ | refine List.Sublist.cons_cons _ ?_ | refine List.Sublist.cons _ ?_)))(hg:∀F,G' F->H i F:=by intro F h;first | exact h | exact⟨h,trivial⟩ | (repeat' (first | exact trivial | exact h.2 | exact h.1.2 | exact h.1.1.2 | exact h.1.1.1.2 | exact h.1.1.1.1.2 | exact h.1.1.1.1.1.2 | exact h.1.1.1.1.1.1.2 | exact h.1.1.1.1.1.1.1.2 | exact h.1.1.1.1.1.1.1.1.2 | exact h.1.1.1.1.1.1.1.1.1.2 | exact h.1 | exact h.1.1 | exact h.1.1.1 | exact h.1.1.1.1 | exact h.1.1.1.1.1 | exact h.1.1.1.1.1.1 | exact h.1.1.1.1.1.1.1 | exact h.1.1.1.1.1.1.1.1 | exact h.1.1.1.1.1.1.1.1.1 | refine And.intro ?_ ?_))):
  Fin (Exit.then (λa w=>∃i,JO N (M i) a/\St ⟨w0,F0,B i,H i⟩ w) Q) .normal N m ⟨w0,F0,bs,G'⟩:=λa w ha hw=>⟨i,ha.sub hm,hw.imp hb hg⟩
section
variable{d:Nat}{ty:TypeId}{pos:String}{aft:Array Edge}{f:FuncId}{args:Array Operand}{tys:Array TypeId}{vs:List Value}{γ:Type}{val:γ->Value}{fact:γ->Prop}
theorem QAE{c1 c2:List Value}{sz n:Nat}{v:Value}{ob:List _}(hr:Qp T sz v n cs ob)(hm:∀k∈ob,k∈bs)(hx:ev m x=some (.func (.func f) c1.toArray c2.toArray))(hv:D2 m args.toList=some vs)
  (hc:∀w F q c,v = .slice q n c->n<=c->Qu F q n sz cs->Fits F w->G F->QQ P f (c1++vs++c2) w F val λc _=>fact c)
  (k:∀c,fact c->JS P ops Q l N ((d,val c)::m) ⟨w0,F0,bs,G⟩) (hd:Jq N (some d)=true:=by rfl):JS P ops Q (⟨some d,.call ⟨.value x,args,tys⟩,ty,pos,aft,none⟩::l) N m ⟨w0,F0,bs,G⟩:=by
 intro a w ha hw;obtain⟨F,hF⟩:=hw;obtain⟨FL,q,c,ev1,hn,hR,hle,hfit,hback⟩:=hF.QFs hr hm;have hcg:=hc w FL q c ev1 hn hR hfit (hF.g _ hle);refine wpList_plain rfl λK hK=>?_;unfold Oper.wp;rw[WM hcg.1 (ha.ev hx)];have e:c1.toArray++args.map a.eval++c2.toArray=(c1++vs++c2).toArray:=by
  have:=ha.D2 hv;simp_all
 rw[e];refine hcg.2.mono ?_;rintro e w' ⟨c,F',rfl,h1,h2,h3,h4,h5⟩;exact hK _ _ (k c (h5 F' (Gs.le_refl _)) _ w' (ha.put hd _) (hback w' F' h1 h2 h3 h4))
theorem QCV{sz n:Nat}{v:Value}{ob:List _}(hr:Qp T sz v n cs ob)(hm:∀k∈ob,k∈bs)(hv:D2 m args.toList=some vs)
  (hc:∀w F q c,v = .slice q n c->n<=c->Qu F q n sz cs->Fits F w->G F->QQ P f vs w F val λc _=>fact c)
  (k:∀c,fact c->JS P ops Q l N ((d,val c)::m) ⟨w0,F0,bs,G⟩) (hd:Jq N (some d)=true:=by rfl):JS P ops Q (⟨some d,.call ⟨.value (.func f),args,tys⟩,ty,pos,aft,none⟩::l) N m ⟨w0,F0,bs,G⟩ :=
 QAE hr hm rfl hv (by simpa using hc) k hd
end
end
section
variable{P:Program}{N:Nat}{m:Sl}{ty:TypeId}{w0:World}{F0:Gs}{bs:List (Nat×Obj)}{G:Gs->Prop}
def Qy{k:Nat}{c:Array Value}{T':TypeId}{u:Value}(j:Nat)(hz:∀F,G F->F b=some (c,T'))(hx:ev m x=some (.pointer (some ⟨b,0+j,none⟩)))(ht:Zd P T=some (false,k))(hu:c.toList[j]?=some u):Qt P N m (St ⟨w0,F0,bs,G⟩) (.load T x) ty u :=
 Qg (n:=1) (sz:=c.toList.length) j (λF h=>Qu.of (by exact hz F h) w9) wv hx ht hu
theorem Z7{k:Nat}{c:Array Value}{T':TypeId}(hz:∀F,G F->F b=some (c,T'))(hx:ev m x=some (.pointer (some ⟨b,0,none⟩)))(ht:Zd P T=some (true,k))(hl:c.size=k):Qt P N m (St ⟨w0,F0,bs,G⟩) (.load T x) ty (.agg c):=by
 have h:=JG (N:=N) (ty:=ty) (w0:=w0) (F0:=F0) (bs:=bs) (n:=1) (sz:=c.toList.length) 0 (λF h=>Qu.of (by exact hz F h) w9) wv hx ht O (λi v hv=>by simp_all);omega
end
theorem Jj:Zd prog 22=some (false,1):=wu
theorem Xr:Ga prog 22=some 59:=wu
theorem Zf:Zd prog 25=some (true,3):=wu
theorem QAK:J1 prog 25=some [.int .i64 0,.slice none 0 0,.slice none 0 0]:=wu
theorem QGt:YV prog 25=some [(0,1),(1,1),(2,1)]:=wu
theorem WT:Y4 prog 25 0=some (0,3):=wu
theorem XS:Y4 prog 25 1=some (1,22):=wu
theorem I7:Y4 prog 25 2=some (2,23):=wu
theorem XK:Zd prog 57=some (false,1):=wu
theorem Zz:Ga prog 57=some 61:=wu
theorem XJ:Zd prog 59=some (true,5):=wu
theorem Ni:J1 prog 59=some [.string .empty,.slice none 0 0,.int .i64 0,.string .empty,.slice none 0 0]:=wu
theorem QJZ:ZM prog 59=some 88:=wu
theorem QI8:YV prog 59=some [(0,1),(1,1),(2,1),(3,1),(4,1)]:=wu
theorem Ks:Y4 prog 59 0=some (0,9):=wu
theorem ZV:Y4 prog 59 1=some (1,57):=wu
theorem KI:Y4 prog 59 2=some (2,3):=wu
theorem Bv:Y4 prog 59 3=some (3,45):=wu
theorem H8:Y4 prog 59 4=some (4,29):=wu
theorem vK:Zd prog 212=some (false,1):=wu
theorem QIm:J1 prog 212=some [.slice none 0 0]:=wu
theorem vW:Ga prog 212=some 4:=wu
theorem YC:Zd prog 61=some (true,2):=wu
theorem yi:J1 prog 61=some [.int .i64 0,.string .empty]:=wu
theorem QJY:ZM prog 61=some 24:=wu
theorem QGr:YV prog 61=some [(0,1),(1,1)]:=wu
theorem GB:Y4 prog 61 0=some (0,3):=wu
theorem Gc:Y4 prog 61 1=some (1,45):=wu
theorem QDf:Zd prog 152=some (true,4):=wu
theorem p4:J1 prog 152=some [.int .i64 0,.int .i64 0,.nilFunc,.nilFunc]:=wu
theorem QAm:YV prog 152=some [(0,1),(1,1),(2,1),(3,1)]:=wu
theorem QGH:Y4 prog 152 0=some (0,3):=wu
theorem QGG:Y4 prog 152 1=some (1,3):=wu
theorem QGF:Y4 prog 152 2=some (2,149):=wu
theorem QGE:Y4 prog 152 3=some (3,150):=wu
theorem UC:J1 prog 105=some [.int .i64 0,.slice none 0 0,.slice none 0 0,.int .i64 0,.slice none 0 0,.slice none 0 0,.slice none 0 0,.map none]:=wu
theorem MO:YV prog 105=some [(0,3),(3,1),(4,1),(5,1),(6,1),(7,1)]:=wu
theorem dh:Y4 prog 105 1=some (3,3):=wu
theorem Fh:Y4 prog 105 3=some (5,102):=wu
theorem OO:Y4 prog 105 4=some (6,102):=wu
theorem qt:Y4 prog 105 5=some (7,103):=wu
end Go.Proofs.YteldggljlnakmaaGreatDoor
namespace Go.Proofs.YteldggljlnakmaaGreatDoor
variable{α ι:Type}{k sh:Int}{N b c i j:Nat}{a:Addr}{cs z:List Value}{T e ty:TypeId}{w w0:World}{F F0:Gs}{q q2:Option Addr}{l out:List Int}{x:Operand}{bb g:Bool}{s:Sr}{aft:Array Edge}{xs:List (Fr×Rat)}{S:World->Prop}{bs:List (Nat×Obj)}{G:Gs->Prop}{f:Obj->List (Nat×Obj)}
open Go.RowKit Ig
def Se:=Nat->Rat
namespace Se
end Se
end Go.Proofs.YteldggljlnakmaaGreatDoor
namespace Go.Proofs.YteldggljlnakmaaGreatDoor
variable{α ι:Type}{k sh:Int}{N b c i j:Nat}{a:Addr}{cs z:List Value}{T e ty:TypeId}{w w0:World}{F F0:Gs}{q q2:Option Addr}{l out:List Int}{x:Operand}{bb g:Bool}{s:Sr}{aft:Array Edge}{xs:List (Fr×Rat)}{S:World->Prop}{bs:List (Nat×Obj)}{G:Gs->Prop}{f:Obj->List (Nat×Obj)}
open Go.RowKit Ig
theorem DG.drop(hd:DG B9 l)(k:Nat):DG B9 (l.drop k):=λx hx=>hd x (List.mem_of_mem_drop hx)
section
variable{P:Program}{Q:Exit->Act->World->Prop}{N:Nat}{m:Sl}{ops:Array Oper}{l:List Oper}{w0:World}{F0:Gs}{bs:List (Nat×Obj)}{G:Gs->Prop}{ty:TypeId}{pos:String}{aft:Array Edge}{E0:Env}
theorem yg{d:Nat}{t:TypeId}{sz:Nat}(ht:P.underlying t=some (.slice e))(hs:Zd P e=some (g,sz))(k:∀b,JD P ops Q E0 l N ((d,.slice (some ⟨b,0,none⟩) 0 0)::m) ⟨w0,F0,(b,.cells #[] e (0,0))::bs,G⟩)(hu:Vy e=true:=by rfl)(hd:Jq N (some d)=true:=by rfl):
  JD P ops Q E0 (⟨some d,.buildSlice t 0 #[],ty,pos,aft,none⟩::l) N m ⟨w0,F0,bs,G⟩:=λhE a w ha hw=>by
 have hS:=hw.alloc (.cells #[] e (0,0)) (XR hu);have sub:∀w' b,St ⟨w0,F0,(b,.cells #[] e (0,0))::bs,G⟩ w'->St E0 w':=λw' b h=>hE w' (h.imp (List.sublist_cons_self _ _) λ_ h=>h);refine .inr ⟨rfl,?_⟩;rw[if_pos (by simp[Region.wanted])];refine upon_value (v:=.slice (some ⟨w.heap.size,0,none⟩) 0 0) (w':=w.alloc (.cells #[] e)) ?_ ⟨sub _ _ hS,k _ (λw' h=>sub w' _ h) _ _ (ha.put hd _) hS⟩;have hrun:(Instr.buildSlice t 0 #[]).run P w = .ok (.slice (some ⟨w.heap.size,0,none⟩) 0 0) (w.alloc (.cells #[] e)):=by
  have hf:Instr.fill (λi=>some (i*sz,sz)) (Array.map (λx=>(#[]:Array Value)[x%(#[]:Array Value).size]!) (Array.range 0)) []=some #[]:=by simp[Instr.fill]
  simp only[Instr.buildSlice,Sem.run_bind,run_underlying ht,Result.andThen_ok,Ys hs,Nat.zero_mul,if_neg (show ¬0>2^24 by omega),Sem.run_pure,if_true,hf,newRow,run_newObj];rfl
 simp[execOp,hrun]
end
structure SmS(Z T D m:Nat)(rs:List (List Tm)):Prop where
 fac:∀p∈rs,∀u∈p,XH u.1<=Z/\QHL u.2 (m+1)<=D/\u.2.length=m+1/\∀k∈u.2,0<=k/\k<=12
 len:∀p∈rs,p.length<=T
 hn:rs.length=m
theorem dZ{s:List UInt8}{d z:Nat}(h:D4 s d=true)(hz:10^d<=2^z):XH (Jc s)<=z:=by
 simp only[D4,Bool.and_eq_true,decide_eq_true_eq,beq_iff_eq]at h;obtain⟨_,hc,h1,h2⟩:=h;have hs:=(Xa hc).1;generalize Jc s=x at hs;have key:∀n:Nat,(Lib.decDigits n).length<=d->n<2^z:=λn hn=>by
  have a:=K1 (JN n);rw[Jg]at a;exact Nat.lt_of_lt_of_le (Nat.lt_of_lt_of_le a (Nat.pow_le_pow_right wv hn)) hz
 have e:numOf (Q6 x)=XZ x.num:=by
  unfold numOf;by_cases h:x.den=1
  ·obtain⟨h1,h2⟩:=ML h;rw[h2,List.take_length,h1]
  exact(VY h).2.2.1
 rw[hs,e,cj]at h1;have hn:sz x.num<=z:=(XA _ _).2 (key _ O);have hd:sz (x.den:Int)<=z:=by
  refine(XA _ _).2 ?_;rw[Int.natAbs_natCast];by_cases g:x.den=1
  ·have:(1:Nat)<=10^d:=Nat.one_le_pow _ _ wv;have hx:d≠0:=by
    intro h0;have:=YW x.num.natAbs;have h3:(Lib.decDigits x.num.natAbs).length≠0:=λq=>this (List.length_eq_zero_iff.1 q);omega
   have:1<10^d:=Nat.one_lt_pow hx wv;omega
  refine key _ ?_;rw[hs]at h2;unfold RT at h2;rw[if_neg λe=>g ((RZ x).1 e),(VY g).2.2.2]at h2;omega
 exact Nat.max_le.2 ⟨hn,hd⟩
structure ShB(m:Nat)(x:List SpQ):Prop where
 len:x.length=m
 sz:∀a∈x,Szs a 160
 ord:QJC x
section
variable{P:Program}{N:Nat}{m:Sl}{Y:World->Prop}{ty:TypeId}
theorem N9{lo:Option Operand}{vl:Option Value}{n sz:Nat}(l:Nat)(hx:ev m x=some (.slice q n c))(el:Fw m lo=some vl)(hl:vl=some (.int .i64 (l:Int)))(hT:Ga P T=some e)(hs:Zd P e=some (g,sz))(hln:l<=n)(hc:n<=c):
  Qt P N m Y (.slice T x lo none none) ty (.slice (if c=l then q else q.map λa=>a.add (l*sz)) (n-l) (c-l)):=λa w _ _ _ _ ha _=>by
 subst hl;have hlc:l<=c:=Nat.le_trans hln hc;have hrun:(Instr.slice T (.slice q n c) (some (.int .i64 (l:Int))) none none).run P w = .ok (.slice (if c=l then q else q.map λa=>a.add (l*sz)) (n-l) (c-l)) w:=by
  simp[Instr.slice,run_underlying (JR hT),Instr.sliceBounds,Instr.sliceBound,asIntOf,hc,hln,hlc,Ys hs]
 simp[execOp,ha.ev hx,ha.Fw el,Instr.sliceAt,run_underlying (JR hT),hrun]
end
theorem Qu.drop{n sz:Nat}(h:Qu F q n sz cs)(hc:n<=c)(l:Nat):Qu F (if c=l then q else q.map λa=>a.add (l*sz)) (n-l) sz (cs.drop (l*sz)):=by
 refine⟨by rw[List.length_drop,h.1,Nat.sub_mul],λh0=>?_⟩;obtain⟨b,off,arr,T,e1,e2,e3⟩:=h.2 O;subst e1;rw[if_neg O];refine⟨b,off+l*sz,arr,T,by rw[Option.map_some,V1],e2,λj u hu=>?_⟩;rw[Nat.add_assoc];rw[List.getElem?_drop]at hu;exact e3 _ u hu
def RM(P:List Tm)(i:Nat)(k:List Int):Bool:=decide (i<P.length)&&decide ((el P i).2=k)
def Oh(P:List Tm)(i:Nat)(k:List Int):Nat:=if RM P i k=true then i+1 else i
def pe(P:List Tm)(i:Nat)(t:Tm):Rat:=if RM P i t.2=true then(el P i).1+t.1 else t.1
theorem uh(t:Tm):∀ {P:List Tm} {i:Nat},i<=P.length->(∀x∈P.take i,before x.2 t.2=true)->(i<P.length->before (el P i).2 t.2=false) ->
  ZU P t=P.take i++(if pe P i t=0 then[]else[(pe P i t,t.2)])++P.drop (Oh P i t.2)
 |[],i,h,_,_=>by
  obtain rfl:i=0:=by simpa using h
  simp[ZU,pe,Oh,RM]
 |y::P,0,_,_,h=>by
  have hb:before y.2 t.2=false:=h w9;have e1:el (y::P) 0=y:=rfl;unfold ZU pe Oh RM;rw[e1,if_neg (by rw[hb];decide)];by_cases e:y.2=t.2
  ·simp[e];split<;>rfl
  simp[e];split<;>rfl
 |y::P,i+1,hi,h1,h2=>by
  have e1:el (y::P) (i+1)=el P i:=rfl;have ih:=uh t (P:=P) (i:=i) (by simpa using hi) (λx hx=>h1 x (by simp[hx])) (λh=>by have:=h2 tA;rwa [e1]at this);have hb:=h1 y w9;have es:RM (y::P) (i+1) t.2=RM P i t.2:=by unfold RM;rw[e1];simp
  have eS:pe (y::P) (i+1) t=pe P i t:=by unfold pe;rw[es,e1]
  have eJ:Oh (y::P) (i+1) t.2=Oh P i t.2+1:=by unfold Oh;rw[es];split<;>rfl
  rw[eS,eJ];show ZU (y::P) t=(y::P.take i)++_++(y::P).drop (Oh P i t.2+1);rw[List.drop_succ_cons];unfold ZU;rw[if_pos hb,ih];simp
def uL{l sz:Nat}(h:(if c=l then q else q.map λa=>a.add (l*sz))=none):q=none:=by
 split at h
 ·exact h
 simpa using h
def FW(P:List Tm):(J2 P).length=P.length:=by simp[J2]
def RI{ps:List VP}{P:List Tm}(h:Y7 ps=J2 P):ps.length=P.length:=by
 have:=congrArg List.length h
 rwa [GF,FW]at this
def UT{ps:List VP}{P:List Tm}(h:Y7 ps=J2 P){i:Nat}(hi:i<ps.length):(el ps i).f=Q6 (el P i).1/\(el ps i).k=(el P i).2:=by
 have hl:=RI h;have h1:(Y7 ps)[i]?=(J2 P)[i]?:=by rw[h]
 unfold Y7 J2 at h1;rw[List.getElem?_map,List.getElem?_map,List.getElem?_eq_getElem hi,List.getElem?_eq_getElem (show i<P.length by omega)]at h1;simp only[Option.map_some,Option.some.injEq,Prod.mk.injEq]at h1;rw[J8 hi,J8 (show i<P.length by omega)];exact h1
theorem Ru(r:Rat):(Q6 r==[48])=decide (r=0):=by
 rw[Bool.eq_iff_iff,beq_iff_eq,decide_eq_true_eq];constructor
 ·intro h;have e:Q6 (0:Rat)=[48]:=wy;have h1:=congrArg Jc (h.trans e.symm)
  rwa [Ww,Ww]at h1
 rintro rfl;decide +kernel
structure PlJ(ps:List VP)(P:List Tm)(k:List Int) where
 i:Nat
 v:Value
 ob:List (Nat×Obj)
 le:i<=ps.length
 hr:Qp 68 2 v i ((ps.take i).flatMap Y2) ob
 hb:∀x∈P.take i,before x.2 k=true
structure PlE(ps:List VP)(P:List Tm)(k:List Int) extends PlJ ps P k where
 stop:i<P.length->before (el P i).2 k=false
def cY{P:List Tm}{k:List Int}(h:i<P.length)(hb:∀x∈P.take i,before x.2 k=true)(e:before (el P i).2 k=true):∀x∈P.take (i+1),before x.2 k=true:=by
 intro x hx;rw[XF h]at hx;rcases List.mem_append.1 hx with hx | hx
 ·exact hb x hx
 rw[List.mem_singleton.1 hx];exact e
def qu{l:List VP}:∀v∈l.flatMap Y2,v.oneCell'=true:=by
 intro v hv;obtain⟨t,_,h⟩:=List.mem_flatMap.1 hv;exact RU t v h
def OS(l:List VP):(l.flatMap Y2).length=l.length*2:=by
 induction l with
 |nil=>rfl
 |cons t l ih=>rw[List.flatMap_cons,List.length_append,ih,List.length_cons,Zh];omega
def kb(l:List VP)(j:Nat):(l.flatMap Y2).drop (j*2)=(l.drop j).flatMap Y2:=by
 induction l generalizing j with
 |nil=>simp
 |cons t l ih =>
  cases j with
  |zero=>simp
  |succ j =>
   rw[List.drop_succ_cons,<-ih j,List.flatMap_cons,show(j+1)*2=2+j*2 by omega,<-List.drop_drop];rfl
def Fq(a b:List VP):Y7 (a++b)=Y7 a++Y7 b:=by simp[Y7]
def NY(a b:List Tm):J2 (a++b)=J2 a++J2 b:=by simp[J2]
def QEw(a:List VP)(i:Nat):Y7 (a.take i)=(Y7 a).take i:=by simp[Y7]
def QAQ(a:List Tm)(i:Nat):J2 (a.take i)=(J2 a).take i:=by simp[J2]
def QEx(a:List VP)(i:Nat):Y7 (a.drop i)=(Y7 a).drop i:=by simp[Y7]
def QAR(a:List Tm)(i:Nat):J2 (a.drop i)=(J2 a).drop i:=by simp[J2]
section
variable[Dr][df:Df]{P:Program}{Q:Exit->Act->World->Prop}{N:Nat}{m:Sl}{ops:Array Oper}{l:List Oper}{w0:World}{F0:Gs}{bs:List (Nat×Obj)}{G:Gs->Prop}{ty:TypeId}
theorem O1{t u e2:TypeId}{x y:Value}(hx:∃b n c,x = .slice b n c)(ht:Ga P t=some e)(hu:Ga P u=some e2):(Builtin.append_ #[t,u] ty #[x,y]).run P w=(Builtin.append_ #[t,t] ty #[x,y]).run P w:=by
 obtain⟨b,n,c,rfl⟩:=hx;simp[Builtin.append_,run_underlying (JR ht),run_underlying (JR hu)]
theorem yb{d:Nat}{pos:String}{t u e2:TypeId}{sz bytes n k:Nat}{X Y:Operand}{x y:Value}{olds news:List Value}{ob:List (Nat×Obj)}(hx:ev m X=some x)(hy:ev m Y=some y)(ht:Ga P t=some e)(hu2:Ga P u=some e2)(hs:Zd P e=some (g,sz))(hz:J1 P e=some z)(hzl:z.length=sz)(hby:ZM P e=some bytes)
  (hr:Qp e sz x n olds ob) (hs2:Src ⟨w0,F0,ob++bs,G⟩ sz y k news) (h63:n+k<=9223372036854775807) (h47:(n+k)*bytes<=140737488355328) (h1:∀v∈news,v.oneCell'=true)
  (kk:∀v' ob',Qp e sz v' (n+k) (olds++news) ob'->JS P ops Q l N ((d,v')::m) ⟨w0,F0,ob'++bs,G⟩) (hu:Vy e=true:=by rfl) (hd:Jq N (some d)=true:=by rfl) :
  JS P ops Q (⟨some d,.call ⟨.builtin .append,#[X,Y],#[t,u]⟩,ty,pos,aft,none⟩::l) N m ⟨w0,F0,ob++bs,G⟩:=λa w ha hw =>
 wpList_plain rfl λK hK=>by
  have hxs:∃b n c,x = .slice b n c:=by
   cases hr
   ·exact⟨_,_,_,rfl⟩
   exact⟨_,_,_,rfl⟩
  obtain⟨v',ob',w',h2,h3,h4⟩:=GX (ty:=ty) ht hs hz hzl hby hr hs2 hw h63 h47 h1 hu;refine upon_value (w':=w') (v:=v') ?_ (hK _ _ (kk v' ob' h3 _ w' (ha.put hd v') h4));rw[Z6];simp[builtin,ha.ev hx,ha.ev hy,O1 hxs ht hu2,h2]
end
def Z4.OD{ts:List VP}{L:List Tm}(h:Z4 F s ts (J2 L)):s.n=L.length:=by
 rw[<-h.2.2.2.2];exact RI h.2.2.1
def QAw{L:List Tm}(h:i<L.length):J3 (L.take (i+1))=ZU (J3 (L.take i)) (el L i):=by
 rw[XF h];unfold J3;rw[List.foldl_append];rfl
structure NoJ(n:Nat) where
 i:Nat
 c:Y1
 le:i<=n
structure OtJ(g:List Tm->List Tm)(L:List Tm) where
 i:Nat
 v:Value
 ob:List (Nat×Obj)
 out:List VP
 le:i<=L.length
 hr:Qp 68 2 v out.length (out.flatMap Y2) ob
 ho:Y7 out=J2 (g (L.take i))
 hl:out.length<=i
def Ek(y:Rat)(l:List Tm):List Tm:=l.map λt=>(y*t.1,t.2)
def QCj{y:Rat}{L:List Tm}(h:i<L.length):Ek y (L.take (i+1))=Ek y (L.take i)++[(y*(el L i).1,(el L i).2)]:=by
 rw[XF h];unfold Ek;rw[List.map_append];rfl
def kg{v:Nat}{L:List Tm}(h:i<L.length):YM v (L.take (i+1))=YM v (L.take i)++MR v (el L i):=by
 rw[XF h];unfold YM;rw[List.flatMap_append];simp
def ka(o:List VP)(t:VP):o.flatMap Y2++Y2 t=(o++[t]).flatMap Y2:=by rw[List.flatMap_append];simp
theorem Yk.snoc{o:List VP}{t:VP}(h:Yk F o)(k:JJ F t.r t.k):Yk F (o++[t]):=λx hx=>by
 rcases List.mem_append.1 hx with hx | hx
 ·exact h x hx
 rw[List.mem_singleton.1 hx];exact k
structure TyD(F I E B al T n:Nat)(rs:List (List Tm))(t:SpQ)(vb:List SpQ):Prop where
 f0:0<F
 i0:0<I
 e0:0<E
 inv:∀k,k<n->k+1 ∣ I
 fac:∀i,i<rs.length->∀u∈el rs i,Cl F 1 B u.1/\QHL u.2 (vb.length+1)<=al+1
 len:∀i,i<rs.length->(el rs i).length<=T
 tm:ClS E 1 B t
 box:∀x∈vb,ClS E 1 B x
 hn:rs.length=vb.length
section
variable{F I E B al T n:Nat}{rs:List (List Tm)}{t:SpQ}{vb:List SpQ}(h:TyD F I E B al T n rs t vb)
include h
omit h in
theorem QIu(Q k:Nat):sz ((Q^k:Nat):Int)<=k*sz ((Q:Nat):Int)+1:=by rw[Int.natCast_pow];exact Ua _ _
omit h in
theorem uE(a b:Nat):sz ((a*b:Nat):Int)<=sz ((a:Nat):Int)+sz ((b:Nat):Int):=by rw[Int.natCast_mul];exact Zi _ _
end
def xM(hi:i<xs.length)(x:Fr)(r:Rat):KC (H7 xs) (0+i*4) (S2 x) (H7 (xs.set i (x,r))):=by
 have e0:xs=xs.take i++el xs i::xs.drop (i+1):=by rw[<-BX hi,List.take_append_drop]
 have e1:xs.set i (x,r)=xs.take i++(x,r)::xs.drop (i+1):=by
  rw[List.set_eq_take_append_cons_drop,if_pos hi]
 have e2:H7 xs=H7 (xs.take i)++(S2 (el xs i).1++H7 (xs.drop (i+1))):=by
  conv=>lhs;rw[e0]
  unfold H7;rw[List.flatMap_append,List.flatMap_cons]
 have e3:H7 (xs.set i (x,r))=H7 (xs.take i)++(S2 x++H7 (xs.drop (i+1))):=by
  rw[e1];unfold H7;rw[List.flatMap_append,List.flatMap_cons]
 rw[e2,e3,show 0+i*4=(H7 (xs.take i)).length by rw[OM,List.length_take];omega];exact Fb I
def BA.el(h:BA F xs){i:Nat}(hi:i<xs.length):Jl F (el xs i).1 (el xs i).2:=h _ (Ql hi)
def BA.set(h:BA F xs){x:Fr}{r:Rat}(hx:Jl F x r)(i:Nat):BA F (xs.set i (x,r)):=λp hp=>by
 rcases List.mem_or_eq_of_mem_set hp with hp | rfl
 ·exact h p hp
 exact hx
section
open Go Go.RowKit Ig
section
variable[Dr][df:Df]
section
variable{P:Program}{Q:Exit->Act->World->Prop}
theorem qC{md:Region.Mode}{ops:Array Oper}{S':World->Prop}(h:∀w,S w->S' w):∀(fuel:Nat) (listed:Array Bool) (a:Act) (w:World),wpAnyH P md ops Q S fuel listed a w->wpAnyH P md ops Q S' fuel listed a w
 |0,_,_,_,hh=>hh
 |fuel+1,_,_,_,hh=>⟨hh.1,λi hi=>wpOp_mono (λa' w' h'=>⟨h _ h'.1,qC h fuel _ a' w' h'.2⟩) (hh.2 i hi)⟩
def Iu(P:Program)(l:List Oper)(Q:Exit->Act->World->Prop):(World->Prop)->Nat->List Nat->Act->World->Prop
 |_,0,_,a,w=>Q .normal a w
 |S,n+1,r,a,w=>match Wu l r with
  |some i=>∃o v,l[i]?=some o/\YieldsIf P l.toArray S o v a/\Iu P l Q S n (r.erase i) (a.put o.dst v) w
  |none=>∀i∈r,Ya l r i=true->wpOp P l.toArray (λ_ _ _=>False) i (λa' w'=>∃S':World->Prop,(∀w,S' w->S w)/\S' w'/\Iu P l Q S' n (r.erase i) a' w') a w
theorem QCc{l:List Oper}(hB:B1 l=true)(hQ:∀c a d v w,Q (.panic c) (Act.put a d v) w->Q (.panic c) a w):
  ∀(m:Nat) (S:World->Prop) (r:List Nat) (listed:Array Bool) (a:Act) (w:World),r.length=m->r.Pairwise (·<·)->(∀i,i∈r↔i<l.length/\listed.getD i true=false)->listed.size=l.length ->
   (∀j oj,l.toArray[j]?=some oj->listed.getD j false=true->∀e∈oj.after,Region.binds .any e=true->listed.getD e.on false=true)->S w->Iu P l Q S m r a w->wpAnyH P .any l.toArray Q S m listed a w:=by
 have hB':=hB;simp only[B1,Bool.and_eq_true]at hB';obtain⟨⟨hns,hord⟩,_⟩:=hB';have hsel:=Region.noSelect_spec hns;intro m
 induction m with
 |zero =>
  intro S r listed a w hm hs hr hsz hcl hS h;have:r=[]:=List.length_eq_zero_iff.1 hm;subst this;refine⟨?_,h⟩;rw[List.eq_nil_iff_forall_not_mem];intro i hi;obtain⟨h1,o,ho,_⟩:=mem_ready.1 hi;have hlt:i<l.length:=by have:=(Array.getElem?_eq_some_iff.1 ho).1;simpa using this
  have:=(hr i).2 ⟨hlt,h1⟩;cases this
 |succ m ih =>
  intro S r listed a w hm hs hr hsz hcl hS h;have hready:∀j,j∈Region.ready .any l.toArray listed↔j∈r/\Ya l r j=true:=by
   intro j;rw[mem_ready,hr j];constructor
   ·rintro⟨h1,o,ho,h2⟩;have hlt:j<l.length:=by have:=(Array.getElem?_eq_some_iff.1 ho).1;simpa using this
    refine⟨⟨hlt,h1⟩,?_⟩;unfold Ya;have ho':l[j]?=some o:=by simpa using ho
    rw[ho'];rw[Array.all_eq_true_iff_forall_mem];intro e he;cases hb:Region.binds .any e with
    |false=>rfl
    |true =>
     have:=h2 e he hb;simp only[Bool.not_true,Bool.false_or,Bool.not_eq_true',List.contains_eq_mem,decide_eq_false_iff_not];intro hmem;have h3:=((hr e.on).1 hmem).2;rw[getD_both h3]at this;cases this
   rintro⟨⟨hlt,h1⟩,h2⟩;obtain⟨o,ho,hed⟩:=X4 hord hlt;refine⟨h1,o,ho,λe he hb=>?_⟩;unfold Ya at h2;have ho':l[j]?=some o:=by simpa using ho
   rw[ho',Array.all_eq_true_iff_forall_mem]at h2;have:=h2 e he;rw[hb]at this;simp only[Bool.not_true,Bool.false_or,Bool.not_eq_true',List.contains_eq_mem,decide_eq_false_iff_not]at this;cases hv:listed.getD e.on false with
   |true=>rfl
   |false =>
    have hel:=hed e he hb;exact absurd ((hr e.on).2 ⟨O,getD_in O hv⟩) this
  have next:∀j,j∈Region.ready .any l.toArray listed->∀(S:World->Prop) a' w',S w'->Iu P l Q S m (r.erase j) a' w'->wpAnyH P .any l.toArray Q S m (listed.setIfInBounds j true) a' w':=by
   intro j hj S a' w' hS' h';have hjr:=((hready j).1 hj).1;have hjsz:j<listed.size:=by rw[hsz];exact((hr j).1 hjr).1
   refine ih S (r.erase j) _ a' w' (by rw[List.length_erase_of_mem hjr];omega) (hs.sublist List.erase_sublist) (λk=>?_) (by simpa using hsz) (λk ok hk hl e he hb=>?_) hS' h'
   ·rw[List.Nodup.mem_erase_iff (hs.imp λh=>Nat.ne_of_lt h),hr k];by_cases hjk:j=k
    ·subst hjk;simp[hjsz]
    rw[getD_set_ne true hjk];simp[Ne.symm hjk]
   by_cases hjk:j=k
   ·subst hjk;obtain⟨_,oj,hoj,hall⟩:=mem_ready.1 hj;have:ok=oj:=Option.some.inj (hk.symm.trans hoj);subst this;exact getD_set_true (hall e he hb)
   rw[getD_set_ne false hjk]at hl;exact getD_set_true (hcl k ok hk hl e he hb)
  unfold Iu at h;cases hp:Wu l r with
  |some j =>
   rw[hp]at h;obtain⟨oj,v,hoj0,hy,h'⟩:=h;have hoj:l.toArray[j]?=some oj:=by simpa using hoj0
   have hjr:j∈r:=List.mem_of_find?_eq_some hp;have hqr:=List.find?_some hp;simp only[Bool.and_eq_true]at hqr;have hq:JX oj.op=true:=by have:=hqr.1;unfold TM at this;rw[hoj0]at this;exact this
   have hj:j∈Region.ready .any l.toArray listed:=(hready j).2 ⟨hjr,hqr.2⟩;have hjs:=mem_ready.1 hj;have happ:∀k ok,l.toArray[k]?=some ok->k≠j->listed.getD k true=false->(∀e∈ok.after,Region.binds .any e=true->e.on≠j)->oj.apart l.toArray ok=true:=by
    intro k ok hok hkj hun hno;have hnw:Region.waitsFor .any l.toArray k j=false:=by
     cases hv:Region.waitsFor .any l.toArray k j with
     |false=>rfl
     |true =>
      obtain⟨o',ho',e,he,hb,hon⟩:=Region.waitsFor_spec hv;have:o'=ok:=Option.some.inj (ho'.symm.trans hok);subst this;exact absurd hon (hno e he hb)
    have hnw2:Region.waitsFor .any l.toArray j k=false:=by
     cases hv:Region.waitsFor .any l.toArray j k with
     |false=>rfl
     |true =>
      obtain⟨o',ho',e,he,hb,hon⟩:=Region.waitsFor_spec hv;obtain⟨_,o2,ho2,hall⟩:=hjs;have:o'=o2:=Option.some.inj (ho'.symm.trans ho2);subst this;have:=hall e he hb;rw[hon,getD_both hun]at this;cases this
    rcases Nat.lt_or_gt_of_ne hkj with hlt | hgt
    ·have:=Bi hB hlt (by simpa using hok) (by simpa using hoj) (by simp[hq]);rw[hnw2]at this;exact ET (by simpa using this)
    have:=Bi hB hgt (by simpa using hoj) (by simpa using hok) (by simp[hq]);rw[hnw]at this;simpa using this
   exact wpAnyH_first hoj hsel (λc a w h=>hQ c a _ v w h) m listed a w happ hj hy hS (next j hj S _ w hS h')
  |none =>
   rw[hp]at h
   match r,hm,hs,hr,h,hready,next with
   |i::r,hm,hs,hr,h,hready,next =>
    have hil:=(hr i).1 w9;have hmin:∀j,j<i->listed.getD j false=true:=by
     intro j hj;cases hv:listed.getD j false with
     |true=>rfl
     |false =>
      have hjl:j<l.length:=O;have:=(hr j).2 ⟨hjl,getD_in O hv⟩;rcases List.mem_cons.1 this with e | e
      ·omega
      have:=(List.pairwise_cons.1 hs).1 j e;omega
    obtain⟨oi,hoi,hed⟩:=X4 hord hil.1;have hri:i∈Region.ready .any l.toArray listed:=mem_ready.2 ⟨hil.2,oi,hoi,λe he hb=>hmin _ (hed e he hb)⟩;refine⟨λh0=>(by rw[h0]at hri;cases hri),λj hj=>?_⟩;have hj':=(hready j).1 hj;exact Rv (wpOp_mono (λa' w' ⟨S',hs,h1,h2⟩=>⟨hs _ h1,qC hs _ _ _ _ (next j hj S' a' w' h1 h2)⟩) (h j hj'.1 hj'.2))
theorem yo{l:List Oper}{Q':Exit->Act->World->Prop}(hB:B1 l=true)(hQ:∀c a w,¬Q' (.panic c) a w){a:Act}{w:World}(hS:S w)(h:Iu P l Q' S l.length (List.range' 0 l.length) a w):
  wpAny P .any l.toArray Q' l.length (Array.replicate l.length false) a w:=by
 refine wpAny_of_held _ _ _ _ (QCc hB (λc a d v w h=>absurd h (hQ c _ w)) l.length S (List.range' 0 l.length) _ a w w9 List.pairwise_lt_range' (λi=>?_) w9 (λj oj _ hl=>(by rw[getD_replicate_false]at hl;cases hl)) hS h);rw[List.mem_range'_1];constructor
 ·intro h;have:i<l.length:=O;simp[this]
 intro h;omega
theorem qM{id:Nat}{a:Act}{l:List Oper}(hm:P.follows .mixedOrders=true)(hB:B1 l=true)(hS:S { w with drawn:=w.drawn+1 })
  (h:Iu P l (XM (Q .normal)) S l.length (List.range' 0 l.length) a { w with drawn:=w.drawn+1 }):(Code.region id l.toArray true).wp P Q a w:=by
 refine wp_region_any hm ?_;have:=yo (P:=P) (Q':=XM (Q .normal)) hB (λc a w h=>h) hS h;simpa using KP (Q':=Q) (λe a w h=>by cases e<;>first | exact h | exact h.elim) _ _ _ _ this
end
section
variable{P:Program}{Q:Exit->Act->World->Prop}{N:Nat}{m:Sl}{E E0:Env}{l:List Oper}{r r':List Nat}{w0:World}{F0:Gs}{bs:List (Nat×Obj)}{G:Gs->Prop}
def JV(P:Program)(l:List Oper)(Q:Exit->Act->World->Prop)(E0:Env)(r:List Nat)(N:Nat)(m:Sl)(E:Env):Prop:=(∀w,St E w->St E0 w)->∀a w,JO N m a->St E w->Iu P l Q (St E0) r.length r a w
def cC(P:Program)(l:List Oper)(Q:Exit->Act->World->Prop)(E:Env)(r:List Nat):Act->World->Prop:=λa w=>∃S':World->Prop,(∀w,S' w->St E w)/\S' w/\Iu P l Q S' r.length r a w
def QD1(P:Program)(l:List Oper)(Q:Exit->Act->World->Prop)(E:Env)(r:List Nat):Act->World->Prop:=λa w=>Iu P l Q (St E) r.length r a w
theorem NV(h:JV P l Q E0 r N m E):JD P l.toArray (XM (QD1 P l Q E0 r)) E0 [] N m E:=λhE a w ha hw=>h hE a w ha hw
theorem QCU{E1:Env}(h1:∀w,St E1 w->St E0 w)(h2:∀w,St E w->St E1 w)(h:JV P l Q E1 r N m E):JD P l.toArray (XM (cC P l Q E0 r)) E0 [] N m E:=λ_ a w ha hw=>⟨St E1,h1,h2 w hw,h h2 a w ha hw⟩
theorem QAD(h:JV P l Q E0 r N m E):JD P l.toArray (XM (cC P l Q E0 r)) E0 [] N m E:=λhE a w ha hw=>⟨St E0,λ_ h=>h,hE w hw,h hE a w ha hw⟩
theorem NW(i:Nat){o:Oper}(hp:Wu l r=some i)(ho:l[i]?=some o)(he:r.erase i=r')(h:JD P l.toArray (XM (QD1 P l Q E0 r')) E0 [o] N m E):JV P l Q E0 r N m E:=by
 intro hE a w ha hw;subst he;have hi:i∈r:=List.mem_of_find?_eq_some hp;rw[B6 hi];unfold Iu;rw[hp];have hq:JX o.op=true:=by
  have:=List.find?_some hp;simp only[Bool.and_eq_true]at this;have:=this.1;unfold TM at this;rw[ho]at this;exact this
 rcases h hE a w ha hw with ⟨_,v,h1,h2⟩ | ⟨h1,_⟩
 ·exact⟨o,v,ho,h1,h2⟩
 rw[hq]at h1;cases h1
theorem UN{o:Oper}{K:Act->World->Prop}(ho:l[i]?=some o)(hq:JX o.op=false)(h:JD P l.toArray (XM K) E0 [o] N m E)(hE:∀w,St E w->St E0 w){a:Act}{w:World}(ha:JO N m a)(hw:St E w):
  wpOp P l.toArray (λ_ _ _=>False) i (λa' w'=>St E0 w'/\K a' w') a w:=by
 have ho':l.toArray[i]?=some o:=by simpa using ho
 unfold wpOp;simp only[ho'];rcases h hE a w ha hw with ⟨h1,_⟩ | ⟨_,h2⟩
 ·rw[hq]at h1;cases h1
 split
 ·rename_i g;rw[if_pos g]at h2;exact .inl h2
 rename_i g;rw[if_neg g]at h2;exact h2
theorem ya(i:Nat){o:Oper}(hp:Wu l r=none)(hl:r.filter (Ya l r)=[i])(ho:l[i]?=some o)(hq:JX o.op=false)(he:r.erase i=r')(h:JD P l.toArray (XM (cC P l Q E0 r')) E0 [o] N m E)(hr:r≠[]:=by decide):JV P l Q E0 r N m E:=by
 intro hE a w ha hw;subst he;obtain⟨x,s,rfl⟩:=List.exists_cons_of_ne_nil hr;show Iu P l Q (St E0) (s.length+1) (x::s) a w;unfold Iu;rw[hp];intro j hj hrd;have hm:j∈(x::s).filter (Ya l (x::s)):=List.mem_filter.2 ⟨hj,hrd⟩;rw[hl]at hm;cases List.mem_singleton.1 hm;refine wpOp_mono (λa' w' ⟨_,S',h1,h2,h3⟩=>⟨S',h1,h2,?_⟩) (UN ho hq h hE ha hw);have e2:s.length=((x::s).erase i).length:=by
  have:=B6 hj;rw[List.length_cons]at this;omega
 rw[e2];exact h3
theorem pU{id:Nat}{bs0:List (Nat×Obj)}(hb0:bs0.Sublist bs)(hm:P.follows .mixedOrders=true)(hB:B1 l=true)(hr:List.range' 0 l.length=r)(h:JV P l (XM (Q .normal)) ⟨w0,F0,bs0,G⟩ r N m ⟨w0,F0,bs,G⟩):J P (.region id l.toArray true) Q N m ⟨w0,F0,bs,G⟩:=λa w ha hw=>by
 subst hr;refine qM hm hB ((hw.imp hb0 λ_ h=>h).drew) ?_;have:=h (λ_ h=>h.imp hb0 λ_ h=>h) a _ ha hw.drew;simpa using this
theorem jJ(h:Fin Q .normal N m E):JV P l (XM (Q .normal)) E0 [] N m E:=λ_=>h
end
end
end
def CH{n sz:Nat}(h:Qu F none n sz cs):Qp T sz (.slice none 0 0) n cs []:=by
 have h0:=h.F6 I;subst h0;have:=h.1;rw[Nat.zero_mul,List.length_eq_zero_iff]at this;subst this;exact .nil
section
variable{a b:Y1}{c:List UInt8}{p:Pt}{v x:Int}{l:List Tm}
def QGo(hv:V0 v=0)(h:Qz [Q9 c,Y3 p v]=0):scT c p v l=qN l/\scE c p v l=TI l:=by
 obtain⟨h1,h2⟩:=BL h;unfold scT scE;rw[hv];simp[h1,h2,Qz]
end
def QCe(p:List Tm):WK (J2 p)=p:=by
 unfold WK J2;rw[List.map_map]
 conv=>rhs;rw[<-List.map_id p]
 refine List.map_congr_left λt _=>?_;show(Jc (Q6 t.1),t.2)=t;rw[Ww]
def uA{p:List Tm}(h:i<p.length):el (J2 p) i=(Q6 (el p i).1,(el p i).2):=by
 rw[J8 (by rw[FW];exact h),J8 h];simp[J2]
theorem QGR(l:List Int):Wr l<=l.sum:=by
 unfold Wr
 induction l with
 |nil=>exact Int.le_refl _
 |cons a l ih=>rw[List.map_cons,List.sum_cons,List.sum_cons];split<;>omega
def Bq(k:Nat)(p:List Tm):Prop:=Bd p k 64 1800 12
section
variable{k:Nat}{v:Int}{p:List Tm}
def Bq.QG1(h:Bq k p):∀t∈p,Xo t.1=false:=λt ht=>Wv (h.sz t ht) (Nat.le_refl _)
theorem Bq.QIs(h:Bq k p)(hk:(k:Int)=v+1):Y3 (J2 p) v=0:=by
 have hln:=h.ln;unfold Y3;rw[FW,if_neg (by rw[decide_eq_true_eq];omega)];have hz:∀i,i<p.length->Wc (J2 p) v i=0:=λi hi=>by
  have hm:=Ql hi;obtain⟨h1,h2⟩:=h.nn _ hm;have e1:VW (Q6 (el p i).1) (el p i).2 v=0:=by
   unfold VW;rw[if_neg (wm<|h.wd _ hm),if_neg,ER (h.QG1 _ hm),if_neg]
   ·rfl
   ·rw[decide_eq_true_eq];have:=QGR (el p i).2;omega
   intro e;obtain⟨x,hx,hx2⟩:=List.any_eq_true.1 e;rw[decide_eq_true_eq]at hx2;have:=h1 x hx;omega
  have e2:(Q6 (el p i).1==[48])=false:=by
   rw[Ru];exact decide_eq_false (h.can.nz _ hm)
  unfold Wc;dsimp only;rw[uA hi];dsimp only;rw[e1,e2,if_neg]
  ·rfl
  rintro⟨_,h0,hc⟩;have hi1:i-1<p.length:=O;rw[uA hi1]at hc;have hb:before (el p (i-1)).2 (el p i).2=true:=by
   rw[J8 hi1,J8 hi];exact List.pairwise_iff_getElem.1 h.can.srt (i-1) i hi1 hi O
  rw[Hu,decide_eq_true_eq]at hb;dsimp only at hc;omega
 have key:∀(l:List Int),(∀x∈l,x=0)->Qz l=0:=by
  intro l
  induction l with
  |nil=>intro _;rfl
  |cons a l ih =>
   intro hl;unfold Qz;rw[if_pos (hl a List.mem_cons_self)];exact ih λx hx=>hl x (List.mem_cons_of_mem _ hx)
 refine key _ λx hx=>?_;obtain⟨i,hi,rfl⟩:=List.mem_map.1 hx;exact hz i (List.mem_range.1 hi)
theorem Bq.res(h:Bq k p):TI p=0/\qN p=J2 p:=by
 have h1:yy p<=12:=by
  cases p with
  |nil=>exact(by decide:(0:Int)<=12)
  |cons t l=>exact(h.nn t List.mem_cons_self).2
 have h2:=h.ln;have h3:Gb p=false:=by
  unfold Gb;rw[List.any_eq_false];intro t ht e;rw[h.QG1 t ht]at e;cases e
 have e:TI p=0:=by
  unfold TI;rw[if_neg (by rw[decide_eq_true_eq];omega),if_neg (by rw[decide_eq_true_eq];omega),h3];rfl
 exact⟨e,by unfold qN;rw[if_pos e]⟩
def Bq.txt(h:Bq k p):∀x∈J2 p,x.1.length<=1000000/\x.2.length<=k:=λx hx=>by
 unfold J2 at hx;obtain⟨t,ht,rfl⟩:=List.mem_map.1 hx;have h1:=Hq t.1;have h2:=h.sz t ht;exact⟨by dsimp only;omega,by rw[h.wd t ht];exact Nat.le_refl _⟩
theorem Bq.QCg{a:Y1}(h:Bq k p)(hk:k<=1000)(hA:Z4 F a.1 a.2 (J2 p)):c9 a :=
 Z4.QCg hA (λx hx=>wm<|h.txt x hx) (by rw[FW];have:=h.ln;omega)
end
section
variable{w:World}{F:Gs}{k:Nat}{v:Int}{p q:List Tm}{a b:Y1}
theorem QBu(hF:Fits F w)(hA:Z4 F a.1 a.2 (J2 p))(hB:Z4 F b.1 b.2 (J2 q))(hk:k<=1000)(hp:Bq k p)(e:p=q):QY prog 14 [a.1.v,b.1.v] w F (.bool true):=by
 have ht:=hp.QCg hk hA;have h:=Uq (q:=a.1.q) (n:=a.1.n) (cap:=a.1.cap) (q2:=b.1.q) (n2:=b.1.n) (cap2:=b.1.cap) hF hA.1 hA.2.1 hB.1 hB.2.1 hA.2.2.2.2 hB.2.2.2.2 (λt ht2=>(ht.2.1 t ht2).2) ht.2.2;rw[hA.2.2.1,hB.2.2.1,e,decide_eq_true rfl]at h;exact h
theorem QDr{c:List UInt8}{y:Rat}(hF:Fits F w)(hGl:JZ F)(hA:Z4 F a.1 a.2 (J2 p))(hk:(k:Int)=v+1)(hv:0<=v/\v<=24)(hc:Q9 c=0)(hy:Jc c=y)(hcl:c.length<=1000000)(hp:Bq k p)(hr:Bq k (K4 y p)):
  QQ prog 13 [tx c,a.1.v,.int .i64 v] w F (λ(c:Y1)=>.tuple #[c.1.v,.int .i64 0]) (λc F=>Z4 F c.1 c.2 (J2 (K4 y p))):=by
 have h:=qG (a:=a) (c:=c) (v:=v) hF hGl hA.1 hA.2.1 (hp.QCg O hA) hcl;have hv0:=(Fi v).2 hv;have e0:Qz [Q9 c,Y3 (Y7 a.2) v]=0:=by rw[hc,hA.2.2.1,hp.QIs hk];rfl
 rw[(QGo hv0 e0).1,(QGo hv0 e0).2,hA.2.2.1,QCe,hy,hr.res.1,hr.res.2]at h;exact h
end
structure F2 where
 k:Int
 r:List UInt8
instance :Inhabited F2:=⟨⟨0,[]⟩⟩
def BV(f:F2):List Value:=[Qs f.k,tx f.r]
def Zw(f:F2):(BV f).length=2:=rfl
theorem QGD(l:List F2):∀v∈l.flatMap BV,v.oneCell'=true:=λv hv=>by
 obtain⟨f,_,h⟩:=List.mem_flatMap.1 hv;simp only[BV,List.mem_cons,List.not_mem_nil,or_false]at h;rcases h with rfl | rfl<;>rfl
structure Xe where
 kd:List UInt8
 fd:Sr
 fl:List F2
 ou:Int
 st:List UInt8
 cv:Sr
 cl:List (List UInt8)
variable{u:Xe}{us:List Xe}
instance :Inhabited Xe:=⟨⟨[],default,[],0,[],default,[]⟩⟩
def MJ(u:Xe):List Value:=[tx u.kd,.slice u.fd.q u.fd.n u.fd.cap,Qs u.ou,tx u.st,.slice u.cv.q u.cv.n u.cv.cap]
def ZO(u:Xe):(MJ u).length=5:=rfl
theorem QFN(l:List Xe):∀v∈l.flatMap MJ,v.oneCell'=true:=λv hv=>by
 obtain⟨f,_,h⟩:=List.mem_flatMap.1 hv;simp only[MJ,List.mem_cons,List.not_mem_nil,or_false]at h;rcases h with rfl | rfl | rfl | rfl | rfl<;>rfl
structure UB(F:Gs)(u:Xe):Prop where
 fd:Qu F u.fd.q u.fd.n 2 (u.fl.flatMap BV)
 cv:Qu F u.cv.q u.cv.n 1 (u.cl.map tx)
 MQ:u.fl.length=u.fd.n
 RA:u.cl.length=u.cv.n
 yw:u.fd.n<=u.fd.cap
def UB.le{F':Gs}(h:UB F u)(k:Gs.le F F'):UB F' u:=⟨h.fd.le k,h.cv.le k,h.MQ,h.RA,h.yw⟩
instance{u:Xe}: Up (λF=>UB F u):=⟨λk h=>UB.le h k⟩
structure ZL where
 sh:Int
 un:Sr
 ul:List Xe
 ot:Sr
 ol:List Int
@[reducible] def ZL.v (p:ZL):Value:=.agg #[Qs p.sh,.slice p.un.q p.un.n p.un.cap,.slice p.ot.q p.ot.n p.ot.cap]
structure KO(F:Gs)(p:ZL):Prop where
 un:Qu F p.un.q p.un.n 5 (p.ul.flatMap MJ)
 us:∀u∈p.ul,UB F u
 ot:Qu F p.ot.q p.ot.n 1 (p.ol.map Qs)
 MK:p.ul.length=p.un.n
 QEH:p.ol.length=p.ot.n
theorem KO.le{F':Gs}{p:ZL}(h:KO F p)(k:Gs.le F F'):KO F' p:=⟨h.un.le k,λu hu=>(h.us u hu).le k,h.ot.le k,h.MK,h.QEH⟩
instance{p:ZL}: Up (λF=>KO F p):=⟨λk h=>KO.le h k⟩
def Vj:List UInt8:=[105,110,116,101,103,114,97,116,111,114]
def Ab:List UInt8:=[97,100,100,101,114]
def WR:List UInt8:=[116,97,98,108,101]
def PR:Vj≠Ab/\Vj≠WR/\Ab≠WR:=wv
def WB(sh:Int)(f:F2):Int:=if f.k<0\/f.k>=sh then 10 else if Q9 f.r≠0 then Q9 f.r else if f.r=[48]then 6 else 0
def EB(u:Xe):Bool:=(if u.kd=Vj then decide (u.fl.length=2)else if u.kd=Ab then decide (1<=u.fl.length/\u.fl.length<=8)else decide (u.fl.length=1))&&(if u.kd=WR then decide (1<=u.cl.length/\u.cl.length<=13)else decide (u.cl.length=0))
def VM(sh:Int)(u:Xe):Int :=
 if ¬(u.kd=Vj\/u.kd=Ab\/u.kd=WR)then 13 else if EB u=false then 2 else
  if Qz (u.fl.map (WB sh))≠0 then Qz (u.fl.map (WB sh))else if u.ou<1\/u.ou>=sh then 10 else if Q9 u.st≠0 then Q9 u.st else Qz (u.cl.map Q9)
structure WV(sh:Int)(u:Xe):Prop where
 kd:u.kd=Vj\/u.kd=Ab\/u.kd=WR
 shp:EB u=true
 fd:∀f∈u.fl,(0<=f.k/\f.k<sh)/\Q9 f.r=0/\Jc f.r≠0
 ou:1<=u.ou/\u.ou<sh
 st:Q9 u.st=0
 cv:∀a∈u.cl,Q9 a=0
theorem LW(h:VM sh u=0):WV sh u:=by
 unfold VM at h;split at h
 ·cases h
 rename_i h1;split at h
 ·cases h
 rename_i h2;split at h
 ·rename_i h3;exact absurd h h3
 rename_i h3;split at h
 ·cases h
 rename_i h4;split at h
 ·rename_i h5;exact absurd h h5
 rename_i h5;refine⟨Classical.not_not.1 h1,by simpa using h2,λf hf=>?_,O,Classical.not_not.1 h5,λa ha=>HK h _ (List.mem_map_of_mem ha)⟩;have h6:=HK (Classical.not_not.1 h3) _ (List.mem_map_of_mem hf);unfold WB at h6;split at h6
 ·cases h6
 rename_i h7;split at h6
 ·rename_i h8;exact absurd h6 h8
 rename_i h8;split at h6
 ·cases h6
 rename_i h9;have h10:=Classical.not_not.1 h8;exact⟨O,h10,λe=>h9 (by rw[(Xa h10).1,e,DP])⟩
def QEA(u:Xe):Prop:=u.kd=Vj/\∃a b:F2,u.fl=[a,b]/\b.k=0/\u.cl=[]
theorem uj(h:WV sh u)(hk:u.kd=Vj)(h0:(el u.fl 1).k=0):QEA u:=by
 have h1:=h.shp;unfold EB at h1;rw[if_pos hk,if_neg (by rw[hk];exact PR.2.1),Bool.and_eq_true,decide_eq_true_eq,decide_eq_true_eq]at h1;obtain⟨h2,h3⟩:=h1
 match hl:u.fl,h2 with
 |[a,b],_ =>
  rw[hl]at h0;exact⟨hk,a,b,hl,h0,List.length_eq_zero_iff.1 h3⟩
def Ew(k:Int):List Xe->Nat->Int
 |[],_=>-1
 |u::us,i=>if u.ou=k then(i:Int)else Ew k us (i+1)
def BW(us:List Xe)(k:Int):Int:=Ew k us 0
def Vu(u:Xe):List F2:=if u.kd=Vj then u.fl.drop 1 else u.fl
def O7(us:List Xe)(out:List Int)(i:Nat):Bool:=!(decide ((i:Int)∈out))&&(Vu (el us i)).all λf=>decide (BW us f.k<0)||decide (BW us f.k∈out)
def nxt(us:List Xe)(out:List Int):Option Nat:=(List.range us.length).find? (O7 us out)
def xY(us:List Xe):Nat->List Int->List Int
 |0,out=>out
 |n+1,out=>match nxt us out with
  |none=>out
  |some i=>xY us n (out++[(i:Int)])
def X9(us:List Xe):List Int:=xY us us.length []
theorem kf:∀ {us:List Xe} {i:Nat},(∀u∈us,u.ou≠k)->Ew k us i = -1
 |[],_,_=>rfl
 |u::us,i,h=>by
  simp_all[Ew,if_neg,kf,List.mem_cons_of_mem]
def D6(n:Nat):List Int:=(List.range n).map λk:Nat=>(k:Int)
theorem L6{n:Nat}{i:Nat}:((i:Int)∈D6 n)↔i<n:=by
 unfold D6
 grind
section
variable{us:List Xe}(h:∀u∈us,QEA u/\1<=u.ou)
include h
theorem O6{i:Nat}(hi:i<us.length):O7 us out i=!(decide ((i:Int)∈out)):=by
 obtain⟨⟨hk,a,b,hl,hb,_⟩,_⟩:=h _ (Ql hi);have e1:Vu (el us i)=[b]:=by unfold Vu;simp_all
 grind[BW,kf,O7]
theorem QC3(hj:j<=us.length):nxt us (D6 j)=if j<us.length then some j else none:=by
 unfold nxt;split
 ·rename_i hlt;rw[List.find?_range_eq_some];refine⟨?_,List.mem_range.2 hlt,λi hi=>?_⟩
  ·rw[O6 h hlt,decide_eq_false (λhm=>absurd (L6.1 hm) (Nat.lt_irrefl _))];rfl
  rw[O6 h O,decide_eq_true (L6.2 hi)];rfl
 rw[List.find?_range_eq_none];intro i hi;rw[O6 h hi,decide_eq_true (L6.2 O)];rfl
theorem xX:∀n j,j<=us.length->us.length<=n+j->xY us n (D6 j)=D6 us.length
 |0,j,h1,h2=>by grind[xY]
 |n+1,j,h1,h2=>by
  rw[xY,QC3 h h1];by_cases g:j<us.length
  ·rw[if_pos g];have e:(D6 j)++[(j:Int)]=D6 (j+1):=by unfold D6;rw[List.range_succ,List.map_append];rfl
   show xY us n _=_;rw[e];exact xX n _ O O
  grind
theorem kU:X9 us=D6 us.length:=xX h _ 0 (Nat.zero_le _) O
end
theorem QCP{x:Int}:(l.any λy=>decide (y=x))=decide (x∈l):=by
 grind
def gR(u:Xe):Sr:=if u.kd=Vj then⟨if u.fd.cap=1 then u.fd.q else u.fd.q.map λa=>a.add (1*2),u.fd.n-1,u.fd.cap-1⟩else u.fd
theorem QEd(l:List F2)(j:Nat):(l.flatMap BV).drop (j*2)=(l.drop j).flatMap BV:=by
 induction j generalizing l with
 |zero=>simp
 |succ j ih =>
  cases l with
  |nil=>simp
  |cons a l=>rw[List.flatMap_cons,List.drop_succ_cons,<-ih,show(j+1)*2=2+j*2 by omega,<-List.drop_drop];rfl
def RP(h:UB F u)(hc:u.fd.n<=u.fd.cap):Qu F (gR u).q (gR u).n 2 ((Vu u).flatMap BV):=by
 unfold gR Vu;split
 ·have:=h.fd.drop hc 1;rw[QEd]at this;omega
 exact h.fd
theorem gQ(h:u.fl.length=u.fd.n):(Vu u).length=(gR u).n:=by
 grind[gR,Vu,List.length_drop]
theorem QAx:(gR u).n<=u.fd.n:=by
 unfold gR
 grind
structure QBm(us:List Xe)(k:Int) where
 i:Nat
 le:i<=us.length
 h:BW us k=Ew k (us.drop i) i
def QBm.next(s:QBm us k)(h:s.i<us.length)(hne:(el us s.i).ou≠k):BW us k=Ew k (us.drop (s.i+1)) (s.i+1):=by
 rw[s.h,BX h,Ew,if_neg hne]
def QBm.hit(s:QBm us k)(h:s.i<us.length)(e:(el us s.i).ou=k):BW us k=((s.i:Nat):Int):=by
 rw[s.h,BX h,Ew,if_pos e]
def QBm.stop(s:QBm us k)(h:us.length<=s.i):BW us k = -1:=by
 rw[s.h,List.drop_of_length_le h];rfl
def P8(u:Xe):Bool:=u.kd==Vj
def Yq(us:List Xe):Nat:=us.countP P8
structure OwV(T:TypeId)(sz n:Nat)(l:List Value) where
 v:Value
 ob:List (Nat×Obj)
 hr:Qp T sz v n l ob
structure OwI(T:TypeId)(sz N:Nat)(f:Nat->List Value) where
 i:Nat
 v:Value
 ob:List (Nat×Obj)
 le:i<=N
 hr:Qp T sz v i (f i) ob
structure DnJ(n:Nat) where
 j:Nat
 le:j<=n
def Ot:List (List UInt8)->Rat->Rat
 |[],_=>0
 |c::cs,x=>Ot cs x*x+Jc c
theorem FV{x:Rat}(hx:XH x<=4801):∀ {l:List _},(∀a∈l,Q9 a=0)->XH (Ot l x)<=l.length*7202+1
 |[],_=>by show XH 0<=0*7202+1;decide
 |c::cs,h=>by
  have ih:=FV hx λa ha=>h a (List.mem_cons_of_mem _ ha);have h1:=Xt (h c (List.mem_cons_self ..))
  grind[Zg,Ot,qY,Jc,List.length_cons,XH]
theorem QFa{r:Rat}{b:List UInt8}(hF:Fits F w)(hr:XH r<=100000)(hb:Q9 b=0):QY prog 188 [tx (Q6 r),tx b] w F (tx (Q6 (r+Jc b))):=by
 have h:=j7 hF hr (Nat.le_trans (Xt hb) wv)
 grind[Xa]
structure FT{α:Type}(l:List α)(p:α->Bool) where
 i:Nat
 le:i<=l.length
def FT.n{α:Type}{l:List α}{p:α->Bool}(s:FT l p):Nat:=(l.take s.i).countP p
theorem FT.QHj{l:List α}{p:α->Bool}(s:FT l p):s.n<=s.i:=by
 grind[List.countP_le_length,List.length_take,FT.n]
def Hb[Inhabited α]{l:List α}{p:α->Bool}{i:Nat}(h:i<l.length):(l.take (i+1)).countP p=(l.take i).countP p+(if p (el l i)=true then 1 else 0):=by
 rw[XF h,List.countP_append,List.countP_singleton]
theorem kK{n:Nat}{x:Int}(hF:Fits F w)(hR:Qu F q n 1 (l.map Qs))(hn:l.length=n)(hb:n<=1000000000):QY prog 185 [.slice q n c,.int .i64 x] w F (.bool (decide (x∈l))):=by
 rw[<-QCP];refine QQ.intro func185 rfl w8 rfl rfl hF (λF' hF'=>hR.le hF')<|QKt<|wR rfl<|QG<|QKt<|wR rfl<|QO<|Jo (ι:=V4 l λy=>decide (y=x)) [(0,_),(1,_)] (λi=>[(5,.int .i64 ((i.i:Nat):Int))]) (λi=>l.length-i.i) (V4.start _ _) wU wT λi=>QG<|wS rfl<|QJj rfl<|QA (QW rfl Qd)<|QA (QR rfl rfl rfl)<|QF<|QC ?_
 refine QL I (λhc2=>?_) λhc2=>?_
 ·have hlt:i.i<l.length:=by simp_all
  refine QLj 8 I<|QA (Qo _ tC rfl rfl Qd QZ O)<|QA (Qg _ tC O rfl QZ (ZF O))<|QLi 4 I ?_
  refine QL I (λhc2=>?_) λhc2=>?_
  ·have heq:decide (el l i.i=x)=true:=O;refine wA 6 I ?_;exact QL3 I I (congrArg _ (i.hit hlt heq)) tB
  have hne:decide (el l i.i=x)=false:=O;refine QK<|Qa<|QLk 3 I<|QA (Qk I I O)<|wB 2 I ?_
  exact Qb (i.next hlt hne) (by show l.length-(i.i+1)<l.length-i.i;omega)
 have hge:l.length<=i.i:=by simp_all
 refine Q7 ?_;refine wA 6 I ?_;exact QL3 I I (congrArg _ (Bool.eq_false_iff.2 (i.stop hge))) tB
theorem jv(hF:Fits F w)(hU:UB F u)(hc:u.fd.n<=u.fd.cap)(h1:1<=u.fd.n):QY prog 180 [.agg (MJ u).toArray] w F (gR u).v:=by
 refine QQ.intro func180 rfl w8 rfl rfl hF (λF' hF'=>hU.le hF')<|QKt<|Q8 rfl rfl λb1=>wR rfl<|QG<|QKt<|QA (QH rfl Ks YZ)<|QA (Qf rfl YZ .here .h1)<|QA (ZD rfl rfl)<|QF<|QC ?_
 refine QL I (λhc2=>?_) λhc2=>?_
 ·have hk:u.kd=Vj:=by grind[Vj]
  refine QKt<|QA (QH I ZV XK)<|QA (Qf I XK .here (.skip .h1))<|QA (N9 1 rfl rfl rfl Zz YC h1 hc)<|wR I<|QT ?_
  exact QL3 I I (by simp_all[gR,if_pos]) tB
 have hk:u.kd≠Vj:=by grind[Vj]
 refine QLj 4 I<|QA (QH I ZV XK)<|QA (Qf I XK .here (.skip .h1))<|wR I<|QT ?_
 exact QL3 I I (by simp_all[gR,if_neg]) tB
theorem QCr{p:ZL}(hF:Fits F w)(hP:KO F p)(hb:p.un.n<=1000000000):QY prog 186 [p.v,.int .i64 k] w F (.int .i64 (BW p.ul k)):=by
 have LU:=hP.MK;refine QQ.intro func186 rfl w8 rfl rfl hF (λF' hF'=>hP.le hF')<|QKt<|Q8 rfl rfl λb2=>wR rfl<|QG<|QKt<|wR rfl<|QO<|Jo (ι:=QBm p.ul k) [(1,_),(2,_)] (λi=>[(5,.int .i64 ((i.i:Nat):Int))]) (λi=>p.ul.length-i.i) (⟨0,Nat.zero_le _,rfl⟩) wU wT λi=>QG<|wS rfl<|QA (QH rfl XS Jj)<|QA (Qf rfl Jj .here (.skip .h1))<|QA (QW rfl Xr)<|QA (QR rfl rfl rfl)<|QF<|QC ?_
 refine QL I (λhc2=>?_) λhc2=>?_
 ·have hlt:i.i<p.ul.length:=by simp_all
  refine QLj 6 I<|QA (QH I XS Jj)<|QA (Qf I Jj .here (.skip .h1))<|QJj I<|QA (Qo _ (λF hP=>hP.un) rfl rfl Xr XJ O)<|QA (QH I KI QZ)<|QA (Qg ((i.i)*5+2) (λF hP=>hP.un) O rfl QZ (Q4 ZO O rfl))<|QLi 4 I ?_
  refine QL I (λhc2=>?_) λhc2=>?_
  ·have heq:(el p.ul i.i).ou=k:=by simp_all
   refine wA 7 I ?_;exact QL3 I I (congrArg _ (i.hit hlt heq)) tB
  have hne:(el p.ul i.i).ou≠k:=by simp_all
  refine QK<|Qa<|QLk 3 I<|QA (Qk I I O)<|wB 2 I ?_
  exact Qb (⟨i.i+1,hlt,i.next hlt hne⟩)
 have hge:p.ul.length<=i.i:=by simp_all
 refine Q7 ?_;refine wA 6 I ?_;exact QL3 I I (congrArg _ (i.stop hge)) tB
theorem Ut{p:ZL}(hF:Fits F w)(hP:KO F p)(hb:p.un.n<=1000000000):QY prog 111 [p.v] w F (.int .i64 (Yq p.ul:Nat)):=by
 have LU:=hP.MK;refine QQ.intro func111 rfl w8 rfl rfl hF (λF' hF'=>hP.le hF')<|QKt<|Q8 rfl rfl λb1=>wR rfl<|QKt<|wR rfl<|QG<|QKt<|wR rfl<|QO<|Jo (ι:=FT p.ul P8) [(1,_)] (λi=>[(3,.int .i64 ((i.n:Nat):Int)),(4,.int .i64 ((i.i:Nat):Int))]) (λi=>p.ul.length-i.i) (⟨0,Nat.zero_le _⟩) wT wU λi=>?_
 have hin:=i.QHj;refine wA 4 I<|QA (QH I XS Jj)<|QA (Qf I Jj .here (.skip .h1))<|QA (QW I Xr)<|QLi 3 I ?_
 refine QL I (λhc2=>?_) λhc2=>?_
 ·have hlt:i.i<p.ul.length:=by simp_all
  refine QLj 6 I<|QA (QH I XS Jj)<|QA (Qf I Jj .here (.skip .h1))<|QJj I<|QA (Qo _ (λF hP=>hP.un) rfl rfl Xr XJ O)<|QA (QH I Ks YZ)<|QA (Qg ((i.i)*5+0) (λF hP=>hP.un) O rfl YZ (Q4 ZO O rfl))<|QA (ZD I I)<|QF<|QC ?_
  refine QL I (λhc2=>?_) λhc2=>?_
  ·have hk:P8 _=true:=hc2;refine wA 2 I<|QA (Qk I I O)<|wB 2 I<|Qa<|QLk 3 I<|QA (Qk I I O)<|wB 2 I ?_
   exact Qb (⟨i.i+1,hlt⟩) (hm:=⟨rfl,(congrArg (λz:Int=>some _) (by unfold FT.n;rw[Hb hlt,if_pos hk];rfl)),rfl,trivial⟩)
  have hk:P8 _=false:=hc2;refine QK<|Qa<|QLk 3 I<|QA (Qk I I O)<|wB 2 I ?_
  exact Qb (⟨i.i+1,hlt⟩) (hm:=⟨rfl,(congrArg (λz:Int=>some _) (by unfold FT.n;rw[Hb hlt,if_neg (by simp_all)];rfl)),rfl,trivial⟩)
 have hge:p.ul.length<=i.i:=by simp_all
 refine Q7 ?_;refine wA 7 I ?_;exact QL3 I I (congrArg (λn:Nat=>Value.int .i64 (n:Int)) (by unfold FT.n;rw[List.take_of_length_le hge];rfl)) tB
theorem QDu{bs:List _}{n:Int}(hb:n<=1000000):Jn prog 183 [.int .i64 n] ⟨w0,F0,bs,G⟩ (λ(c:OwV 45 1 n.toNat (List.replicate n.toNat (tx [48])))=>c.v) (λc=>⟨w0,F0,c.ob++bs,G⟩):=by
 refine Jn.intro func183 rfl w8 rfl rfl<|QKt<|wR rfl<|QKt<|wR rfl<|QG<|QKt<|wR rfl<|QO<|ZH (ι:=OwI 45 1 n.toNat λi=>List.replicate i (tx [48])) [(0,_)] (λi=>[(3,i.v),(4,.int .i64 ((i.i:Nat):Int))]) (λi=>i.ob++bs) (λi F=>True) (λi=>n.toNat-i.i) (⟨0,_,[],Nat.zero_le _,.nil⟩) wT wU λi=>?_
 have hi:=i.le;refine wA 8 I ?_;refine QL I (λhc2=>?_) λhc2=>?_
 ·have hlt:i.i<n.toNat:=by simp_all
  refine QLj 6 I<|Qw I (JR YI) JP yk I I λb11=>?_
  refine DA (news:=[tx [48]]) I I YI JP yk I kj i.hr (Src.row tE (λj q hq=>by rw[Nat.zero_add];rw[List.getElem?_toArray];exact hq) rfl) O O (Zn wT) (λv12 ob12 hr12=>?_);refine wB 2 I<|Qa<|QLk 3 I<|QA (Qk I I O)<|wB 2 I ?_
  exact Qb (⟨i.i+1,v12,ob12,hlt,by grind[List.replicate_succ']⟩)
 have hge:i.i=n.toNat:=by grind
 refine Q7 ?_;refine wA 7 I ?_;exact ZN (⟨i.v,i.ob,by have h:=i.hr;simp_all⟩) I (wO I) (rfl) λw hw=>hw.imp QJ3 tD
theorem QCl{n:Nat}{l:List _}{x:Rat}(hF:Fits F w)(hR:Qu F q n 1 (l.map tx))(hn:l.length=n)(hl:n<=13)(hx:XH x<=4801)(hc:∀a∈l,Q9 a=0):QY prog 176 [.slice q n c,tx (Q6 x)] w F (tx (Q6 (Ot l x))):=by
 refine QQ.intro func176 rfl w8 rfl rfl hF (λF' hF'=>hR.le hF')<|QKt<|wR rfl<|QKt<|wR rfl<|QG<|wS rfl<|QA (QW rfl YI)<|QA (Jk rfl rfl O)<|wR rfl<|QO<|Jo (ι:=DnJ _) [(0,_),(1,_)] (λi=>[(5,tx (Q6 (Ot (l.drop i.j) x))),(6,.int .i64 (((i.j:Nat):Int)-1))]) (λi=>i.j) (⟨l.length,Nat.le_refl _⟩) wU ⟨(by show some _=some _;rw[List.drop_length];show _=some (tx (Q6 0));rw[DP]),(congrArg (λz:Int=>some _) (by simp_all)),trivial⟩ λi=>?_
 have hi:=i.le;have hsz:=FV (l:=l.drop i.j) hx (λa ha=>hc a (List.mem_of_mem_drop ha));rw[List.length_drop]at hsz;refine wA 7 I ?_;refine QL I (λhc2=>?_) λhc2=>?_
 ·have hpos:1<=i.j:=by grind
  have hcm:=hc _ (Ql (show i.j-1<l.length by omega));refine QLj 4 I<|JC QJ3 mixed wu<|QI (QD I)<|QI (QD I)<|QV I (λ_ _ f k=>IQ f O O) λ_=>QI (QD I)<|QI (QD I)<|QI (Qo ((i.j-1)) tC rfl (congrArg (λz:Int=>some _) O) YI JP O)<|QI (Qg _ tC O rfl JP (ZF O))<|QV I (λ_ _ f k=>QFa f (Nat.le_trans (Zg _ _) O) hcm) λ_=>QI (QE I)<|Qv<|Qa<|QLk 3 I<|QA (Jk I I O)<|wB 2 I ?_
  exact Qb (⟨i.j-1,O⟩) (hm:=⟨rfl,rfl,(by show some (tx _)=some (tx _);rw[BX (i:=i.j-1) O,show i.j-1+1=i.j by omega];rfl),(congrArg (λz:Int=>some (Value.int .i64 z)) (by grind)),trivial⟩)
 have h0:i.j=0:=by grind
 refine Q7 ?_;refine wA 7 I ?_;exact QL3 I I (by simp_all) tB
structure FP(us:List Xe)(out:List Int):Prop where
 nd:out.Nodup
 rg:∀x∈out,0<=x/\x<(us.length:Int)
 eq:X9 us=xY us (us.length-out.length) out
 le:out.length<=us.length
theorem xk:∀(n:Nat) (l:List Int),l.Nodup->(∀x∈l,0<=x/\x<(n:Int))->l.length<=n:=by
 intro n l hl hr;have h1:(l.map Int.toNat).Nodup:=by
  refine List.pairwise_map.2 (hl.imp_of_mem λha hb hne e=>hne ?_)
  grind
 have:=Hp n _ h1 λj hj=>by
  grind
 simp_all
def FP.start(us:List Xe):FP us []:=⟨List.nodup_nil,λx h=>(by cases h),rfl,Nat.zero_le _⟩
theorem QFY{i:Nat}(h:O7 us out i=true):(i:Int)∉out:=by
 simp_all[O7,Bool.and_eq_true]
theorem FP.next(s:FP us out){i:Nat}(hi:i<us.length)(h:nxt us out=some i):FP us (out++[(i:Int)])/\out.length<us.length:=by
 have hr:=List.find?_some h;have hn:=QFY hr;have nd:(out++[(i:Int)]).Nodup:=by
  rw[List.nodup_append];exact⟨s.nd,w9,λa ha b hb e=>by simp_all⟩
 have rg:∀x∈out++[(i:Int)],0<=x/\x<(us.length:Int):=λx hx=>by
  rcases List.mem_append.1 hx with hx | hx
  ·exact s.rg x hx
  simp_all
 have hl:=xk _ _ nd rg;rw[List.length_append]at hl;have hl1:[(i:Int)].length=1:=rfl;refine⟨⟨nd,rg,?_,by simp_all⟩,O⟩;rw[s.eq,show us.length-out.length=(us.length-(out++[(i:Int)]).length)+1 by grind,xY,h]
def FP.stop(s:FP us out)(h:nxt us out=none):X9 us=out:=by
 rw[s.eq];cases us.length-out.length with
 |zero=>rfl
 |succ n=>rw[xY,h]
theorem QFf(us:List Xe):∀n out,FP us out->us.length-out.length<=n->FP us (X9 us):=by
 intro n
 induction n with
 |zero =>
  intro out s h;have e:X9 us=out:=by rw[s.eq,show us.length-out.length=0 by omega];rfl
  simp_all
 |succ n ih =>
  intro out s h;cases hx:nxt us out with
  |none=>rw[s.stop hx];exact s
  |some i =>
   have hi:=List.mem_range.1 (List.mem_of_find?_eq_some hx);exact ih _ (s.next hi hx).1 (by grind)
def gH(us:List Xe):FP us (X9 us):=QFf us _ [] (FP.start us) (Nat.le_refl _)
def nxJ(us:List Xe)(out:List Int)(j:Nat):Int:=match ((List.range us.length).drop j).find? (O7 us out)with
 |some i=>(i:Int)
 |none=>-1
theorem j6{n:Nat}(h:j<n):(List.range n).drop j=j::(List.range n).drop (j+1):=by
 grind[List.drop_eq_getElem_cons]
def QFl(us:List Xe)(out:List Int):nxJ us out us.length = -1:=by
 unfold nxJ;rw[List.drop_of_length_le w9];rfl
theorem QFk(h:j<us.length)(hr:O7 us out j=true):nxJ us out j=j:=by
 grind[nxJ,j6]
theorem uy(h:j<us.length)(hr:O7 us out j=false):nxJ us out j=nxJ us out (j+1):=by
 grind[nxJ,j6]
def QGv:nxJ us out 0=match nxt us out with
  |some i=>(i:Int)
  |none=>-1:=rfl
theorem QFj(h:nxJ us out 0<0):nxt us out=none:=by
 rw[QGv]at h
 grind
theorem QFi(h:¬nxJ us out 0<0):∃i:Nat,nxt us out=some i/\i<us.length/\nxJ us out 0=i:=by
 rw[QGv]at h ⊢;cases hx:nxt us out with
 |none=>simp_all
 |some i=>exact⟨i,rfl,List.mem_range.1 (List.mem_of_find?_eq_some hx),rfl⟩
def okF(us:List Xe)(out:List Int)(f:F2):Bool:=decide (BW us f.k<0)||decide (BW us f.k∈out)
def rdK(us:List Xe)(out:List Int)(i k:Nat):Bool:=!(decide ((i:Int)∈out))&&((Vu (el us i)).take k).all (okF us out)
def QI0(us:List Xe)(out:List Int)(i:Nat):rdK us out i 0=!(decide ((i:Int)∈out)):=by simp[rdK]
theorem uW{k:Nat}(h:k<(Vu (el us i)).length)(hr:rdK us out i k=true):rdK us out i (k+1)=okF us out (el (Vu (el us i)) k):=by
 simp_all[rdK,Bool.and_eq_true,XF,List.all_append]
def QFZ{k:Nat}(h:(Vu (el us i)).length<=k):rdK us out i k=O7 us out i:=by
 unfold rdK;rw[List.take_of_length_le h];rfl
theorem kM{k:Nat}(h:rdK us out i k=false):O7 us out i=false:=by
 cases hr:O7 us out i with
 |false=>rfl
 |true =>
  have:rdK us out i k=true:=by
   unfold O7 at hr;unfold rdK;rw[Bool.and_eq_true]at hr ⊢;exact⟨hr.1,List.all_eq_true.2 λf hf=>List.all_eq_true.1 hr.2 f (List.mem_of_mem_take hf)⟩
  simp_all
structure QKb(us:List Xe)(out:List Int)(i:Nat) where
 k:Nat
 b:Bool
 le:k<=(Vu (el us i)).length
 h:b=rdK us out i k
structure QKn(us:List Xe) where
 out:List Int
 v:Value
 ob:List (Nat×Obj)
 ok:FP us out
 hr:Qp 3 1 v out.length (out.map Qs) ob
def UnB(us:List Xe):Prop:=∀u∈us,1<=u.fd.n/\u.fd.n<=1000000000
def UE(sh:Int)(us:List Xe):List (List UInt8):=us.foldl (λl u=>l.set u.ou.toNat u.st) (List.replicate sh.toNat [48])
theorem TA(sh:Int)(us:List Xe):(UE sh us).length=sh.toNat:=by
 unfold UE
 suffices ∀(us:List Xe) (l:List _),(us.foldl (λl u=>l.set u.ou.toNat u.st) l).length=l.length by simp_all
 intro us
 induction us<;>simp_all
def uI(h:i<us.length):UE sh (us.take (i+1))=(UE sh (us.take i)).set (el us i).ou.toNat (el us i).st:=by
 unfold UE;rw[XF h,List.foldl_append];rfl
theorem BI{f:α->Value}{l:List α}{rest:List Value}(hi:i<l.length)(x:α):KC (l.map f++rest) (0+i*1) [f x] ((l.set i x).map f++rest):=by
 have e0:l=l.take i++l[i]::l.drop (i+1):=w9;have e1:l.set i x=l.take i++x::l.drop (i+1):=by grind
 have a1:l.map f++rest=(l.take i).map f++([f l[i]]++((l.drop (i+1)).map f++rest)):=by
  grind
 have a2:(l.set i x).map f++rest=(l.take i).map f++([f x]++((l.drop (i+1)).map f++rest)):=by
  simp_all
 rw[a1,a2,show 0+i*1=((l.take i).map f).length by grind];exact Fb I
theorem js{p:ZL}(hF:Fits F w)(hP:KO F p)(hb:p.un.n<=1000000)(hu:UnB p.ul):QQ prog 116 [p.v] w F (λ(c:Sr)=>c.v) (λc F=>Qu F c.q c.n 1 ((X9 p.ul).map Qs)/\c.n=(X9 p.ul).length/\c.n<=c.cap):=by
 have LU:=hP.MK;refine QQ.intro func116 rfl w8 rfl rfl hF (λF' hF'=>hP.le hF')<|QKt<|Q8 rfl rfl λb1=>wR rfl<|QG<|Jf .here<|QB<|wR rfl<|QO<|ZH (ι:=QKn p.ul) [(1,_)] (λi=>[(3,i.v)]) (λi=>i.ob) (λi F=>True) (λi=>p.ul.length-i.out.length) (⟨[],_,[],FP.start _,.nil⟩) wT wT λi=>?_
 have hole:=i.ok.le;refine wA 9 I<|QA (QH I XS Jj)<|QA (Qy 1 (λF h9=>h9.1.2) rfl Jj I)<|QA (QW I Xr)<|QA (Jk I I O)<|wR I<|QO<|Jo (ι:=DnJ p.ul.length) [(1,_),(3,_)] (λi2=>[(4,.int .i64 (nxJ p.ul i.out i2.j)),(5,.int .i64 (((i2.j:Nat):Int)-1))]) (λi2=>i2.j) (⟨p.ul.length,Nat.le_refl _⟩) wU ⟨(congrArg (λz:Int=>some (Value.int .i64 z)) (by rw[QFl])),(congrArg (λz:Int=>some (Value.int .i64 z)) (by simp_all)),trivial⟩ λi2=>?_
 have hi2:=i2.le;refine wA 7 I ?_;refine QL I (λhc2=>?_) λhc2=>?_
 ·have hpos:1<=i2.j:=by grind
  have hlt2:i2.j-1<p.ul.length:=O;have hum:=Ql hlt2;have hu1:=hu _ hum;have hml:=gQ (hP.us _ hum).MQ;have hmle:=QAx (u:=el p.ul (i2.j-1));refine QLj 8 I<|QCV i.hr tC rfl (λw F q c e hcap hR hF ⟨⟨hP,hz1⟩,_⟩=>by rw[e];exact kK hF hR rfl O) λ_ _=>QA (YD I)<|QLi 5 I<|QA (QH I XS Jj)<|QA (Qy 1 (λF h9=>h9.1.2) rfl Jj I)<|QJj I<|QA (Qo ((i2.j-1)) (λF h9=>h9.1.1.un) rfl wN Xr XJ O)<|QA (JG (((i2.j-1))*5) (λF h9=>h9.1.1.un) O rfl XJ I λj v hv=>Q4 ZO O hv)<|QJ I (λ_ _ f k=>jv f (k.1.1.us _ hum) (k.1.1.us _ hum).yw hu1.1) λ_=>QLi 10 I<|Jo (ι:=QKb p.ul i.out (i2.j-1)) [(1,_),(3,_),(4,_),(5,_),(7,_)] (λi3=>[(6,.bool (i3.b)),(8,.int .i64 ((i3.k:Nat):Int))]) (λi3=>(Vu (el p.ul (i2.j-1))).length-i3.k) (⟨0,!(decide (((i2.j-1:Nat):Int)∈i.out)),Nat.zero_le _,(QI0 _ _ _).symm⟩) wX ⟨(congrArg (λz:Int=>some (Value.bool !(decide (z∈i.out)))) O),rfl,trivial⟩ λi3=>?_
  have hk3:=i3.le;refine wA 5 I<|QA (QW I Zz)<|wB 2 I ?_
  refine Qn (t:=32) rfl (λhb32=>?_) λhb32=>?_
  ·have hlt3:i3.k<(Vu (el p.ul (i2.j-1))).length:=by simp_all
   refine QLi 5 I ?_;refine QL I (λhc2=>?_) λhc2=>?_
   ·have hbt:=hc2;refine QLj 5 I<|JC QJ3 mixed wu<|QI (Z7 (λF h9=>h9.1.1.2) rfl Zf I)<|QI (QD I)<|QI (QD I)<|QI (Qo (i3.k) (λF h9=>(RP (h9.1.1.1.us _ hum) (h9.1.1.1.us _ hum).yw)) I I Zz YC O)<|QI (QH I GB QZ)<|QI (Qg ((i3.k)*2+0) (λF h9=>(RP (h9.1.1.1.us _ hum) (h9.1.1.1.us _ hum).yw)) O rfl QZ (Q4 (l:=(Vu (el p.ul (i2.j-1)))) Zw O rfl))<|QV I (λ_ _ f k=>QCr f k.1.1.1 O) λ_=>QI (QE I)<|Qv<|QLk 5 I ?_
    refine Qn (t:=46) rfl (λhb46=>?_) λhb46=>?_
    ·refine wB 6 I<|Qa<|QLk 3 I<|QA (Qk I I O)<|wB 2 I ?_
     exact Qb (⟨i3.k+1,true,hlt3,by rw[uW hlt3 (by rw[<-i3.h];omega)];unfold okF;simp_all⟩)
    refine wB 5 I<|QCV (sz:=1) i.hr tC rfl (λw F q c e hcap hR hF ⟨⟨⟨⟨hP,hz1⟩,_⟩,_⟩,_⟩=>by rw[e];exact kK hF hR rfl O) λ_ _=>wB 3 I<|Qa<|QLk 3 I<|QA (Qk I I O)<|wB 2 I ?_
    exact Qb (⟨i3.k+1,decide (BW p.ul (el (Vu (el p.ul (i2.j-1))) i3.k).k∈i.out),hlt3,by rw[uW hlt3 (by rw[<-i3.h];omega)];unfold okF;grind⟩)
   have hfls:=hc2;refine Q7 ?_;refine wA 5 I ?_;refine QL I (λhc2=>?_) λhc2=>?_
   ·have hrd:O7 p.ul i.out (i2.j-1)=true:=by
     simp_all
    simp_all
   have hrd:O7 p.ul i.out (i2.j-1)=false:=kM (k:=i3.k) (by rw[<-i3.h];omega);refine QK<|Qa<|QLk 3 I<|QA (Jk I I O)<|wB 2 I ?_
   exact Qb (⟨i2.j-1,O⟩) (hm:=⟨rfl,rfl,(congrArg (λz:Int=>some (Value.int .i64 z)) (by grind[uy])),(congrArg (λz:Int=>some (Value.int .i64 z)) (by grind)),trivial⟩)
  have hge3:(Vu (el p.ul (i2.j-1))).length<=i3.k:=by simp_all
  refine QLi 4 I<|ZP I<|Q7 ?_
  refine wA 5 I ?_;refine QL I (λhc2=>?_) λhc2=>?_
  ·have hrd:O7 p.ul i.out (i2.j-1)=true:=by
    first
    |exact absurd hc2 (by rw[hfls];decide)
    |(rw[<-QFZ hge3,<-i3.h];omega)
   refine wA 4 I<|Qa<|QLk 3 I<|QA (Jk I I O)<|wB 2 I ?_
   exact Qb (⟨i2.j-1,O⟩) (hm:=⟨rfl,rfl,(congrArg (λz:Int=>some (Value.int .i64 z)) (by grind[QFk])),(congrArg (λz:Int=>some (Value.int .i64 z)) (by grind)),trivial⟩)
  have hrd:O7 p.ul i.out (i2.j-1)=false:=kM (k:=i3.k) (by rw[<-i3.h];omega);refine QK<|Qa<|QLk 3 I<|QA (Jk I I O)<|wB 2 I ?_
  exact Qb (⟨i2.j-1,O⟩) (hm:=⟨rfl,rfl,(congrArg (λz:Int=>some (Value.int .i64 z)) (by grind[uy])),(congrArg (λz:Int=>some (Value.int .i64 z)) (by grind)),trivial⟩)
 have h20:i2.j=0:=by grind
 refine Q7 ?_;refine wA 7 I ?_;refine QL I (λhc2=>?_) λhc2=>?_
 ·have hnone:nxt p.ul i.out=none:=QFj (by simp_all);refine QG<|QB ?_
  have hre:=i.ok.stop hnone;obtain⟨rr,hv,hrn,hrc,hfix⟩:=Qp.fix (w0:=w) (F0:=F) (bs1:=[]) (G:=_) i.hr;refine Vp hfix ?_;rw[hv];refine QLi 4 I<|X6 ?_
  exact QM (rr) rfl (wO I) (rfl) λF ⟨⟨⟨hP,hz1⟩,_⟩,hrow⟩=>by simp_all
 obtain⟨k,hk1,hk2,hk3⟩:=QFi (us:=p.ul) (out:=i.out) (by simp_all);have hnext:=i.ok.next hk2 hk1;refine QLj 5 I<|Qw I (JR Qd) QZ Hj I I λb58=>Zj (bs1:=[]) (ob:=i.ob) (k:=1) (sz:=1) (news:=[.int .i64 (nxJ p.ul i.out i2.j)]) I I Qd QZ Hj I Ws i.hr (Src.row (off:=0) tE (λj v hv=>by rw[Nat.zero_add];show([.int .i64 (nxJ p.ul i.out i2.j)].toArray)[j]?=some v;simp_all) rfl) O O (Zn wT) λv59 ob59 hr59=>wB 2 I<|Qa ?_
 exact Qb (⟨i.out++[((k:Nat):Int)],v59,ob59,hnext.1,by rw[List.map_append,List.length_append];have:=hr59;rw[h20,hk3]at this;exact this⟩) (by grind)
structure UnL(u:Xe):Prop where
 fn:u.fd.n<=1000000
 cn:u.cv.n<=1000000
 st:u.st.length<=1000000
 fr:∀f∈u.fl,f.r.length<=1000000
 ca:∀a∈u.cl,a.length<=1000000
structure QGW(u:Xe):Prop where
 fn:u.fd.n<=9223372036854775807
 cn:u.cv.n<=9223372036854775807
 st:u.st.length<=9223372036854775807
 fr:∀f∈u.fl,f.r.length<=9223372036854775807
 ca:∀a∈u.cl,a.length<=9223372036854775807
structure IxJ(n:Nat) where
 i:Nat
 le:i<=n
def Iy(kd:List UInt8):Int:=if kd=Vj then 2 else 1
def xw(kd:List UInt8):Int:=if kd=Vj then 2 else if kd=Ab then 8 else 1
abbrev kd3(kd:List UInt8):Prop:=kd=Vj\/kd=Ab\/kd=WR
def Vb(u:Xe):Bool:=decide ((u.fl.length:Int)<Iy u.kd)||decide ((u.fl.length:Int)>xw u.kd)||(u.kd==WR&&(decide ((u.cl.length:Int)<1)||decide ((u.cl.length:Int)>13)))||(u.kd != WR&&decide ((u.cl.length:Int)>0))
theorem qd(h:kd3 u.kd):EB u=!Vb u:=by
 unfold EB Vb Iy xw
 grind
theorem Kj(h:¬kd3 u.kd):VM sh u=13:=by simp_all[VM,if_pos,Vj,Ab,WR]
theorem Ki(h:kd3 u.kd)(hs:Vb u=true):VM sh u=2:=by
 unfold VM;rw[if_neg (Classical.not_not.2 (show u.kd=Vj\/u.kd=Ab\/u.kd=WR from h)),if_pos (by rw[qd h,hs];rfl)]
section
variable{sh:Int}{u:Xe}(h:kd3 u.kd)(hs:Vb u=false)
include h hs
theorem Ze{x:Int}(e:Qz (u.fl.map (WB sh))=x)(hx:x≠0):VM sh u=x:=by
 unfold VM;rw[if_neg (Classical.not_not.2 (show u.kd=Vj\/u.kd=Ab\/u.kd=WR from h)),if_neg (by grind[qd,decide]),if_pos O,e]
theorem Hl(e:Qz (u.fl.map (WB sh))=0)(ho:u.ou<1\/u.ou>=sh):VM sh u=10:=by
 unfold VM;rw[if_neg (Classical.not_not.2 (show u.kd=Vj\/u.kd=Ab\/u.kd=WR from h)),if_neg (by grind[qd,decide]),if_neg (Classical.not_not.2 e),if_pos ho]
theorem Gg(e:Qz (u.fl.map (WB sh))=0)(ho:¬(u.ou<1\/u.ou>=sh)):VM sh u=if Q9 u.st≠0 then Q9 u.st else Qz (u.cl.map Q9):=by
 unfold VM;rw[if_neg (Classical.not_not.2 (show u.kd=Vj\/u.kd=Ab\/u.kd=WR from h)),if_neg (by grind[qd,decide]),if_neg (Classical.not_not.2 e),if_neg ho]
end
theorem kD{p:ZL}(hF:Fits F w)(hP:KO F p)(hb:p.un.n<=1000000)(hs:1<=p.sh/\p.sh<=1000000)(hou:∀u∈p.ul,0<=u.ou/\u.ou<p.sh):QQ prog 113 [p.v] w F (λ(c:Sr)=>c.v) (λc F=>Qu F c.q c.n 1 ((UE p.sh p.ul).map tx)/\c.n=p.sh.toNat/\c.n<=c.cap):=by
 have LU:=hP.MK;refine QQ.intro func113 rfl w8 rfl rfl hF (λF' hF'=>hP.le hF')<|QKt<|Q8 rfl rfl λb1=>wR rfl<|QG<|Jf .here<|QB<|QA (QH rfl WT QZ)<|QA (Qy 0 tE rfl QZ rfl)<|Xj rfl (List.Perm.refl _) (QDu O) λc7=>?_
 obtain⟨v7,ob7,hr7⟩:=c7;obtain⟨b7,cap7,rest7,e1,e2,e3,e4,e5,e6⟩:=hr7.pos O;dsimp only;rw[e1,e2,show List.replicate _ (tx [48])=(UE p.sh (p.ul.take 0)).map tx by simp[UE]];rw[List.length_replicate]at e4;refine QLi 10 I<|ZH (ι:=IxJ p.ul.length) [(1,_),(3,_)] (λi=>[(4,.int .i64 ((i.i:Nat):Int))]) (λi=>[(b7,.cells ((UE p.sh (p.ul.take i.i)).map tx++rest7).toArray 45 (0,0))]) (λi F=>True) (λi=>p.ul.length-i.i) (⟨0,Nat.zero_le _⟩) wU wT λi=>?_
 have hi:=i.le;refine wA 4 I<|QA (QH I XS Jj)<|QA (Qy 1 (λF h9=>h9.1.2) rfl Jj I)<|QA (QW I Xr)<|QLi 3 I ?_
 refine QL I (λhc2=>?_) λhc2=>?_
 ·have hlt:i.i<p.ul.length:=by simp_all
  have ho:=hou _ (Ql hlt);refine QLj 4 I<|JY 14 QJ3 mixed wu wu ?_
  simp only[List.take_succ_cons,List.take_zero,List.drop_succ_cons,List.drop_zero];refine QI (QD I)<|QI (QH I XS Jj)<|QI (Qy 1 (λF h9=>h9.1.2) rfl Jj I)<|QI (QD I)<|QI (Qo i.i (λF h9=>h9.1.1.un) rfl rfl Xr XJ O)<|QI (QH I KI QZ)<|QI (Qg ((i.i)*5+2) (λF h9=>h9.1.1.un) O rfl QZ (Q4 ZO O rfl))<|QI (QH I XS Jj)<|QI (Qy 1 (λF h9=>h9.1.2) rfl Jj I)<|QI (QD I)<|QI (Qo i.i (λF h9=>h9.1.1.un) rfl rfl Xr XJ O)<|QI (QH I Bv JP)<|QI (Qg ((i.i)*5+3) (λF h9=>h9.1.1.un) O rfl JP (Q4 ZO O rfl))<|QI (Qj (i:=(el p.ul i.i).ou.toNat) rfl wN YI JP O)<|X1<|QS I I I JP I .here (BI (by grind[TA]) (el p.ul i.i).st) wT ?_
  rw[<-uI hlt];refine QF<|Qa<|QLk 3 I<|QA (Qk I I O)<|wB 2 I ?_
  exact Qb (⟨i.i+1,hlt⟩)
 have hge:p.ul.length<=i.i:=by simp_all
 have hll:=TA p.sh (p.ul.take i.i);refine Q7 ?_;refine QG<|QB ?_
 obtain⟨rr,hv,hrn,hrc,hfix⟩:=Qp.fix (bs1:=[]) (Qp.some (sz:=1) (l:=(UE p.sh (p.ul.take i.i)).map tx) (rest:=rest7) (by simp_all) (by simp_all) e5 e6);refine Vp hfix ?_;rw[hv];refine QLi 5 I ?_;exact QM (rr) rfl (wO I) (rfl) λF ⟨⟨⟨hP,hz1⟩,_⟩,hrow⟩=>by grind
theorem vi{p:ZL}(hF:Fits F w)(hU:UB F u)(hL:QGW u):QY prog 175 [p.v,.agg (MJ u).toArray] w F (.int .i64 (VM p.sh u)):=by
 have hfl:=hU.MQ;have hcl:=hU.RA;have hfn:=hL.fn;have hcn:=hL.cn;refine QQ.go (G:=λF=>UB F u) func175 hF hU ?_;refine QKt<|Q8 I (vs:=[_,_,_]) I λb2=>Q8 I (vs:=[_,_,_,_,_]) I λb3=>wR I<|QG<|Jf (b:=b2) .u1<|Jf (b:=b3) .here<|QLj 5 I ?_
 refine Ft (ι:=PLift (kd3 u.kd)) [(2,_),(3,_)] (λk3=>[(5,.int .i64 (Iy u.kd)),(6,.int .i64 (xw u.kd))]) (λk3=>[]) (λk3 F=>True) (by trivial) ?_ ?_
 ·refine QKt<|QA (QH I Ks YZ)<|QA (Qy 0 tE rfl YZ I)<|QLi 5 I<|QA (ZD I I)<|QLi 3 I ?_
  refine QL I (λhc2=>?_) λhc2=>?_
  ·have hkI:u.kd=Vj:=by grind[Vj]
   refine wA 4 I<|Qa ?_
   exact P7 (⟨.inl hkI⟩) ⟨rfl,rfl,(congrArg (λz:Int=>some (Value.int .i64 z)) (by simp_all[Iy,if_pos])),(congrArg (λz:Int=>some (Value.int .i64 z)) (by simp_all[xw,if_pos])),trivial⟩
  have hkI:u.kd≠Vj:=by grind[Vj]
  refine QKt<|QA (ZD I I)<|QLi 3 I ?_
  refine QL I (λhc2=>?_) λhc2=>?_
  ·have hkA:u.kd=Ab:=by grind[Ab]
   refine wA 4 I<|Qa ?_
   exact P7 (⟨.inr (.inl hkA)⟩) ⟨rfl,rfl,(congrArg (λz:Int=>some (Value.int .i64 z)) (by simp_all[Iy,if_neg])),(congrArg (λz:Int=>some (Value.int .i64 z)) (by simp_all[xw,if_neg,if_pos])),trivial⟩
  have hkA:u.kd≠Ab:=by grind[Ab]
  refine QKt<|QA (ZD I I)<|QLi 3 I ?_
  refine QL I (λhc2=>?_) λhc2=>?_
  ·have hkT:u.kd=WR:=by grind[WR]
   refine wA 4 I<|Qa ?_
   exact P7 (⟨.inr (.inr hkT)⟩) ⟨rfl,rfl,(congrArg (λz:Int=>some (Value.int .i64 z)) (by simp_all[Iy,if_neg])),(congrArg (λz:Int=>some (Value.int .i64 z)) (by simp_all[xw,if_neg])),trivial⟩
  have hkT:u.kd≠WR:=by grind[WR]
  refine wA 5 I<|X6 ?_
  exact QL3 I I (congrArg (Value.int .i64) (by
   first
   |grind[Kj]
   |exact Ki hk3 (by unfold Vb WR;rw[hfl,hcl];simp_all)
   |exact Ze hk3 hs ((i.hit hlt (by rw[hfe];decide)).trans hfe) wv
   |exact Ze hk3 hs (i.hit hlt h90) h90
   |exact Hl hk3 hs hfz hoo
   |exact Gg hk3 hs hfz hko)) tB
 intro k3;have hk3:=k3.down;refine QKt<|QA (QH I H8 KR)<|QA (Qy 4 (λF h9=>h9.1.2) rfl KR I)<|QA (QW I YI)<|QLi 3 I ?_
 refine Ft (ι:=PLift (Vb u=false)) [(2,_),(3,_)] (λks=>[]) (λks=>[]) (λks F=>True) (by trivial) ?_ ?_
 ·refine QKt<|QA (QH I ZV XK)<|QA (Qy 1 (λF h9=>h9.1.2) rfl XK I)<|QA (QW I Zz)<|wB 3 I ?_
  refine Qn (t:=28) rfl (λhb28=>?_) λhb28=>?_
  ·refine wB 11 I<|Jb I I<|Jb I I<|Jb I I<|Jb I I<|Jb I I<|Jb I I<|wB 7 I<|Jb I I<|Jb I I<|QLi 4 I<|ZB I<|wA 6 I ?_
   exact QL3 I I (congrArg (Value.int .i64) (by
    first
    |exact Kj λh=>h.elim hkI λh=>h.elim hkA hkT
    |grind[Ki,Vb,WR]
    |exact Ze hk3 hs ((i.hit hlt (by rw[hfe];decide)).trans hfe) wv
    |exact Ze hk3 hs (i.hit hlt h90) h90
    |exact Hl hk3 hs hfz hoo
    |exact Gg hk3 hs hfz hko)) tB
  refine QP I I<|QA (QH I ZV XK)<|QP I I<|QA (Qy 1 (λF h9=>h9.1.2) rfl XK I)<|QP I I<|QA (QW I Zz)<|wB 6 I ?_
  refine Qn (t:=35) rfl (λhb35=>?_) λhb35=>?_
  ·refine wB 4 I<|Jb I I<|Jb I I<|Jb I I<|Jb I I<|Jb I I<|Jb I I<|wB 7 I<|Jb I I<|Jb I I<|QLi 4 I<|ZB I<|wA 6 I ?_
   exact QL3 I I (congrArg (Value.int .i64) (by
    first
    |exact Kj λh=>h.elim hkI λh=>h.elim hkA hkT
    |grind[Ki,Vb,WR]
    |exact Ze hk3 hs ((i.hit hlt (by rw[hfe];decide)).trans hfe) wv
    |exact Ze hk3 hs (i.hit hlt h90) h90
    |exact Hl hk3 hs hfz hoo
    |exact Gg hk3 hs hfz hko)) tB
  refine QP I I<|QA (QH I Ks YZ)<|QP I I<|QA (Qy 0 (λF h9=>h9.1.2) rfl YZ I)<|QP I I<|QA (ZD I I)<|wB 2 I ?_
  refine Qn (t:=39) rfl (λhb39=>?_) λhb39=>?_
  ·refine wB 6 I ?_;refine Qn (t:=42) rfl (λhb42=>?_) λhb42=>?_
   ·refine wB 12 I<|Jb I I<|Jb I I<|QLi 4 I<|ZB I<|wA 6 I ?_
    exact QL3 I I (congrArg (Value.int .i64) (by
     first
     |exact Kj λh=>h.elim hkI λh=>h.elim hkA hkT
     |grind[Ki,Vb,WR]
     |exact Ze hk3 hs ((i.hit hlt (by rw[hfe];decide)).trans hfe) wv
     |exact Ze hk3 hs (i.hit hlt h90) h90
     |exact Hl hk3 hs hfz hoo
     |exact Gg hk3 hs hfz hko)) tB
   refine wB 10 I ?_;refine Qn (t:=48) rfl (λhb48=>?_) λhb48=>?_
   ·refine wB 4 I<|Jb I I<|Jb I I<|QLi 4 I<|ZB I<|wA 6 I ?_
    exact QL3 I I (congrArg (Value.int .i64) (by
     first
     |exact Kj λh=>h.elim hkI λh=>h.elim hkA hkT
     |grind[Ki,Vb,WR]
     |exact Ze hk3 hs ((i.hit hlt (by rw[hfe];decide)).trans hfe) wv
     |exact Ze hk3 hs (i.hit hlt h90) h90
     |exact Hl hk3 hs hfz hoo
     |exact Gg hk3 hs hfz hko)) tB
   refine QP I I<|QA (QH I Ks YZ)<|QP I I<|QA (Qy 0 (λF h9=>h9.1.2) rfl YZ I)<|QP I I<|QA (PA I I)<|wB 2 I ?_
   refine Qn (t:=52) rfl (λhb52=>?_) λhb52=>?_
   ·refine QLi 9 I ?_;refine QL I (λhc2=>?_) λhc2=>?_
    ·refine wA 6 I ?_;exact QL3 I I (congrArg (Value.int .i64) (by
      simp_all)) tB
    refine QK ?_;exact P7 (⟨by simp_all⟩)
   refine QLi 7 I<|ZP I<|QK ?_
   exact P7 (⟨by grind[Vb,WR]⟩)
  refine wB 3 I<|Jb I I<|Jb I I<|wB 6 I<|QA (QH I Ks YZ)<|QP I I<|QA (Qy 0 (λF h9=>h9.1.2) rfl YZ I)<|QP I I<|QA (PA I I)<|wB 2 I ?_
  refine Qn (t:=52) rfl (λhb52=>?_) λhb52=>?_
  ·refine QLi 9 I ?_;refine QL I (λhc2=>?_) λhc2=>?_
   ·refine wA 6 I ?_;exact QL3 I I (congrArg (Value.int .i64) (by
     first
     |exact Kj λh=>h.elim hkI λh=>h.elim hkA hkT
     |grind[Ki,Vb,WR]
     |exact Ze hk3 hs ((i.hit hlt (by rw[hfe];decide)).trans hfe) wv
     |exact Ze hk3 hs (i.hit hlt h90) h90
     |exact Hl hk3 hs hfz hoo
     |exact Gg hk3 hs hfz hko)) tB
   refine QK ?_;exact P7 (⟨by grind[Vb,WR]⟩)
  refine QLi 7 I<|ZP I<|QK ?_
  exact P7 (⟨by simp_all⟩)
 intro ks;have hs:=ks.down;refine wA 7 I<|Jo (ι:=Yj u.fl (WB p.sh)) [(2,_),(3,_)] (λi=>[(8,.int .i64 ((i.i:Nat):Int))]) (λi=>u.fl.length-i.i) (Yj.start _ _) wU wT λi=>?_
 have hi:=i.le;refine wA 4 I<|QA (QH I ZV XK)<|QA (Qy 1 (λF h9=>h9.1.1.2) rfl XK I)<|QA (QW I Zz)<|QLi 3 I ?_
 refine QL I (λhc2=>?_) λhc2=>?_
 ·have hlt:i.i<u.fl.length:=by simp_all
  refine QLj 6 I<|QA (QH I ZV XK)<|QA (Qy 1 (λF h9=>h9.1.1.2) rfl XK I)<|QJj I<|QA (Qo (n:=u.fd.n) i.i (λF h9=>(h9.1.1.1.1).fd) rfl rfl Zz YC O)<|QA (JG (n:=u.fd.n) (vs:=[.int .i64 ((el u.fl i.i).k),tx (el u.fl i.i).r]) ((i.i)*2) (λF h9=>(h9.1.1.1.1).fd) O rfl YC I λj v hv=>Q4 (f:=BV) (l:=u.fl) Zw O hv)<|Qe yi λb9=>QS (vs:=[_,_]) I I I YC I .here .h2 wU<|QLi 5 I<|QA (QH I GB QZ)<|QA (Qf I QZ .here .h1)<|wB 2 I ?_
  refine Qn (t:=72) rfl (λhb72=>?_) λhb72=>?_
  ·have hfe:WB p.sh (el u.fl i.i)=10:=by simp_all[WB,if_pos]
   refine QLi 8 I<|ZB I<|wA 5 I<|X6 ?_
   exact QL3 I I (congrArg (Value.int .i64) (by
    first
    |exact Kj λh=>h.elim hkI λh=>h.elim hkA hkT
    |exact Ki hk3 (by unfold Vb WR;rw[hfl,hcl];simp_all)
    |exact Ze hk3 hs ((i.hit hlt O).trans hfe) wv
    |exact Ze hk3 hs (i.hit hlt h90) h90
    |exact Hl hk3 hs hfz hoo
    |exact Gg hk3 hs hfz hko)) tB
  have hk0:¬(el u.fl i.i).k<0:=by simp_all
  refine QP I I<|QA (QH I GB QZ)<|QP I I<|QA (Qf I QZ .here .h1)<|QP I I<|QA (QH I WT QZ)<|QP I I<|QA (Qy 0 (λF h9=>h9.1.1.1.2) rfl QZ I)<|QLi 5 I ?_
  refine QL I (λhc2=>?_) λhc2=>?_
  ·have hfe:WB p.sh (el u.fl i.i)=10:=by simp_all[WB,if_pos]
   refine wA 5 I<|X6 ?_
   exact QL3 I I (congrArg (Value.int .i64) (by
    first
    |exact Kj λh=>h.elim hkI λh=>h.elim hkA hkT
    |exact Ki hk3 (by unfold Vb WR;rw[hfl,hcl];simp_all)
    |exact Ze hk3 hs ((i.hit hlt O).trans hfe) wv
    |exact Ze hk3 hs (i.hit hlt h90) h90
    |exact Hl hk3 hs hfz hoo
    |exact Gg hk3 hs hfz hko)) tB
  have hkk:¬((el u.fl i.i).k<0\/(el u.fl i.i).k>=p.sh):=λh=>h.elim hk0 (by simp_all);refine QLj 4 I<|QA (QH I Gc JP)<|QA (Qf I JP .here (.skip .h1))<|QJ I (λ_ _ f k=>EE f (hL.fr _ (Ql hlt))) λ_=>QLi 3 I ?_
  refine Zu [(2,_),(3,_),(8,_),(73,_),(74,_),(75,_),(76,_),(77,_)] [(10,.int .i64 (WB p.sh (el u.fl i.i)))] we ?_ ?_
  ·refine wA 5 I ?_;refine Qn (t:=84) rfl (λhb84=>?_) λhb84=>?_
   ·have hz84:Q9 (el u.fl i.i).r=0:=by simp_all
    refine QP I I<|QA (QH I Gc JP)<|QP I I<|QA (Qf I JP .here (.skip .h1))<|QP I I<|QJ I (λ_ _ f k=>qe f) λ_=>QLi 3 I ?_
    refine QL I (λhc2=>?_) λhc2=>?_
    ·have fe6:WB p.sh (el u.fl i.i)=6:=by simp_all[WB,if_neg,if_pos]
     refine wA 3 I ?_;exact J9 ⟨rfl,rfl,rfl,rfl,rfl,rfl,rfl,rfl,(congrArg (λz:Int=>some (Value.int .i64 z)) (by rw[fe6])),trivial⟩
    have fe0:WB p.sh (el u.fl i.i)=Q9 (el u.fl i.i).r:=by simp_all[WB,if_neg]
    refine QK ?_;exact J9 ⟨rfl,rfl,rfl,rfl,rfl,rfl,rfl,rfl,(congrArg (λz:Int=>some (Value.int .i64 z)) (by rw[fe0])),trivial⟩
   have hz84:Q9 (el u.fl i.i).r≠0:=by simp_all
   have fe1:WB p.sh (el u.fl i.i)=Q9 (el u.fl i.i).r:=by simp_all[WB,if_neg,if_pos]
   refine QLi 6 I<|ZP I<|QK ?_
   exact J9 ⟨rfl,rfl,rfl,rfl,rfl,rfl,rfl,rfl,(congrArg (λz:Int=>some (Value.int .i64 z)) (by rw[fe1])),trivial⟩
  refine wA 6 I ?_;refine QL I (λhc2=>?_) λhc2=>?_
  ·have h90:WB p.sh (el u.fl i.i)≠0:=by simp_all
   refine wA 6 I<|X6 ?_
   exact QL3 I I (congrArg (Value.int .i64) (by
    first
    |exact Kj λh=>h.elim hkI λh=>h.elim hkA hkT
    |exact Ki hk3 (by unfold Vb WR;rw[hfl,hcl];simp_all)
    |exact Ze hk3 hs ((i.hit hlt (by rw[hfe];decide)).trans hfe) wv
    |exact Ze hk3 hs (i.hit hlt h90) h90
    |exact Hl hk3 hs hfz hoo
    |exact Gg hk3 hs hfz hko)) tB
  have h90:WB p.sh (el u.fl i.i)=0:=by simp_all
  refine QK<|Qa<|QLk 3 I<|QA (Qk I I O)<|wB 2 I ?_
  exact Qb (i.next hlt h90) (by show u.fl.length-(i.i+1)<u.fl.length-i.i;omega)
 have hge:u.fl.length<=i.i:=by simp_all
 have hfz:=i.stop hge;refine Q7 ?_;refine Ft (ι:=PLift (¬(u.ou<1\/u.ou>=p.sh))) [(3,_)] (λko=>[]) (λko=>[]) (λko F=>True) (by trivial) ?_ ?_
 ·refine QKt<|QA (QH I KI QZ)<|QA (Qy 2 (λF h9=>h9.1.1.2) rfl QZ I)<|wB 2 I ?_
  refine Qn (t:=95) rfl (λhb95=>?_) λhb95=>?_
  ·have hoo:u.ou<1\/u.ou>=p.sh:=.inl (by simp_all);refine QLi 8 I<|ZB I<|wA 6 I ?_
   exact QL3 I I (congrArg (Value.int .i64) (by
    first
    |exact Kj λh=>h.elim hkI λh=>h.elim hkA hkT
    |exact Ki hk3 (by unfold Vb WR;rw[hfl,hcl];simp_all)
    |exact Ze hk3 hs ((i.hit hlt (by rw[hfe];decide)).trans hfe) wv
    |exact Ze hk3 hs (i.hit hlt h90) h90
    |grind[Hl]
    |exact Gg hk3 hs hfz hko)) tB
  have ho1:¬u.ou<1:=by simp_all
  refine QP I I<|QA (QH I KI QZ)<|QP I I<|QA (Qy 2 (λF h9=>h9.1.1.2) rfl QZ I)<|QP I I<|QA (QH I WT QZ)<|QP I I<|QA (Qy 0 (λF h9=>h9.1.1.1.2) rfl QZ I)<|QLi 5 I ?_
  refine QL I (λhc2=>?_) λhc2=>?_
  ·have hoo:u.ou<1\/u.ou>=p.sh:=.inr (by simp_all);refine wA 6 I ?_;exact QL3 I I (congrArg (Value.int .i64) (by
    first
    |exact Kj λh=>h.elim hkI λh=>h.elim hkA hkT
    |exact Ki hk3 (by unfold Vb WR;rw[hfl,hcl];simp_all)
    |exact Ze hk3 hs ((i.hit hlt (by rw[hfe];decide)).trans hfe) wv
    |exact Ze hk3 hs (i.hit hlt h90) h90
    |exact Hl hk3 hs hfz hoo
    |exact Gg hk3 hs hfz hko)) tB
  have hko:¬(u.ou<1\/u.ou>=p.sh):=λh=>h.elim ho1 (by simpa using hc2);refine QK ?_;exact P7 (⟨hko⟩)
 intro ko;have hko:=ko.down;refine QKt<|QA (QH I Bv JP)<|QA (Qy 3 (λF h9=>h9.1.1.1.2) rfl JP I)<|QJ I (λ_ _ f k=>EE f (hL.st)) λ_=>QLi 3 I ?_
 refine Zu [] [(11,.int .i64 (if Q9 u.st≠0 then Q9 u.st else Qz (u.cl.map Q9)))] trivial ?_ ?_
 ·refine wA 6 I ?_;refine QL I (λhc2=>?_) λhc2=>?_
  ·refine QB<|QA (QH I H8 KR)<|QA (Qy 4 (λF h9=>h9.1.1.1.1.2) rfl KR I)<|QJ I (λ_ _ f k=>TJ f k.1.1.1.1.1.1.cv ⟨hcl,hL.ca⟩ hcn) λ_=>wB 2 I ?_
   exact J9 ⟨(congrArg (λz:Int=>some (Value.int .i64 z)) (by rw[if_neg (by simpa using hc2)])),trivial⟩
  refine QK ?_;exact J9 ⟨(congrArg (λz:Int=>some (Value.int .i64 z)) (by rw[if_pos (by simpa using hc2)])),trivial⟩
 refine wA 7 I ?_;exact QL3 I I (congrArg (Value.int .i64) (by
  first
  |exact Kj λh=>h.elim hkI λh=>h.elim hkA hkT
  |exact Ki hk3 (by unfold Vb WR;rw[hfl,hcl];simp_all)
  |exact Ze hk3 hs ((i.hit hlt (by rw[hfe];decide)).trans hfe) wv
  |exact Ze hk3 hs (i.hit hlt h90) h90
  |exact Hl hk3 hs hfz hoo
  |exact Gg hk3 hs hfz hko)) tB
def P9(sh:Int)(k:Int):Bool:=decide (k<0)||decide (k>=sh)
def E3(us:List Xe)(k:Int):Nat:=us.countP λu=>decide (u.ou=k)
def yM(us:List Xe)(i:Nat):Bool:=decide (E3 us ((i:Int)+1)≠1)
def LA(sh:Int)(us:List Xe):Bool:=(List.range (sh.toNat-1)).any (yM us)
def QJ1(sh:Int)(us:List Xe)(u:Xe):Rat:=Ot u.cl (Jc (el u.fl 0).r*Jc (el (UE sh us) (el u.fl 0).k.toNat))
def GQ(sh:Int)(us:List Xe)(u:Xe):Bool:=u.kd==WR&&u.st != Q6 (QJ1 sh us u)
def KL(p:ZL):Int :=
 if p.sh<1\/p.sh>100 then 3 else if p.ul.length>96 then 5 else if Qz (p.ul.map (VM p.sh))≠0 then Qz (p.ul.map (VM p.sh))else
 if p.ol.length>24 then 5 else if p.ol.any (P9 p.sh)=true then 10 else if Yq p.ul>24 then 5 else if LA p.sh p.ul=true then 19 else
 if(X9 p.ul).length<p.ul.length then 18 else if p.ul.any (GQ p.sh p.ul)=true then 30 else 0
theorem Z5(h:WV sh u):1<=u.fl.length/\u.fl.length<=8:=by
 have h1:=h.shp;unfold EB at h1
 grind
theorem Hm(h:WV sh u):u.cl.length<=13:=by
 have h1:=h.shp;unfold EB at h1
 grind
theorem QAW(h:∀u∈us,Q9 u.st=0):∀s∈UE sh us,Q9 s=0:=by
 suffices ∀(us:List Xe) (l:List _),(∀u∈us,Q9 u.st=0)->(∀s∈l,Q9 s=0)->∀s∈us.foldl (λl u=>l.set u.ou.toNat u.st) l,Q9 s=0 from
  this us _ h λs hs=>by rw[(List.mem_replicate.1 hs).2];decide
 intro us
 induction us<;>grind
structure qB(p:ZL):Prop where
 un:p.un.n<=1000000
 ot:p.ot.n<=1000000
 us:∀u∈p.ul,UnL u
structure k6(p:ZL):Prop where
 un:p.un.n<=9223372036854775807
 ot:p.ot.n<=9223372036854775807
 us:∀u∈p.ul,QGW u
theorem vj{p:ZL}(hF:Fits F w)(hP:KO F p)(hL:k6 p):QY prog 106 [p.v] w F (.int .i64 (KL p)):=by
 have LU:=hP.MK;have hol:=hP.QEH;have hun:=hL.un;have hot:=hL.ot;refine QQ.go (G:=λF=>KO F p) func106 hF hP ?_;refine QKt<|Q8 I (vs:=[_,_,_]) I λb1=>QLi 5 I<|Jf (b:=b1) .here<|QB<|QA (QH I WT QZ)<|QA (Qy 0 tE rfl QZ I)<|wB 2 I ?_
 refine Qn (t:=15) rfl (λhb15=>?_) λhb15=>?_
 ·refine QLi 6 I<|ZB I<|wA 6 I ?_
  exact QL3 I I (congrArg (Value.int .i64) (by simp_all[KL,if_pos])) tB
 have hs1:¬p.sh<1:=by simp_all
 refine QP I I<|QA (QH I WT QZ)<|QP I I<|QA (Qy 0 tE rfl QZ I)<|QLi 5 I ?_
 refine QL I (λhc2=>?_) λhc2=>?_
 ·refine wA 6 I ?_;exact QL3 I I (congrArg (Value.int .i64) (by simp_all[KL,if_pos])) tB
 have h1:¬(p.sh<1\/p.sh>100):=λh=>h.elim hs1 (by simp_all);refine QLj 5 I<|QA (QH I XS Jj)<|QA (Qy 1 tE rfl Jj I)<|QA (QW I Xr)<|QLi 3 I ?_
 refine QL I (λhc2=>?_) λhc2=>?_
 ·have h2:p.ul.length>96:=by grind
  refine wA 6 I ?_;exact QL3 I I (congrArg (Value.int .i64) (by simp_all[KL,if_neg,if_pos])) tB
 have h2:¬p.ul.length>96:=by grind
 refine QLj 9 I<|Jo (ι:=Yj p.ul (VM p.sh)) [(1,_)] (λi=>[(3,.int .i64 ((i.i:Nat):Int))]) (λi=>p.ul.length-i.i) (Yj.start _ _) wT wT λi=>?_
 have hi:=i.le;refine wA 4 I<|QA (QH I XS Jj)<|QA (Qy 1 tE rfl Jj I)<|QA (QW I Xr)<|QLi 3 I ?_
 refine QL I (λhc2=>?_) λhc2=>?_
 ·have hlt:i.i<p.ul.length:=by simp_all
  refine QLj 5 I<|JC QJ3 mixed wu<|QI (Z7 tE rfl Zf I)<|QI (QH I XS Jj)<|QI (Qy 1 tE rfl Jj I)<|QI (QD I)<|QI (Qo (n:=p.un.n) i.i (λF h9=>h9.1.un) rfl rfl Xr XJ O)<|QI (JG (n:=p.un.n) (vs:=[tx (el p.ul i.i).kd,.slice (el p.ul i.i).fd.q (el p.ul i.i).fd.n (el p.ul i.i).fd.cap,Qs ((el p.ul i.i).ou),tx (el p.ul i.i).st,.slice (el p.ul i.i).cv.q (el p.ul i.i).cv.n (el p.ul i.i).cv.cap]) ((i.i)*5) (λF h9=>h9.1.un) O rfl XJ I λj v hv=>Q4 (f:=MJ) (l:=p.ul) ZO O hv)<|QV I (λ_ _ f k=>vi f (k.1.us _ (Ql hlt)) (hL.us _ (Ql hlt))) λ_=>QI (QE I)<|Qv<|QLk 7 I ?_
  refine QL I (λhc2=>?_) λhc2=>?_
  ·have h39:VM p.sh (el p.ul i.i)≠0:=by simp_all
   refine wA 6 I<|X6 ?_
   exact QL3 I I (congrArg (Value.int .i64) (by unfold KL;rw[if_neg h1,if_neg h2,if_pos (by rw[i.hit hlt h39];omega)];exact i.hit hlt h39)) tB
  have h39:VM p.sh (el p.ul i.i)=0:=by simp_all
  refine QK<|Qa<|QLk 3 I<|QA (Qk I I O)<|wB 2 I ?_
  exact Qb (i.next hlt h39) (by show p.ul.length-(i.i+1)<p.ul.length-i.i;omega)
 have hge:p.ul.length<=i.i:=by simp_all
 have h3:=i.stop hge;have hUO:∀u∈p.ul,WV p.sh u:=λu hu=>LW (HK h3 _ (List.mem_map_of_mem hu));have hUB:UnB p.ul:=λu hu=>by have h1:=Z5 (hUO u hu);have h2:=(hP.us _ hu).MQ;omega
 refine Q7 ?_;refine QG<|QKt<|QA (QH I I7 Q5)<|QA (Qy 2 tE rfl Q5 I)<|QA (QW I Qd)<|QLi 3 I ?_
 refine QL I (λhc2=>?_) λhc2=>?_
 ·have h4:p.ol.length>24:=by grind
  refine wA 6 I ?_;exact QL3 I I (congrArg (Value.int .i64) (by simp_all[KL,if_neg,if_pos])) tB
 have h4:¬p.ol.length>24:=by grind
 refine QLj 9 I<|Jo (ι:=V4 p.ol (P9 p.sh)) [(1,_)] (λi2=>[(5,.int .i64 ((i2.i:Nat):Int))]) (λi2=>p.ol.length-i2.i) (V4.start _ _) wT wT λi2=>?_
 have hi2:=i2.le;refine wA 4 I<|QA (QH I I7 Q5)<|QA (Qy 2 tE rfl Q5 I)<|QA (QW I Qd)<|QLi 3 I ?_
 refine QL I (λhc2=>?_) λhc2=>?_
 ·have hlt2:i2.i<p.ol.length:=by simp_all
  refine QLj 5 I<|JC QJ3 mixed wu<|QI (QH I I7 Q5)<|QI (Qy 2 tE rfl Q5 I)<|QI (QD I)<|QI (Qo (n:=p.ot.n) (i2.i) (λF h9=>h9.1.ot) rfl rfl Qd QZ O)<|QI (Qg (n:=p.ot.n) ((i2.i)*1) (λF h9=>h9.1.ot) O rfl QZ (ZF (f:=Qs) (l:=p.ol) O))<|QI (QR I I I)<|QI (QD I) ?_
  refine Vq (t:=58) rfl (λhb58=>?_) λhb58=>?_
  ·refine JK I I I<|JK I I I<|JK I I I<|JK I I I<|JK I I I<|JK I I I<|JK I I I<|JK I I I<|QI (Qh I I I)<|Qv<|QC<|ZB I<|wA 5 I<|X6 ?_
   exact QL3 I I (congrArg (Value.int .i64) (by unfold KL;rw[if_neg h1,if_neg h2,if_neg (Classical.not_not.2 h3),if_neg h4,if_pos (i2.hit hlt2 (by unfold P9;simp_all))])) tB
  refine JB I I<|QI (QH I I7 Q5)<|JB I I<|QI (Qy 2 tE rfl Q5 I)<|JB I I<|QI (QD I)<|JB I I<|QI (Qo (n:=p.ot.n) (i2.i) (λF h9=>h9.1.ot) rfl rfl Qd QZ O)<|JB I I<|QI (Qg (n:=p.ot.n) ((i2.i)*1) (λF h9=>h9.1.ot) O rfl QZ (ZF (f:=Qs) (l:=p.ol) O))<|JB I I<|QI (QH I WT QZ)<|JB I I<|QI (Qy 0 tE rfl QZ I)<|JB I I<|QI (QR I I I)<|QI (Qi I I I)<|Qv<|QC ?_
  refine QL I (λhc2=>?_) λhc2=>?_
  ·refine wA 5 I<|X6 ?_
   exact QL3 I I (congrArg (Value.int .i64) (by unfold KL;rw[if_neg h1,if_neg h2,if_neg (Classical.not_not.2 h3),if_neg h4,if_pos (i2.hit hlt2 (by simp_all[P9,decide,el,Bool.or_true]))])) tB
  refine QK<|Qa<|QLk 3 I<|QA (Qk I I O)<|wB 2 I ?_
  exact Qb (i2.next hlt2 (by unfold P9;simp_all)) (by show p.ol.length-(i2.i+1)<p.ol.length-i2.i;omega)
 have hge2:p.ol.length<=i2.i:=by simp_all
 have h5:=i2.stop hge2;refine Q7 ?_;refine QG<|QKt<|QA (Z7 tE rfl Zf I)<|QJ I (λ_ _ f k=>Ut f k.1 O) λ_=>QLi 3 I ?_
 refine QL I (λhc2=>?_) λhc2=>?_
 ·have h6:Yq p.ul>24:=by grind
  refine wA 6 I ?_;exact QL3 I I (congrArg (Value.int .i64) (by simp_all[KL,if_neg,if_pos])) tB
 have h6:¬Yq p.ul>24:=by grind
 refine QLj 9 I<|Jo (ι:=V4 (List.range (p.sh.toNat-1)) (yM p.ul)) [(1,_)] (λi3=>[(6,.int .i64 (((i3.i:Nat):Int)+1))]) (λi3=>p.sh.toNat-1-i3.i) (V4.start _ _) wT wT λi3=>?_
 have hi3:=i3.le;rw[List.length_range]at hi3;refine wA 4 I<|QA (QH I WT QZ)<|QA (Qy 0 (λF h9=>h9.1.2) rfl QZ I)<|QLi 3 I ?_
 refine QL I (λhc2=>?_) λhc2=>?_
 ·have hlt3:i3.i<p.sh.toNat-1:=by grind
  refine QLj 16 I<|Jo (ι:=FT p.ul λu=>decide (u.ou=((i3.i:Nat):Int)+1)) [(1,_),(6,_)] (λi4=>[(7,.int .i64 ((i4.n:Nat):Int)),(8,.int .i64 ((i4.i:Nat):Int))]) (λi4=>p.ul.length-i4.i) (⟨0,Nat.zero_le _⟩) wU wU λi4=>?_
  have hi4:=i4.le;have hin4:=i4.QHj;refine wA 4 I<|QA (QH I XS Jj)<|QA (Qy 1 (λF h9=>h9.1.2) rfl Jj I)<|QA (QW I Xr)<|QLi 3 I ?_
  refine QL I (λhc2=>?_) λhc2=>?_
  ·have hlt4:i4.i<p.ul.length:=by simp_all
   refine QLj 6 I<|QA (QH I XS Jj)<|QA (Qy 1 (λF h9=>h9.1.2) rfl Jj I)<|QJj I<|QA (Qo (n:=p.un.n) (i4.i) (λF h9=>h9.1.1.un) rfl rfl Xr XJ O)<|QA (QH I KI QZ)<|QA (Qg (n:=p.un.n) ((i4.i)*5+2) (λF h9=>h9.1.1.un) O rfl QZ (Q4 (f:=MJ) (l:=p.ul) ZO O rfl))<|QLi 4 I ?_
   refine QL I (λhc2=>?_) λhc2=>?_
   ·refine wA 2 I<|QA (Qk I I O)<|wB 2 I<|Qa<|QLk 3 I<|QA (Qk I I O)<|wB 2 I ?_
    exact Qb (⟨i4.i+1,hlt4⟩) (hm:=⟨rfl,rfl,(congrArg (λz:Int=>some (Value.int .i64 z)) (by unfold FT.n;dsimp only;rw[Hb hlt4,if_pos (by simpa using hc2)];rfl)),rfl,trivial⟩)
   refine QK<|Qa<|QLk 3 I<|QA (Qk I I O)<|wB 2 I ?_
   exact Qb (⟨i4.i+1,hlt4⟩) (hm:=⟨rfl,rfl,(congrArg (λz:Int=>some (Value.int .i64 z)) (by unfold FT.n;dsimp only;rw[Hb hlt4,if_neg (by simpa using hc2)];rfl)),rfl,trivial⟩)
  have hge4:p.ul.length<=i4.i:=wm<|QK9 hc2
  have hcn:i4.n=E3 p.ul (((i3.i:Nat):Int)+1):=by unfold FT.n;rw[List.take_of_length_le hge4];rfl
  refine Q7 ?_;refine wA 6 I ?_;refine QL I (λhc2=>?_) λhc2=>?_
  ·have hbad:yM p.ul (el (List.range (p.sh.toNat-1)) i3.i)=true:=by rw[Pf hlt3];unfold yM;rw[<-hcn];exact decide_eq_true λe=>by rw[e]at hc2;exact absurd hc2 wv
   refine wA 5 I<|X6 ?_
   exact QL3 I I (congrArg (Value.int .i64) (by unfold KL;rw[if_neg h1,if_neg h2,if_neg (Classical.not_not.2 h3),if_neg h4,if_neg h5,if_neg h6,if_pos (show LA p.sh p.ul=true from i3.hit (by rw[List.length_range];exact hlt3) hbad)])) tB
  have hbad:yM p.ul (el (List.range (p.sh.toNat-1)) i3.i)=false:=by rw[Pf hlt3];unfold yM;rw[<-hcn];exact decide_eq_false λe=>e (by have:=hc2;simp at this;omega)
  refine QK<|Qa<|QLk 3 I<|QA (Qk I I O)<|wB 2 I ?_
  exact Qb (i3.next (by rw[List.length_range];exact hlt3) hbad) (by show p.sh.toNat-1-(i3.i+1)<p.sh.toNat-1-i3.i;omega) ⟨rfl,(congrArg (λz:Int=>some (Value.int .i64 z)) w8),trivial⟩
 have hge3:p.sh.toNat-1<=i3.i:=wm<|QK9 hc2
 have h7:¬LA p.sh p.ul=true:=i3.stop (by rw[List.length_range];exact hge3);refine Q7 ?_;refine QG<|QG<|JC QJ3 mixed wu<|QI (Z7 (λF h9=>h9.1.2) rfl Zf I)<|QV I (λ_ _ f k=>js f k.1.1 O hUB) λc97=>WI _ (λ_ _ f k=>k.2.2.1) λn97=>QI (QW I Qd)<|QI (QH I XS Jj)<|QI (Qy 1 (λF h9=>h9.1.2) rfl Jj I)<|QI (QW I Xr)<|QI (QR I I I)<|Qv<|QC ?_
 refine QL I (λhc2=>?_) λhc2=>?_
 ·have h8:(X9 p.ul).length<p.ul.length:=wm<|QK8 hc2
  refine wA 6 I ?_;exact QL3 I I (congrArg (Value.int .i64) (by unfold KL;rw[if_neg h1,if_neg h2,if_neg (Classical.not_not.2 h3),if_neg h4,if_neg h5,if_neg h6,if_neg h7,if_pos h8])) tB
 have h8:¬(X9 p.ul).length<p.ul.length:=wm<|QK9 hc2
 refine QLj 4 I<|QA (Z7 (λF h9=>h9.1.1.2) rfl Zf I)<|QJ I (λ_ _ f k=>kD f k.1.1.1 O ⟨O,O⟩ λu hu=>wm<|(hUO u hu).ou) λc104=>JM _ (λ_ _ f k=>k.2.2.1) λn104=>QLi 10 I<|Jo (ι:=V4 p.ul (GQ p.sh p.ul)) [(1,_),(9,_)] (λi5=>[(10,.int .i64 ((i5.i:Nat):Int))]) (λi5=>p.ul.length-i5.i) (V4.start _ _) wU wT λi5=>?_
 have hi5:=i5.le;refine wA 4 I<|QA (QH I XS Jj)<|QA (Qy 1 (λF h9=>h9.1.1.1.2) rfl Jj I)<|QA (QW I Xr)<|QLi 3 I ?_
 refine QL I (λhc2=>?_) λhc2=>?_
 ·have hlt5:i5.i<p.ul.length:=wm<|QK8 hc2
  refine QLj 6 I<|QA (QH I XS Jj)<|QA (Qy 1 (λF h9=>h9.1.1.1.2) rfl Jj I)<|QJj I<|QA (Qo (n:=p.un.n) (i5.i) (λF h9=>h9.1.1.1.1.un) rfl rfl Xr XJ O)<|QA (JG (n:=p.un.n) (vs:=[tx (el p.ul (i5.i)).kd,.slice (el p.ul (i5.i)).fd.q (el p.ul (i5.i)).fd.n (el p.ul (i5.i)).fd.cap,Qs ((el p.ul (i5.i)).ou),tx (el p.ul (i5.i)).st,.slice (el p.ul (i5.i)).cv.q (el p.ul (i5.i)).cv.n (el p.ul (i5.i)).cv.cap]) ((i5.i)*5) (λF h9=>h9.1.1.1.1.un) O rfl XJ I λj v hv=>Q4 (f:=MJ) (l:=p.ul) ZO O hv)<|Qe Ni λb11=>QS (vs:=[_,_,_,_,_]) I I I XJ I .here .h5 wX<|QJi<|QG<|JC QJ3 mixed wu<|QI (QH I Ks YZ)<|QI (Qf I YZ .here .h1)<|QI (ZD I I)<|QI (QD I) ?_
  refine Vq (t:=120) rfl (λhb120=>?_) λhb120=>?_
  ·have hkt:(el p.ul i5.i).kd=WR:=by simpa[WR]using hb120
   have hum:=Ql hlt5;have huo:=hUO _ hum;have hf1:=(Z5 huo).1;have hff:=(hP.us _ hum).MQ;have hfr:=huo.fd _ (Ql (show 0<(el p.ul i5.i).fl.length by omega));have hsl:=TA p.sh p.ul;have hss:=QAW (sh:=p.sh) (λu hu=>(hUO u hu).st) _ (Ql (show(el (el p.ul i5.i).fl 0).k.toNat<(UE p.sh p.ul).length by omega));refine JB I I<|QI (QH I Bv JP)<|JB I I<|QI (Qf I JP .here (.skip (.skip (.skip .h1))))<|JB I I<|QI (QH I H8 KR)<|JB I I<|QI (Qf I KR .here (.skip (.skip (.skip (.skip .h1)))))<|JB I I<|QI (QH I ZV XK)<|JB I I<|QI (Qf I XK .here (.skip .h1))<|JB I I<|QI (Qo (n:=(el p.ul (i5.i)).fd.n) (0) (λF h9=>((h9.1.1.1.1.us _ (Ql (show i5.i<p.ul.length from O)))).fd) rfl wN Zz YC O)<|JB I I<|QI (QH I Gc JP)<|JB I I<|QI (Qg (n:=(el p.ul (i5.i)).fd.n) ((0)*2+1) (λF h9=>((h9.1.1.1.1.us _ (Ql (show i5.i<p.ul.length from O)))).fd) O rfl JP (Q4 (f:=BV) (l:=(el p.ul (i5.i)).fl) Zw O rfl))<|JB I I<|QI (QD I)<|JB I I<|QI (QH I ZV XK)<|JB I I<|QI (Qf I XK .here (.skip .h1))<|JB I I<|QI (Qo (n:=(el p.ul (i5.i)).fd.n) (0) (λF h9=>((h9.1.1.1.1.us _ (Ql (show i5.i<p.ul.length from O)))).fd) rfl wN Zz YC O)<|JB I I<|QI (QH I GB QZ)<|JB I I<|QI (Qg (n:=(el p.ul (i5.i)).fd.n) ((0)*2+0) (λF h9=>((h9.1.1.1.1.us _ (Ql (show i5.i<p.ul.length from O)))).fd) O rfl QZ (Q4 (f:=BV) (l:=(el p.ul (i5.i)).fl) Zw O rfl))<|JB I I<|QI (Qo (n:=c104.n) ((el (el p.ul i5.i).fl 0).k.toNat) (λF h9=>h9.2.1) rfl wN YI JP O)<|JB I I<|QI (Qg (n:=c104.n) (((el (el p.ul i5.i).fl 0).k.toNat)*1) (λF h9=>h9.2.1) O rfl JP (ZF (f:=tx) (l:=(UE p.sh p.ul)) O))<|JB I I<|QV I (λ_ _ f k=>qg f hfr.2.1 hss) λ_=>JB I I<|QV I (λ_ _ f h=>QCl f (h.1.1.1.1.1.us _ hum).cv (h.1.1.1.1.1.us _ hum).RA (by have:=Hm huo;have:=(h.1.1.1.1.1.us _ hum).RA;omega) (by have h1:=Zg (Jc (el (el p.ul i5.i).fl 0).r) (Jc (el (UE p.sh p.ul) (el (el p.ul i5.i).fl 0).k.toNat));have h2:=Xt hfr.2.1;have h3:=Xt hss;omega) huo.cv) λ_=>JB I I<|QI (PA I I)<|QI (Qh I I I) ?_
   refine Qv<|QC ?_
   refine QL I (λhc2=>?_) λhc2=>?_
   ·have hcon:GQ p.sh p.ul (el p.ul i5.i)=true:=by unfold GQ;rw[hkt];exact hc2
    refine wA 5 I<|X6 ?_
    exact QL3 I I (congrArg (Value.int .i64) (by unfold KL;rw[if_neg h1,if_neg h2,if_neg (Classical.not_not.2 h3),if_neg h4,if_neg h5,if_neg h6,if_neg h7,if_neg h8,if_pos (i5.hit hlt5 hcon)])) tB
   have hncon:GQ p.sh p.ul (el p.ul i5.i)=false:=by unfold GQ;rw[hkt];exact hc2
   refine QK<|Qa<|QLk 3 I<|QA (Qk I I O)<|wB 2 I ?_
   exact Qb (i5.next hlt5 hncon) (by show p.ul.length-(i5.i+1)<p.ul.length-i5.i;omega)
  have hncon:GQ p.sh p.ul (el p.ul i5.i)=false:=by unfold GQ;rw[show((el p.ul i5.i).kd==WR)=false by simpa[WR]using hb120];rfl
  refine JK I I I<|JK I I I<|JK I I I<|JK I I I<|JK I I I<|JK I I I<|JK I I I<|JK I I I<|JK I I I<|JK I I I<|JK I I I<|JK I I I<|JK I I I<|JK I I I<|JK I I I<|JK I I I<|JK I I I<|JK I I I<|JK I I I<|JK I I I<|QI (Qi I I I)<|Qv<|QC<|ZP I<|QK<|Qa<|QLk 3 I<|QA (Qk I I O)<|wB 2 I ?_
  exact Qb (i5.next hlt5 hncon) (by show p.ul.length-(i5.i+1)<p.ul.length-i5.i;omega)
 have hge5:p.ul.length<=i5.i:=wm<|QK9 hc2
 refine Q7 ?_;refine wA 6 I ?_;exact QL3 I I (congrArg (Value.int .i64) (by unfold KL;rw[if_neg h1,if_neg h2,if_neg (Classical.not_not.2 h3),if_neg h4,if_neg h5,if_neg h6,if_neg h7,if_neg h8,if_neg (i5.stop hge5)])) tB
section
variable[Dr][df:Df]{P:Program}{Q:Exit->Act->World->Prop}{N:Nat}{m:Sl}{ops:Array Oper}{lo:List Oper}{w0:World}{F0:Gs}{bs:List (Nat×Obj)}{G:Gs->Prop}{E0:Env}
theorem QCk{dT sT elem:TypeId}{g o dLen dCap:Nat}{sLen sCap k sz:Nat}{cur:Array Value}{t:TypeId}(hu:P.underlying dT=some (.slice elem))(hs:(P.info? elem).map (·.size)=some sz)
  (hg:w.heap[g]?=some (.cells cur t (0,0))) (hk:Nat.min sLen dLen=k) (hn:cs.length=k*sz) (hsrc:∀j v,cs[j]?=some v->w.cell? (a.add j)=some v) (hfit:o+cs.length<=cur.size) (h1:∀v∈cs,v.oneCell'=true) :
  (Builtin.copy_ #[dT,sT] ty #[.slice (some ⟨g,o,none⟩) dLen dCap,.slice (some a) sLen sCap]).run P w = .ok (goInt k) (w.setRow g (cur.toList.take o++cs++cur.toList.drop (o+cs.length)).toArray):=by
 have hl:=run_loadCells_list (P:=P) w a cs hsrc;have hst:=_root_.Go.run_storeCells_at P g o t cs 0 cur w hg (by simpa using hfit) h1;cases hq:P.info? elem with
 |none=>simp[hq]at hs
 |some i =>
  have hi:i.size=sz:=by simpa[hq]using hs
  simp[Builtin.copy_,run_underlying hu,Builtin.lenOf,Builtin.firstCells,sizeOf,typeInfo,hq,hi,hk,<-hn,hl,hst]
theorem QDg{sz:Nat}(hs:Zd P e=some (g,sz)):(P.info? e).map (·.size)=some sz:=by
 unfold Zd at hs;split at hs
 ·rename_i d' i' hd hi;simp only[Option.some.injEq,Prod.mk.injEq]at hs;rw[hi,Option.map_some,hs.2]
 cases hs
theorem jn{a:Act}{d:Option Nat}{t t2:TypeId}{pos:String}{gd:Option (Nat×Bool)}{X Y:Operand}{off dLen dCap k sLen sCap sz:Nat}{ad:Addr}{cur new:List Value}(ha:JO N m a)(hx:ev m X=some (.slice (some ⟨b,off,none⟩) dLen dCap))(hy:ev m Y=some (.slice (some ad) sLen sCap))(ht:Ga P t=some e)(hs:Zd P e=some (g,sz))
  (ho:Own bs b (.cells cur.toArray e (0,0)) f) (hk:Nat.min sLen dLen=k) (hn:cs.length=k*sz) (hrd:∀w,St ⟨w0,F0,bs,G⟩ w->∀j v,cs[j]?=some v->w.cell? (ad.add j)=some v) (h1:∀v∈cs,v.oneCell'=true) (hfit:off+cs.length<=cur.length) (hnew:cur.take off++cs++cur.drop (off+cs.length)=new) (hu:Vy e=true) (hw:St ⟨w0,F0,bs,G⟩ w) :
  ∃w',(execOp a.eval ⟨d,.call ⟨.builtin .copy,#[X,Y],#[t,t2]⟩,ty,pos,aft,gd⟩).run P w = .ok (.value (.int .i64 (k:Int))) w'/\St ⟨w0,F0,f (.cells new.toArray e (0,0)),G⟩ w':=by
 have hbw:=hw.own ho;have hrun:=QCk (P:=P) (sT:=t2) (ty:=ty) (dCap:=dCap) (sCap:=sCap) (JR ht) (QDg hs) hbw hk hn (hrd w hw) (by simpa using hfit) h1;refine⟨w.setRow b (cur.take off++cs++cur.drop (off+cs.length)).toArray,?_,?_⟩
 ·simp only[execOp,resolve,invoke,builtin,Sem.run_bind,Sem.run_pure,Result.andThen_ok,List.map_toArray,List.map_cons,List.map_nil,ha.ev hx,ha.ev hy,hrun,goInt]
 have hlt:b<w.heap.size:=(Array.getElem?_eq_some_iff.1 hbw).1;rw[hnew];obtain⟨pre,post,e1,e2⟩:=ho.split;subst e1;rw[e2];refine hw.write pre ⟨?_,rfl,rfl,rfl,rfl⟩ (XR hu);apply Array.ext_getElem?;intro j;rw[Array.getElem?_setIfInBounds];by_cases hj:b=j
 ·subst hj;rw[if_pos rfl,if_pos hlt,setRow_heap w b _ _ e _ hbw]
 rw[if_neg hj,setRow_other w b j _ (λe=>hj e.symm)]
section
variable{d:Nat}{ty t t2 e:TypeId}{pos:String}{aft:Array Edge}{X Y:Operand}{b off dLen dCap k sLen sCap sz:Nat}{ad:Addr}{cur cs new:List Value}{g:Bool}{f:Obj->List (Nat×Obj)}
theorem QAF(hx:ev m X=some (.slice (some ⟨b,off,none⟩) dLen dCap))(hy:ev m Y=some (.slice (some ad) sLen sCap))(ht:Ga P t=some e)(hs:Zd P e=some (g,sz))
  (ho:Own bs b (.cells cur.toArray e (0,0)) f) (hk:Nat.min sLen dLen=k) (hn:cs.length=k*sz) (hrd:∀w,St ⟨w0,F0,bs,G⟩ w->∀j v,cs[j]?=some v->w.cell? (ad.add j)=some v) (h1:∀v∈cs,v.oneCell'=true) (hfit:off+cs.length<=cur.length) (hnew:cur.take off++cs++cur.drop (off+cs.length)=new)
  (kk:JS P ops Q lo N ((d,.int .i64 (k:Int))::m) ⟨w0,F0,f (.cells new.toArray e (0,0)),G⟩) (hu:Vy e=true:=by rfl) (hd:Jq N (some d)=true:=by rfl):JS P ops Q (⟨some d,.call ⟨.builtin .copy,#[X,Y],#[t,t2]⟩,ty,pos,aft,none⟩::lo) N m ⟨w0,F0,bs,G⟩ :=
 pW (λ_ _ ha hw=>jn ha hx hy ht hs ho hk hn hrd h1 hfit hnew hu hw) kk hd
end
section
variable{d:Nat}{ty t t2 e:TypeId}{pos:String}{aft:Array Edge}{X Y:Operand}{b off dLen dCap k sLen sCap sz:Nat}{ad:Addr}{cur cs new:List Value}{g:Bool}{f:Obj->List (Nat×Obj)}
theorem QAG(hx:ev m X=some (.slice (some ⟨b,off,none⟩) dLen dCap))(hy:ev m Y=some (.slice (some ad) sLen sCap))(ht:Ga P t=some e)(hs:Zd P e=some (g,sz))
  (ho:Own bs b (.cells cur.toArray e (0,0)) f) (hk:Nat.min sLen dLen=k) (hn:cs.length=k*sz) (hrd:∀w,St ⟨w0,F0,bs,G⟩ w->∀j v,cs[j]?=some v->w.cell? (ad.add j)=some v) (h1:∀v∈cs,v.oneCell'=true) (hfit:off+cs.length<=cur.length) (hnew:cur.take off++cs++cur.drop (off+cs.length)=new)
  (h0:∀w,St ⟨w0,F0,f (.cells new.toArray e (0,0)),G⟩ w->St E0 w)
  (kk:JD P ops Q E0 lo N ((d,.int .i64 (k:Int))::m) ⟨w0,F0,f (.cells new.toArray e (0,0)),G⟩) (hu:Vy e=true:=by rfl) (hd:Jq N (some d)=true:=by rfl):JD P ops Q E0 (⟨some d,.call ⟨.builtin .copy,#[X,Y],#[t,t2]⟩,ty,pos,aft,none⟩::lo) N m ⟨w0,F0,bs,G⟩:=by
 intro hE a w ha hw;obtain⟨w',h2,h3⟩:=jn (d:=some d) (ty:=ty) (pos:=pos) (aft:=aft) (gd:=none) (t2:=t2) ha hx hy ht hs ho hk hn hrd h1 hfit hnew hu hw;refine .inr ⟨rfl,?_⟩;rw[if_pos (by simp[Region.wanted])];exact upon_value h2 ⟨h0 _ h3,kk h0 _ _ (ha.put hd _) h3⟩
end
theorem F8(hw:St ⟨w0,F0,bs,G⟩ w){a:Addr}{sz j:Nat}{cs:List Value}{u:Value}(hr:∀F,G F->Qu F (some a) 1 sz cs)(hu:cs[j]?=some u):w.cell? (a.add j)=some u:=by
 have h0:∃b off,a=⟨b,off,none⟩:=by
  obtain⟨F,hF⟩:=hw;obtain⟨b,off,e⟩:=(hr F hF.hG).ptr wv;exact⟨b,off,Option.some.inj e⟩
 obtain⟨b,off,rfl⟩:=h0;rw[V1];exact KN hw hr wv hu
end
def Eg{x:List Value}(h:∀v∈x,v.oneCell'=true):∀n,∀v∈JL x n,v.oneCell'=true
 |0,v,hv=>by cases hv
 |n+1,v,hv=>by
  rw[JL]at hv;rcases List.mem_append.1 hv with hv | hv
  ·exact h v hv
  exact Eg h n v hv
def S3(x:List Value):∀a b,JL x (a+b)=JL x a++JL x b
 |0,b=>by rw[Nat.zero_add];rfl
 |a+1,b=>by rw[show a+1+b=(a+b)+1 by omega,JL,JL,S3 x a b,List.append_assoc]
def QDV{x:List Value}{k:Nat}{v:Value}(hk:k<=1)(h:(JL x k)[j]?=some v):x[j]?=some v:=by
 match k,hk with
 |0,_=>cases h
 |1,_=>simpa[JL]using h
theorem QBv{n k:Nat}{x:List Value}{fr:Nat×Nat}{v:Value}(hw:St ⟨w0,F0,bs,G⟩ w)(ho:Own bs b (.cells (JL x n++z).toArray T fr) f)(hk:k<=n)(hv:(JL x k)[j]?=some v):w.cell? ((⟨b,0,none⟩:Addr).add j)=some v:=by
 rw[V1,ZC (hw.own ho),Nat.zero_add];have hj:j<(JL x k).length:=by rcases Nat.lt_or_ge j (JL x k).length with g | g;exact g;rw[List.getElem?_eq_none g]at hv;cases hv
 rw[show n=k+(n-k) by omega,S3,List.append_assoc,List.getElem?_append,if_pos hj];exact hv
def QBw{x:List Value}{sz n k:Nat}(hx:x.length=sz)(hz:z.length=sz)(h:n+k<=N):0+n*sz+(JL x k).length<=(JL x n++JL z (N-n)).length:=by
 rw[List.length_append,Xf,Xf,Xf,hx,hz,Nat.zero_add,<-Nat.add_mul,<-Nat.add_mul];exact Nat.mul_le_mul_right _ O
structure RpJ(N:Nat) where
 n:Nat
 le:n<=N
 pos:0<N->0<n
def vd{x:List Value}{sz n k:Nat}(hx:x.length=sz)(hz:z.length=sz)(h:n+k<=N):(JL x n++JL z (N-n)).take (0+n*sz)++JL x k++(JL x n++JL z (N-n)).drop (0+n*sz+(JL x k).length)=JL x (n+k)++JL z (N-(n+k)):=by
 have e1:(JL x n).length=n*sz:=by rw[Xf,hx]
 have e2:(JL x k).length=k*sz:=by rw[Xf,hx]
 have e3:(JL z k).length=k*sz:=by rw[Xf,hz]
 rw[Nat.zero_add,e2,<-e1,List.take_left,<-List.drop_drop,List.drop_left,show N-n=k+(N-(n+k)) by omega,S3 z,<-e3,List.drop_left,S3 x]
theorem QEu{a b:Nat}(hF:Fits F w)(h:a*b<9223372036854775808)(ha:a<18446744073709551616)(hb:b<18446744073709551616):QY prog 144 [.int .u64 (a:Int),.int .u64 (b:Int)] w F (.tuple #[.int .u64 0,.int .u64 ((a*b:Nat):Int)]):=by
 refine QQ.same (enters_of func144 I I) hF ((YN a b w ⟨O,by unfold W;omega⟩ ⟨O,by unfold W;omega⟩).mono ?_);rintro e w' ⟨rfl,rfl⟩;refine⟨?_,rfl⟩;unfold Xz Jv W;rw[<-Int.natCast_mul,Int.ediv_eq_zero_of_lt O O,Int.emod_eq_of_lt O O]
theorem QEt{a b:Nat}(hF:Fits F w)(h:a*b<9223372036854775808)(ha:a<18446744073709551616)(hb:b<18446744073709551616):QY prog 212 [.int .u64 (a:Int),.int .u64 (b:Int)] w F (.tuple #[.int .u64 0,.int .u64 ((a*b:Nat):Int)]):=by
 refine QQ.go (G:=λF=>True) func212 hF trivial ?_;refine wA 7 I<|ZP I<|QLj 6 I<|QJ I (λ_ _ f _=>QEu f h ha hb) λ_=>QLi 16 I ?_
 exact J7 (()) I (wP I I) (rfl) tB
theorem QHT{c N:Nat}{x:List Value}(hN:N<=1000000)(hR:∀F,G F->Qu F (some a) 1 1 x)(hx:x.length=1)(hone:∀v∈x,v.oneCell'=true):Jn prog 139 [.slice (some a) 1 c,.int .i64 (N:Int)] ⟨w0,F0,bs,G⟩ (λ(c:OwV 3 1 N (JL x N))=>c.v) (λc=>⟨w0,F0,c.ob++bs,G⟩):=by
 refine Jn.intro func139 rfl w8 rfl rfl<|QKt<|wR rfl<|QG<|wS rfl<|QA (QR rfl rfl rfl)<|QF<|QC ?_
 refine QL I (λhc2=>?_) λhc2=>?_
 ·exact absurd hc2 (w9)
 refine QLj 5 I<|QA (QW I Qd)<|QA (Mi I vJ OG wv)<|QJj I<|QA (Mi I vJ OG O)<|QJ I (λ_ _ f k=>QEt (a:=1) (b:=N) f O wv O) λ_=>?_
 rw[Nat.one_mul];refine QLi 20 I ?_;refine QL I (λhc2=>?_) λhc2=>?_
 ·exact absurd hc2 (tA)
 refine QLj 5 I<|QA (SD I QAN k_3 O)<|Y8 (n:=N) (bytes:=8) rfl rfl Qd QZ Hj I Ws O O λb7=>QLi 7 I<|QAF (off:=0+0*1) (k:=min 1 N) (cs:=JL x (min 1 N)) (sz:=1) (cur:=JL x 0++JL [.int .i64 0] (N-0)) (new:=JL x (0+min 1 N)++JL [.int .i64 0] (N-(0+min 1 N))) I I Qd QZ .here rfl (by rw[Xf,hx]) (λw hw j v hv=>F8 hw (λF h=>hR F h.1) (QDV (Nat.min_le_left 1 N) hv)) (Eg hone _) (QBw hx rfl O) (vd hx rfl O) ?_
 rw[Nat.zero_add];refine QLi 5 I<|ZH (ι:=RpJ N) [(7,_)] (λi=>[(8,.int .i64 ((i.n:Nat):Int))]) (λi=>(b7,.cells (JL x i.n++JL [.int .i64 0] (N-i.n)).toArray 3 (0,0))::bs) (λi F=>True) (λi=>N-i.n) (⟨min 1 N,O,λh=>O⟩) wT wT λi=>?_
 have hi:=i.le;have hpos:=i.pos;refine wA 5 I<|QA (QW I Qd)<|QLi 3 I ?_
 refine QL I (λhc2=>?_) λhc2=>?_
 ·have hlt:i.n<N:=wm<|QK8 hc2
  refine QLj 3 I<|JC (.cons _ QJ3) mixed wu<|QI (QD I)<|QI (QD I)<|QI (QD I)<|QI (N9 i.n I I I Qd QZ i.le (Nat.le_refl _)) ?_
  rw[if_neg (show ¬N=i.n by omega)];simp only[Option.map_some,V1];refine QI (QD I)<|QI (QD I)<|QI (IY i.n I I I Qd QZ i.le)<|QAG (off:=0+i.n*1) (k:=min i.n (N-i.n)) (cs:=JL x (min i.n (N-i.n))) (sz:=1) (cur:=JL x i.n++JL [.int .i64 0] (N-i.n)) (new:=JL x (i.n+min i.n (N-i.n))++JL [.int .i64 0] (N-(i.n+min i.n (N-i.n)))) I I Qd QZ .here rfl (by rw[Xf,hx]) (λw hw j v hv=>QBv hw .here (Nat.min_le_left _ _) hv) (Eg hone _) (QBw hx rfl O) (vd hx rfl O) (λw hw=>hw.imp (.cons _ QJ3) λ_ h=>h)<|QI (Qk I I O)<|QI (QE I)<|Qv<|Qa ?_
  exact Qb (⟨i.n+min i.n (N-i.n),O,λh=>O⟩) (hm:=⟨rfl,(congrArg (λz:Int=>some (Value.int .i64 z)) (by dsimp only;omega)),trivial⟩)
 have hge:i.n=N:=by have:=QK9 hc2;have:=i.le;omega
 refine Q7 ?_;refine wA 7 I ?_;exact ZN (⟨.slice (some ⟨b7,0,none⟩) N N,_,Qp.some (rest:=[]) (by rw[Xf,hx]) (by rw[Xf,hx];rfl) (Nat.le_refl _) (by show N<=maxLen;unfold maxLen;omega)⟩) I (wO I) (rfl) λw hw=>by rw[hge,Nat.sub_self]at hw;exact hw.imp QJ3 λ_ h=>h.1.1
theorem QHU{c N:Nat}{x:List Value}(hN:N<=1000000)(hR:∀F,G F->Qu F (some a) 1 4 x)(hx:x.length=4)(hone:∀v∈x,v.oneCell'=true):Jn prog 149 [.slice (some a) 1 c,.int .i64 (N:Int)] ⟨w0,F0,bs,G⟩ (λ(c:OwV 77 4 N (JL x N))=>c.v) (λc=>⟨w0,F0,c.ob++bs,G⟩):=by
 refine Jn.intro func149 rfl w8 rfl rfl<|QKt<|wR rfl<|QG<|wS rfl<|QA (QR rfl rfl rfl)<|QF<|QC ?_
 refine QL I (λhc2=>?_) λhc2=>?_
 ·exact absurd hc2 (w9)
 refine QLj 5 I<|QA (QW I We)<|QA (Mi I vJ OG wv)<|QJj I<|QA (Mi I vJ OG O)<|QJ I (λ_ _ f k=>QEt (a:=1) (b:=N) f O wv O) λ_=>?_
 rw[Nat.one_mul];refine QLi 20 I ?_;refine QL I (λhc2=>?_) λhc2=>?_
 ·exact absurd hc2 (tA)
 refine QLj 5 I<|QA (SD I QAN k_3 O)<|Y8 (n:=N) (bytes:=64) rfl rfl We JA VU I QCN O O λb7=>QLi 7 I<|QAF (off:=0+0*4) (k:=min 1 N) (cs:=JL x (min 1 N)) (sz:=4) (cur:=JL x 0++JL [.int .i64 0,.slice none 0 0,.int .i64 0,.slice none 0 0] (N-0)) (new:=JL x (0+min 1 N)++JL [.int .i64 0,.slice none 0 0,.int .i64 0,.slice none 0 0] (N-(0+min 1 N))) I I We JA .here rfl (by rw[Xf,hx]) (λw hw j v hv=>F8 hw (λF h=>hR F h.1) (QDV (Nat.min_le_left 1 N) hv)) (Eg hone _) (QBw hx rfl O) (vd hx rfl O) ?_
 rw[Nat.zero_add];refine QLi 5 I<|ZH (ι:=RpJ N) [(7,_)] (λi=>[(8,.int .i64 ((i.n:Nat):Int))]) (λi=>(b7,.cells (JL x i.n++JL [.int .i64 0,.slice none 0 0,.int .i64 0,.slice none 0 0] (N-i.n)).toArray 77 (0,0))::bs) (λi F=>True) (λi=>N-i.n) (⟨min 1 N,O,λh=>O⟩) wT wT λi=>?_
 have hi:=i.le;have hpos:=i.pos;refine wA 5 I<|QA (QW I We)<|QLi 3 I ?_
 refine QL I (λhc2=>?_) λhc2=>?_
 ·have hlt:i.n<N:=wm<|QK8 hc2
  refine QLj 3 I<|JC (.cons _ QJ3) mixed wu<|QI (QD I)<|QI (QD I)<|QI (QD I)<|QI (N9 i.n I I I We JA i.le (Nat.le_refl _)) ?_
  rw[if_neg (show ¬N=i.n by omega)];simp only[Option.map_some,V1];refine QI (QD I)<|QI (QD I)<|QI (IY i.n I I I We JA i.le)<|QAG (off:=0+i.n*4) (k:=min i.n (N-i.n)) (cs:=JL x (min i.n (N-i.n))) (sz:=4) (cur:=JL x i.n++JL [.int .i64 0,.slice none 0 0,.int .i64 0,.slice none 0 0] (N-i.n)) (new:=JL x (i.n+min i.n (N-i.n))++JL [.int .i64 0,.slice none 0 0,.int .i64 0,.slice none 0 0] (N-(i.n+min i.n (N-i.n)))) I I We JA .here rfl (by rw[Xf,hx]) (λw hw j v hv=>QBv hw .here (Nat.min_le_left _ _) hv) (Eg hone _) (QBw hx rfl O) (vd hx rfl O) (λw hw=>hw.imp (.cons _ QJ3) λ_ h=>h)<|QI (Qk I I O)<|QI (QE I)<|Qv<|Qa ?_
  exact Qb (⟨i.n+min i.n (N-i.n),O,λh=>O⟩) (hm:=⟨rfl,(congrArg (λz:Int=>some (Value.int .i64 z)) (by dsimp only;omega)),trivial⟩)
 have hge:i.n=N:=by have:=QK9 hc2;have:=i.le;omega
 refine Q7 ?_;refine wA 7 I ?_;exact ZN (⟨.slice (some ⟨b7,0,none⟩) N N,_,Qp.some (rest:=[]) (by rw[Xf,hx]) (by rw[Xf,hx];rfl) (Nat.le_refl _) (by show N<=maxLen;unfold maxLen;omega)⟩) I (wO I) (rfl) λw hw=>by rw[hge,Nat.sub_self]at hw;exact hw.imp QJ3 λ_ h=>h.1.1
def Cs(N:Nat)(us:List Xe):List Int:=(List.range N).map λk:Nat=>BW us (k:Int)
def WE(N:Nat)(us:List Xe):(Cs N us).length=N:=by simp[Cs]
def pJ{k:Nat}(h:k<N):el (Cs N us) k=BW us (k:Int):=by
 rw[J8 (by rw[WE];exact h)];unfold Cs;rw[List.getElem_map,List.getElem_range]
def QCO{k:Nat}(h:k<(Cs N us).length):(Cs N us)[k]=BW us (k:Int):=by simp[Cs]
theorem ke:∀(a:List Xe) (i:Nat),Ew k (a++[u]) i=if Ew k a i>=0 then Ew k a i else if u.ou=k then((i+a.length:Nat):Int)else -1
 |[],i=>by
  show(if u.ou=k then(i:Int)else -1)=if(-1:Int)>=0 then -1 else if u.ou=k then((i+0:Nat):Int)else -1
  rw[if_neg (show ¬(-1:Int)>=0 by decide),Nat.add_zero]
 |x::a,i=>by
  rw[List.cons_append,Ew,Ew];by_cases e:x.ou=k
  ·rw[if_pos e,if_pos e,if_pos (Int.natCast_nonneg i)]
  rw[if_neg e,if_neg e,ke a (i+1),List.length_cons,show i+1+a.length=i+(a.length+1) by omega]
theorem zw:∀(us:List Xe) (i:Nat),(Ew k us i<0↔E3 us k=0)/\(Ew k us i<0->Ew k us i = -1)
 |[],i=>⟨⟨λ_=>rfl,λ_=>(by show(-1:Int)<0;decide)⟩,λ_=>rfl⟩
 |x::us,i=>by
  have ih:=zw us (i+1);rw[Ew];unfold E3 at ih ⊢;by_cases e:x.ou=k
  ·rw[if_pos e,List.countP_cons_of_pos (by simpa using e)];exact⟨⟨λh=>absurd h (Int.not_lt.2 (Int.natCast_nonneg i)),λh=>O⟩,λh=>absurd h (Int.not_lt.2 (Int.natCast_nonneg i))⟩
  rw[if_neg e,List.countP_cons_of_neg (by simpa using e)];exact ih
theorem RR:BW us k<0↔E3 us k=0:=(zw us 0).1
def dt(h:BW us k<0):BW us k = -1:=(zw us 0).2 h
def cR{i:Nat}(h:i<us.length):BW (us.take (i+1)) k=if BW (us.take i) k>=0 then BW (us.take i) k else if(el us i).ou=k then(i:Int)else -1:=by
 unfold BW;rw[XF h,ke,List.length_take,Nat.min_eq_left O,Nat.zero_add]
theorem QEr{N i:Nat}(h:i<us.length)(ho:0<=(el us i).ou/\(el us i).ou<(N:Int))(hd:BW (us.take i) (el us i).ou<0):Cs N (us.take (i+1))=(Cs N (us.take i)).set (el us i).ou.toNat (i:Int):=by
 refine List.ext_getElem (by rw[List.length_set,WE,WE]) λk h1 h2=>?_;rw[WE]at h1;rw[List.getElem_set,QCO,QCO,cR h];by_cases e:(el us i).ou.toNat=k
 ·have e2:(el us i).ou=(k:Int):=O;rw[if_pos e,<-e2,if_neg O,if_pos rfl]
 have e2:¬(el us i).ou=(k:Int):=O;rw[if_neg e,if_neg e2];split
 ·rfl
 rename_i g;exact(dt O).symm
def Cm(h:i<us.length):E3 (us.take (i+1)) k=E3 (us.take i) k+(if(el us i).ou=k then 1 else 0):=by
 unfold E3;rw[Hb h];simp
def QCL:E3 (us.take i) k<=E3 us k:=by
 unfold E3
 conv=>rhs;rw[<-List.take_append_drop i us,List.countP_append]
 omega
structure DvJ(us:List Xe) where
 i:Nat
 le:i<=us.length
 nd:∀k,E3 (us.take i) k<=1
theorem QGK(s:DvJ us)(h:s.i<us.length)(hd:BW (us.take s.i) (el us s.i).ou<0):∀k,E3 (us.take (s.i+1)) k<=1:=λk=>by
 rw[Cm h];have h0:=s.nd k;split
 ·rename_i e;rw[<-e,RR.1 hd];omega
 omega
theorem QH9(h:i<us.length)(ho:1<=(el us i).ou/\(el us i).ou<sh)(hd:BW (us.take i) (el us i).ou>=0):LA sh us=true:=by
 unfold LA;refine List.any_eq_true.2 ⟨(el us i).ou.toNat-1,List.mem_range.2 O,?_⟩;unfold yM;rw[show(((el us i).ou.toNat-1:Nat):Int)+1=(el us i).ou by omega];refine decide_eq_true λe=>?_;have h1:E3 (us.take (i+1)) (el us i).ou<=1:=by rw[<-e];exact QCL
 rw[Cm h,if_pos rfl]at h1;have h2:=RR.2 (show E3 (us.take i) (el us i).ou=0 by omega);omega
theorem QH8(h1:1<=sh)(hn:∀k,E3 us k<=1):decide ((-1:Int)∈(Cs sh.toNat us).drop 1)=LA sh us:=by
 rw[Bool.eq_iff_iff,decide_eq_true_eq];unfold LA;rw[List.any_eq_true];constructor
 ·intro h;obtain⟨j,hj,e⟩:=List.mem_iff_getElem.1 h;rw[List.length_drop,WE]at hj;rw[List.getElem_drop]at e;have e2:BW us (((1+j:Nat):Nat):Int) = -1:=by rw[<-pJ (N:=sh.toNat) (us:=us) O,J8 (by rw[WE];omega)];exact e
  refine⟨j,List.mem_range.2 O,?_⟩;unfold yM;refine decide_eq_true λe3=>?_;have:=RR.1 (show BW us (((1+j:Nat):Nat):Int)<0 by omega);rw[show(((1+j:Nat):Nat):Int)=(j:Int)+1 by omega]at this;omega
 rintro⟨j,hj,hb⟩;have hj:=List.mem_range.1 hj;unfold yM at hb;have hb:=QK8 hb;have h0:=hn ((j:Int)+1);have e:=dt (RR.2 (show E3 us ((j:Int)+1)=0 by omega));refine List.mem_iff_getElem.2 ⟨j,by rw[List.length_drop,WE];omega,?_⟩;rw[List.getElem_drop,<-J8 (by rw[WE];omega),pJ O,show(((1+j:Nat):Nat):Int)=(j:Int)+1 by omega];exact e
theorem QEm(r s:Rat):(yF r s==0)=decide (r=s):=by
 unfold yF;by_cases h:r<s
 ·rw[if_pos h,decide_eq_false (λe=>by rw[e]at h;exact absurd h Rat.lt_irrefl)];rfl
 rw[if_neg h];by_cases e:r=s
 ·rw[if_pos e,decide_eq_true e];rfl
 rw[if_neg e,decide_eq_false e];rfl
def QGS(N:Nat):Cs N []=List.replicate N (-1:Int):=by
 unfold Cs;refine List.ext_getElem w9 λk h1 h2=>?_;rw[List.getElem_map,List.getElem_replicate];rfl
def QCb(N:Nat)(us:List Xe):JL [.int .i64 (-1)] N=(Cs N (us.take 0)).map Qs:=by
 rw[List.take_zero,QGS,Zl,List.map_replicate];rfl
def QIA{k:Nat}(h:k<N):Qc (Cs N us) k=BW us (k:Int):=by rw[YL (by rw[WE];exact h),pJ h]
theorem G4{b:Bool}{e:Int}(hF:Fits F w):QY prog 76 [.bool b,.int .i64 e] w F (.int .i64 (if b=true then e else 0)):=by
 refine QQ.go (G:=λF=>True) func76 hF trivial ?_;refine wA 11 I ?_;refine QL I (λhc2=>?_) λhc2=>?_
 ·refine wA 7 I ?_;exact QL3 I I (congrArg (Value.int .i64) (by rw[if_pos hc2])) tB
 refine QLj 8 I ?_;exact QL3 I I (congrArg (Value.int .i64) (by rw[if_neg (by rw[hc2];decide)])) tB
theorem B4{n:Nat}(hF:Fits F w)(hR:Qu F q n 1 (l.map Qs))(hn:n<=1000000000):QY prog 40 [.slice q n c] w F (.int .i64 (Qz l)):=by
 have hln:l.length=n:=by have:=hR.1;simpa using this
 have hmap:Qz l=Qz (l.map id):=by rw[List.map_id]
 refine QQ.go (G:=λF=>Qu F q n 1 (l.map Qs)) func40 hF hR ?_;refine wA 9 I<|QA (QW I Va)<|QLi 4 I<|Jo (ι:=Yj l id) [(5,_),(6,_)] (λi=>[(7,.int .i64 ((i.i:Nat):Int))]) (λi=>l.length-i.i) (Yj.start _ _) wU wT λi=>?_
 have hi:=i.le;refine wA 6 I ?_;refine QL I (λhc2=>?_) λhc2=>?_
 ·have hlt:i.i<l.length:=wm<|QK8 hc2
  refine QLj 6 I<|QA (Qo (n:=n) i.i tC rfl rfl Va Gv O)<|QA (Qg (n:=n) ((i.i)*1) tC O rfl Gv (ZF (f:=Qs) (l:=l) O))<|QLi 9 I ?_
  refine QL I (λhc2=>?_) λhc2=>?_
  ·have h12:id (el l i.i)≠0:=bne_iff_ne.1 hc2;refine wA 6 I<|X6 ?_
   exact QL3 I I (congrArg (Value.int .i64) (hmap ▸ i.hit hlt h12)) tB
  have h12:id (el l i.i)=0:=bne_eq_false_iff_eq.1 hc2;refine QK<|Qa<|QC<|QB<|QA (Qk I I O)<|wB 2 I ?_
  exact Qb (i.next hlt h12) (by show l.length-(i.i+1)<l.length-i.i;omega)
 have hge:l.length<=i.i:=wm<|QK9 hc2
 refine Q7 ?_;refine wA 6 I ?_;exact QL3 I I (congrArg (Value.int .i64) (hmap ▸ i.stop hge)) tB
theorem CE{p:ZL}(hF:Fits F w):QY prog 80 [p.v,.int .i64 k] w F (.bool (!P9 p.sh k)):=by
 refine QQ.go (G:=λF=>True) func80 hF trivial ?_;refine QKt<|Q8 I (vs:=[_,_,_]) I λb2=>QLi 8 I ?_
 refine Qn (t:=7) rfl (λhb7=>?_) λhb7=>?_
 ·refine wB 3 I<|QA (QH I WT QZ)<|QP I I<|QA (Qf I QZ .here .h1)<|QLi 7 I ?_
  exact QL3 I I (congrArg Value.bool (by unfold P9;rw[show decide (k<0)=false from decide_eq_false (wm<|QK8 hb7)];by_cases h:k<p.sh<;>simp[h]<;>omega)) tB
 refine QLi 9 I ?_;exact QL3 I I (congrArg Value.bool (by unfold P9;rw[show decide (k<0)=true from decide_eq_true (wm<|QK9 hb7)];rfl)) tB
theorem QFd{p:ZL}(hF:Fits F w)(hb:F b=some ((#[Qs p.sh,.slice p.un.q p.un.n p.un.cap,.slice p.ot.q p.ot.n p.ot.cap],25))):QY prog 79 [.int .i64 k,.pointer (some ⟨b,0,none⟩)] w F (.bool (P9 p.sh k)):=by
 refine QQ.intro (G:=λF=>F b=some ((#[Qs p.sh,.slice p.un.q p.un.n p.un.cap,.slice p.ot.q p.ot.n p.ot.cap],25))) func79 rfl w8 rfl rfl hF (λF' hF'=>hF' _ _ hb)<|QKt<|wR rfl<|QKt<|QA (Ux (vs:=[Qs p.sh,.slice p.un.q p.un.n p.un.cap,.slice p.ot.q p.ot.n p.ot.cap]) rfl Zf tC rfl λj v hv=>by rw[Nat.zero_add];simpa using hv)<|QJj I<|QJ I (λ_ _ f k=>CE (p:=p) f) λ_=>QA (YD I)<|wR I<|QT ?_
 exact QL3 I I (congrArg Value.bool (Bool.not_not _).symm) tB
theorem Nc{p:ZL}(hF:Fits F w)(hP:KO F p)(hb:p.un.n<=1000000000):QY prog 81 [p.v] w F (.int .i64 (Yq p.ul:Nat)):=by
 have LU:=hP.MK;refine QQ.go (G:=λF=>KO F p) func81 hF hP ?_;refine QKt<|Q8 I (vs:=[_,_,_]) I λb1=>QLi 11 I<|QA (QH I XS Jj)<|QA (Qf I Jj .here (.skip .h1))<|QA (QW I Xr)<|QLi 4 I<|Jo (ι:=FT p.ul P8) [(7,_),(8,_)] (λi=>[(3,.int .i64 ((i.n:Nat):Int)),(9,.int .i64 ((i.i:Nat):Int))]) (λi=>p.ul.length-i.i) (⟨0,Nat.zero_le _⟩) wU wU λi=>?_
 have hi:=i.le;have hin:=i.QHj;refine wA 6 I ?_;refine QL I (λhc2=>?_) λhc2=>?_
 ·have hlt:i.i<p.ul.length:=wm<|QK8 hc2
  refine QLj 6 I<|QA (Qo (n:=p.un.n) i.i (λF hP=>hP.un) rfl rfl Xr XJ O)<|QA (JG (n:=p.un.n) (vs:=[tx (el p.ul i.i).kd,.slice (el p.ul i.i).fd.q (el p.ul i.i).fd.n (el p.ul i.i).fd.cap,Qs ((el p.ul i.i).ou),tx (el p.ul i.i).st,.slice (el p.ul i.i).cv.q (el p.ul i.i).cv.n (el p.ul i.i).cv.cap]) ((i.i)*5) (λF hP=>hP.un) O rfl XJ I λj v hv=>Q4 (f:=MJ) (l:=p.ul) ZO O hv)<|Qe Ni λb5=>QS (vs:=[_,_,_,_,_]) I I I XJ I .here .h5 wX<|QJi<|QKt<|QA (QH I Ks YZ)<|QA (Qf I YZ .here .h1)<|QA (ZD I I)<|QF<|QC ?_
  refine QL I (λhc2=>?_) λhc2=>?_
  ·have hk:P8 (el p.ul i.i)=true:=hc2;refine wA 2 I<|QA (Qk I I O)<|wB 2 I<|Qa<|QC<|QB<|QA (Qk I I O)<|wB 2 I ?_
   exact Qb (⟨i.i+1,hlt⟩) (hm:=⟨rfl,rfl,(congrArg (λz:Int=>some (Value.int .i64 z)) (by unfold FT.n;dsimp only;rw[Hb hlt,if_pos hk];rfl)),rfl,trivial⟩)
  have hk:P8 (el p.ul i.i)=false:=hc2;refine QK<|Qa<|QC<|QB<|QA (Qk I I O)<|wB 2 I ?_
  exact Qb (⟨i.i+1,hlt⟩) (hm:=⟨rfl,rfl,(congrArg (λz:Int=>some (Value.int .i64 z)) (by unfold FT.n;dsimp only;rw[Hb hlt,if_neg (by rw[hk];decide)];rfl)),rfl,trivial⟩)
 have hge:p.ul.length<=i.i:=wm<|QK9 hc2
 refine Q7 ?_;refine wA 7 I ?_;exact QL3 I I (congrArg (λn:Nat=>Value.int .i64 (n:Int)) (by unfold FT.n;rw[List.take_of_length_le hge];rfl)) tB
theorem QH3{n:Nat}{x:Int}(hF:Fits F w)(hR:Qu F q n 1 (l.map Qs))(hn:l.length=n)(hb:n<=1000000000):QQ prog 216 [.slice q n c,.int .i64 x] w F (λ(k:Int)=>.int .i64 k) (λk _=>decide (k>=0)=decide (x∈l)):=by
 rw[<-QCP];refine QQ.go (G:=λF=>Qu F q n 1 (l.map Qs)) func216 hF hR ?_;refine wA 9 I<|QA (QW I Qd)<|QLi 4 I<|Jo (ι:=V4 l λy=>decide (y=x)) [(0,_),(1,_),(7,_)] (λi=>[(8,.int .i64 ((i.i:Nat):Int))]) (λi=>l.length-i.i) (V4.start _ _) wV wT λi=>?_
 have hi:=i.le;refine wA 6 I ?_;refine QL I (λhc2=>?_) λhc2=>?_
 ·have hlt:i.i<l.length:=wm<|QK8 hc2
  refine QLj 15 I<|QA (Qo (n:=n) i.i tC rfl rfl Qd QZ O)<|QA (Qg (n:=n) ((i.i)*1) tC O rfl QZ (ZF (f:=Qs) (l:=l) O))<|QLi 3 I ?_
  refine QL I (λhc2=>?_) λhc2=>?_
  ·have heq:decide (el l i.i=x)=true:=decide_eq_true (Eq.symm (by simpa using hc2));refine wA 6 I<|X6 ?_
   exact QM (((i.i:Nat):Int)) I (wO I) (rfl) λF _=>by rw[i.hit hlt heq];exact decide_eq_true (Int.natCast_nonneg _)
  have hne:decide (el l i.i=x)=false:=decide_eq_false (λe=>(by simpa using hc2:¬x=el l i.i) e.symm);refine QK<|Qa<|QC<|QB<|QA (Qk I I O)<|wB 2 I ?_
  exact Qb (i.next hlt hne) (by show l.length-(i.i+1)<l.length-i.i;omega)
 have hge:l.length<=i.i:=wm<|QK9 hc2
 refine Q7 ?_;refine wA 6 I ?_;exact QM ((-1:Int)) I (wO I) (rfl) λF _=>by rw[Bool.eq_false_iff.2 (i.stop hge)];rfl
theorem QGO{n:Nat}{x:Int}(hF:Fits F w)(hR:Qu F q n 1 (l.map Qs))(hn:l.length=n)(hb:n<=1000000000):QY prog 140 [.slice q n c,.int .i64 x] w F (.bool (decide (x∈l))):=by
 refine QQ.go (G:=λF=>Qu F q n 1 (l.map Qs)) func140 hF hR ?_;refine wA 9 I<|QJ I (λ_ _ f k=>QH3 f k hn hb) λc7=>JM _ (λ_ _ f h=>h.2) λh7=>QLi 5 I ?_
 exact QL3 I I (congrArg Value.bool h7.symm) tB
theorem dU{x y:Fr}{r s:Rat}(hF:Fits F w)(h:Jl F x r)(h':Jl F y s)(hr:XH r<=100000000)(hs:XH s<=100000000):QY prog 84 [x.v,y.v] w F (.bool (decide (r=s))):=by
 refine QQ.go (G:=λF=>Jl F x r/\Jl F y s) func84 hF ⟨h,h'⟩ ?_;refine QKt<|Q8 I (vs:=[_,_,_,_]) I λb2=>Q8 I (vs:=[_,_,_,_]) I λb3=>QLi 5 I<|QA (wJ I JA .u1)<|QA (wJ I JA .here)<|QJ I (λw F hF ⟨h,h'⟩=>QEf hF h h' hr hs) λ_=>QLi 5 I ?_
 exact QL3 I I (congrArg Value.bool (QEm r s).symm) tB
theorem Cd{p:ZL}(hF:Fits F w)(hP:KO F p)(hb:p.un.n<=1000000)(hs:1<=p.sh/\p.sh<=1000000)(hou:∀u∈p.ul,1<=u.ou/\u.ou<p.sh):QQ prog 67 [p.v] w F (λ(c:Sr)=>.tuple #[c.v,.bool (!LA p.sh p.ul)]) (λc F=>LA p.sh p.ul=false->Qu F c.q c.n 1 ((Cs p.sh.toNat p.ul).map Qs)/\c.n=p.sh.toNat/\c.n<=c.cap):=by
 have LU:=hP.MK;refine QQ.go (G:=λF=>KO F p) func67 hF hP ?_;refine QKt<|Q8 rfl (vs:=[_,_,_]) rfl λb1=>QJk rfl<|wR rfl<|QG<|Jf (b:=b1) .here<|QB<|Qw rfl (JR Qd) QZ Hj rfl rfl λb7=>QA (QH rfl WT QZ)<|QA (Qy 0 (λF h9=>h9.1.2) rfl QZ rfl)<|Xj (bs1:=[]) (congrArg (λz:Int=>some [Value.slice (some ⟨b7,0,none⟩) 1 1,Value.int .i64 z]) (show p.sh=((p.sh.toNat:Nat):Int) by omega)) (List.Perm.refl _) (QHT (x:=[.int .i64 (-1)]) (N:=p.sh.toNat) O (λF h9=>Qu.of h9.2 rfl) rfl (by intro v hv;rw[List.mem_singleton.1 hv];rfl)) λc10=>?_
 obtain⟨v10,ob10,hr10⟩:=c10;obtain⟨b10,cap10,rest10,e1,e2,e3,e4,e5,e6⟩:=hr10.pos O;dsimp only;rw[e1,e2,QCb p.sh.toNat p.ul];rw[e3]at e4;refine QLi 6 I<|QA (QH I XS Jj)<|QA (Qy 1 (λF h9=>h9.1.2) rfl Jj I)<|QA (QW I Xr)<|QLi 4 I<|ZH (ι:=DvJ p.ul) [(4,_),(12,_),(13,_)] (λi=>[(14,.int .i64 ((i.i:Nat):Int))]) (λi=>[(b10,.cells ((Cs p.sh.toNat (p.ul.take i.i)).map Qs++rest10).toArray 3 (0,0))]) (λi F=>True) (λi=>p.ul.length-i.i) (⟨0,Nat.zero_le _,λk=>by rw[List.take_zero];exact Nat.zero_le _⟩) wV wT λi=>?_
 have hi:=i.le;refine wA 6 I ?_;refine QL I (λhc2=>?_) λhc2=>?_
 ·have hlt:i.i<p.ul.length:=wm<|QK8 hc2
  have ho:=hou _ (Ql hlt);refine QLj 7 I<|QA (Qo (n:=p.un.n) i.i (λF h9=>h9.1.1.1.un) rfl rfl Xr XJ O)<|QA (JG (n:=p.un.n) (vs:=[tx (el p.ul i.i).kd,.slice (el p.ul i.i).fd.q (el p.ul i.i).fd.n (el p.ul i.i).fd.cap,Qs ((el p.ul i.i).ou),tx (el p.ul i.i).st,.slice (el p.ul i.i).cv.q (el p.ul i.i).cv.n (el p.ul i.i).cv.cap]) ((i.i)*5) (λF h9=>h9.1.1.1.un) O rfl XJ I λj v hv=>Q4 (f:=MJ) (l:=p.ul) ZO O hv)<|Qe Ni λb6=>QJk I<|QS (vs:=[_,_,_,_,_]) I I I XJ I .here .h5 wX<|QLi 6 I<|QA (QH I KI QZ)<|QA (Qf I QZ .here (.skip (.skip .h1)))<|QA (Qj (i:=(el p.ul i.i).ou.toNat) rfl wN Qd QZ O)<|QA (Xm (c:=(Cs p.sh.toNat (p.ul.take i.i)).map Qs++rest10) (T':=3) rfl QZ .u1 (Xd (by rw[WE];omega))) ?_
  rw[QIA O,show(((el p.ul i.i).ou.toNat:Nat):Int)=(el p.ul i.i).ou by omega];refine QLi 3 I ?_;refine QL I (λhc2=>?_) λhc2=>?_
  ·have hdp:BW (p.ul.take i.i) (el p.ul i.i).ou>=0:=by simpa using hc2
   have hdv:=QH9 hlt ho hdp;refine QG<|QB ?_
   obtain⟨⟨rq,rn,rc⟩,hv9,hrn,hrc,hfix9⟩:=Qp.fix (w0:=w) (F0:=F) (bs1:=[_]) (G:=_) (Qp.some (T:=3) (sz:=1) (b:=b10) (n:=p.sh.toNat) (cap:=cap10) (l:=(Cs p.sh.toNat (p.ul.take i.i)).map Qs) (rest:=rest10) (by rw[List.length_map,WE];omega) (by rw[List.length_map,WE];omega) e5 e6);dsimp only at hrn hrc hfix9;subst hrn;refine Vp hfix9 ?_;rw[hv9];dsimp only[Sr.v];refine QLi 5 I<|X6 ?_
   exact J7 (⟨rq,p.sh.toNat,rc⟩) I (wP I I) (by rw[hdv];rfl) λF _ h=>by rw[hdv]at h;cases h
  have pf:BW (p.ul.take i.i) (el p.ul i.i).ou<0:=wm<|QK9 hc2
  refine QLj 4 I<|QA (QH I KI QZ)<|QA (Qf I QZ .here (.skip (.skip .h1)))<|QJj I<|QA (Qj (i:=(el p.ul i.i).ou.toNat) rfl wN Qd QZ O)<|QS (vs:=[_]) I I I QZ I .u1 (Z3 (by rw[WE];omega) _) wT ?_
  rw[<-QEr hlt O pf];refine QF<|Qa<|QC<|QB<|QA (Qk I I O)<|wB 2 I ?_
  exact Qb (⟨i.i+1,hlt,QGK i hlt pf⟩)
 have hge:p.ul.length<=i.i:=wm<|QK9 hc2
 refine Q7 ?_;refine QG ?_;obtain⟨⟨rq,rn,rc⟩,hv9,hrn,hrc,hfix9⟩:=Qp.fix (w0:=w) (F0:=F) (bs1:=[]) (G:=_) (Qp.some (T:=3) (sz:=1) (b:=b10) (n:=p.sh.toNat) (cap:=cap10) (l:=(Cs p.sh.toNat (p.ul.take i.i)).map Qs) (rest:=rest10) (by rw[List.length_map,WE];omega) (by rw[List.length_map,WE];omega) e5 e6);dsimp only at hrn hrc hfix9;subst hrn;refine Hh hfix9 ?_;rw[hv9];dsimp only[Sr.v];have htk:p.ul.take i.i=p.ul:=List.take_of_length_le hge;have hde:=QH8 hs.1 (htk ▸ i.nd);refine wA 3 I<|QA (N9 1 rfl rfl rfl Qd QZ O hrc)<|QJ I (λ_ _ f k=>QGO (l:=(Cs p.sh.toNat (p.ul.take i.i)).drop 1) f (by have:=k.2.drop hrc 1;rw[<-List.map_drop]at this;exact this) (by rw[List.length_drop,WE]) O) λ_=>QA (YD I)<|QLi 5 I ?_
 exact J7 (⟨rq,p.sh.toNat,rc⟩) I (wP I I) (by rw[htk,hde]) λF ⟨⟨⟨⟨⟨hP,hz1⟩,hs7⟩,_⟩,hrow⟩,_⟩ _=>by rw[htk]at hrow;exact⟨hrow,rfl,hrc⟩
section
variable{P:Program}{w0:World}{F0:Gs}{bs:List (Nat×Obj)}{G:Gs->Prop}{Q:Exit->Act->World->Prop}{N:Nat}{m:Sl}{E:Env}{l rest:List Oper}{ops:Array Oper}
def QFW(r:Loop):Option Code->Loop
 |none=>r
 |some c=>{ r with state:=.done,pending:=some c }
theorem pV{g:Operand}{ps:Array Tmp}{assign body:Code}{gf:Nat}{lb:Array Value}(B:ι->List (Nat×Obj))(R:ι->Gs->Prop)(pd:ι->Option Code)(Dn:ι->Prop)(hg:ev m g=some (.func (.func gf) #[] lb))(he:Enters P gf)
  (hcall:∀(L D:Nat) (r:Loop) (w:World),F9 N m ps assign body r->St ⟨w0,F0,(L,.loop r)::(D,.deferred (some []))::bs,G⟩ w ->
   Calls P gf (#[.func (.yield L) #[] #[]]++lb) w λe w'=>(∃v,e = .returned v)/\∃s,Dn s/\St ⟨w0,F0,(L,.loop (QFW r (pd s)))::(D,.deferred (some []))::B s,λF=>G F/\R s F⟩ w')
  (k:∀D s,Dn s->pd s=none->Fin (df:=Vz D) Q .normal N m ⟨w0,F0,(D,.deferred (some []))::B s,λF=>G F/\R s F⟩)
  (k2:∀D s c,Dn s->pd s=some c->J (df:=Vz D) P c Q N m ⟨w0,F0,(D,.deferred (some []))::B s,λF=>G F/\R s F⟩):J (df:=KB) P (.rangeFunc g ps assign body) Q N m ⟨w0,F0,bs,G⟩:=λa w ha hw=>by
 refine(wpIn_wide (n:=0)).1 (wpIn_rangeFunc λfn _=>?_);obtain⟨r,hr⟩:∃r:Loop,r={ state:=.ready,pending:=none,fn,tmps:=a.tmps,params:=ps,assign,body,defers:=w.heap.size }:=⟨_,rfl⟩;have hs1:St ⟨w0,F0,(w.heap.size+1,.loop r)::(w.heap.size,.deferred (some []))::bs,G⟩ ((w.alloc (.deferred (some []))).alloc (.loop r)):=by
  have h1:=hw.alloc (.deferred (some [])) (λc fr e=>by cases e);have h2:=h1.alloc (.loop r) λc fr e=>by cases e
  rwa [World.size_alloc]at h2
 have hd:a.defers=[]:=ha.df;refine⟨w.heap.size+1,[{ target:=.collected w.heap.size,args:=#[] }],(w.alloc (.deferred (some []))).alloc (.loop r),{ target:=.fn (.func gf) lb,args:=#[.func (.yield (w.heap.size+1)) #[] #[]] },(w.alloc (.deferred (some []))).alloc (.loop r),gf,
  #[.func (.yield (w.heap.size+1)) #[] #[]]++lb,(w.alloc (.deferred (some []))).alloc (.loop r),?_,?_,λ_ _=>trivial,?_,λe=>(by cases e),?_⟩
 ·rw[hr];exact run_enterLoop_outer _ _ _ _ _
 ·simp only[resolve,ha.ev hg];simp[go_sem]
 ·simpa[invoke,go_sem]using he _ _
 refine(callsIn_wide.2 (hcall _ _ r _ ⟨by rw[hr],by rw[hr],by rw[hr],by rw[hr],by rw[hr],⟨by rw[hr];exact ha.size,rfl,by rw[hr];exact ha.get⟩⟩ hs1)).mono ?_;rintro e w' ⟨⟨v,rfl⟩,s,pf,hs⟩;have hsl:JO (df:=Vz w.heap.size) N m { a with defers:=[{ target:=.collected w.heap.size,args:=#[] }]++a.defers }:=JO.mk (df:=Vz w.heap.size) (JO.size (df:=KB) (a:=a) ha) (by show _++a.defers=_;rw[hd];rfl) (λt v h=>JO.get (df:=KB) (a:=a) ha t v h);have hl:=hs.own .here;cases hp:pd s with
 |none =>
  rw[hp]at hl hs;refine⟨none,w'.putObj (w.heap.size+1) (.loop { r with state:=.exhausted }),?_,k w.heap.size s pf hp _ _ hsl ?_⟩
  ·have h1:=run_endLoop (P:=P) hl (by show r.state≠_;rw[hr];intro e;cases e);rw[h1];show Result.ok r.pending _=_;rw[hr];rfl
  exact(hs.put (.loop { r with state:=.exhausted }) .here λc fr e=>by cases e).imp (.cons _ QJ3) λ_ h=>h
 |some c =>
  rw[hp]at hl hs;refine⟨some c,w'.putObj (w.heap.size+1) (.loop { QFW r (some c)with state:=.exhausted }),?_,wpIn_wide.2 (k2 w.heap.size s c pf hp _ _ hsl ?_)⟩
  ·exact run_endLoop (P:=P) hl (by intro e;cases e)
  exact(hs.put (.loop { QFW r (some c)with state:=.exhausted }) .here λc fr e=>by cases e).imp (.cons _ QJ3) λ_ h=>h
theorem QE9{L:Nat}{r:Loop}{R:Ending->World->Prop}(ho:Own bs L (.loop r) f)(k:∀w,St ⟨w0,F0,f (.loop { r with state:=.done,pending:=some .ret }),G⟩ w->R (.returned (.bool false)) w):Fin (roundPost P L R) .ret N m ⟨w0,F0,bs,G⟩ :=
 λa w ha hw=>⟨_,_,run_endRound (some .ret) (hw.own ho),k _ (hw.put _ ho λc fr e=>by cases e)⟩
theorem QIU{F:Fence}(h:Fin Q .ret N m E):JI F P .ret Q N m E:=λa w ha hw=>wpIn_ret (h a w ha hw)
def Ir{K:Act->World->Prop}:∀(l:List Oper) (a:Act) (w:World),WZ l=true->wpList P ops (XM K) l a w->(∀a w,K a w->wpListIn Fence.wide 0 P ops Q rest a w)->wpListIn Fence.wide 0 P ops Q (l++rest) a w
 |[],a,w,_,h,hk=>hk a w h
 |o::l,a,w,hd,h,hk=>by
  simp only[WZ,List.all_cons,Bool.and_eq_true]at hd;rw[List.cons_append];unfold wpList at h;unfold wpListIn;split
  ·rename_i hw;rw[if_pos hw]at h;rcases h with h | ⟨_,h⟩
   ·exact Nd.op (PG hd.1) (λ_ _ _ h=>h.elim) (λ_ _ h=>h.elim) (λa w h=>Ir l a w hd.2 h hk) h
   obtain⟨_,_,h⟩:=h;exact h.elim
  rename_i hw;rw[if_neg hw]at h;exact⟨λf _=>trivial,Ir l _ _ hd.2 h hk⟩
def QE6(hd:WZ l=true)(h:JS P ops (XM λa w=>wpListIn Fence.wide 0 P ops Q rest a w) l N m E):JSI P ops Q (l++rest) N m E:=λa w ha hw=>Ir l a w hd (h a w ha hw) λ_ _ h=>h
def jK(h:JSI P ops Q rest N m E):Fin (XM λa w=>wpListIn Fence.wide 0 P ops Q rest a w) .normal N m E:=h
theorem QDT{id:Nat}(h:JSI P l.toArray Q l N m E):J P (.region id l.toArray false) Q N m E:=λa w ha hw=>(wpIn_wide (n:=0)).1 (wpIn_region_lit (h a w ha hw))
theorem C3{id:Nat}(n:Nat)(hd:WZ (l.take n)=true)(h:JS P l.toArray (XM λa w=>wpListIn Fence.wide 0 P l.toArray Q (l.drop n) a w) (l.take n) N m E):J P (.region id l.toArray false) Q N m E:=by
 refine QDT ?_;have:=QE6 (rest:=l.drop n) hd h
 rwa [List.take_append_drop]at this
theorem QBk{d r:Nat}{args:Array Operand}{tys:Array TypeId}{vs:List Value}{pos:String}{E':ι->Env}{bv:ι->Bool}(hx:ev m x=some (.func (.yield r) #[] #[]))(hv:D2 m args.toList=some vs)
  (hy:∀w,St E w->YieldAt Fence.wide 0 P r vs.toArray w λe w'=>∃s,e = .returned (.bool (bv s))/\St (E' s) w')
  (k:∀s,JSI P ops Q l N ((d,.bool (bv s))::m) (E' s)) (hd:Jq N (some d)=true:=by rfl):JSI P ops Q (⟨some d,.call ⟨.value x,args,tys⟩,ty,pos,aft,none⟩::l) N m E:=by
 intro a w ha hw;refine wpListIn_plain rfl λK hK=>?_;obtain⟨fn,tmps,assign,body,hr,hR⟩:=hy w hw;refine⟨λf _=>trivial,?_⟩;have e2:args.map a.eval=vs.toArray:=by rw[<-ha.D2 hv];apply Array.ext';simp
 have hrun:(execOp a.eval ⟨some d,.call ⟨.value x,args,tys⟩,ty,pos,aft,none⟩).run P w = .ok (.round r fn tmps assign body) w:=by
  simp only[execOp,resolve,ha.ev hx,Deferred.ofValue,Sem.run_bind,Sem.run_pure,Result.andThen_ok,invoke,e2];simpa using hr
 rw[Oper.semAt_plain Fence.wide a.eval _ (λc e=>by cases e),hrun];refine⟨λe=>(by cases e),hR.mono ?_⟩;rintro e w' ⟨s,rfl,hs⟩;exact hK _ _ (k s _ w' (ha.put hd (.bool (bv s))) hs)
theorem QIT{d:Option Tmp}{o:Op}{pos:String}{g t:Nat}{want:Bool}(hg:(ops[g]?).bind (·.dst)=some t)(hb:look m t=some (.bool want))(h:JSI P ops Q (⟨d,o,ty,pos,aft,none⟩::l) N m E):JSI P ops Q (⟨d,o,ty,pos,aft,some (g,want)⟩::l) N m E:=by
 intro a w ha hw;have h1:=h a w ha hw;unfold wpListIn at h1 ⊢;rw[if_pos (by simp[Region.wanted])]at h1;rw[if_pos (by simp[Region.wanted,Hk ha hg hb])];exact h1
end
theorem ud{P:Program}{m:Sl}{ft:TypeId}{fo n f:Nat}{v:Value}(hf:Y4 P T f=some (fo,ft))(hs:Zd P ft=some (false,n))(hx:ev m x=some (.agg cs.toArray))(hv:cs[fo]?=some v):Qt P N m S (.field T x f) ty v:=λa w _ _ _ _ ha _=>by
 unfold Y4 at hf;split at hf
 ·rename_i fs hu;split at hf
  ·rename_i fx hx2;simp only[Option.some.injEq,Prod.mk.injEq]at hf;obtain⟨rfl,rfl⟩:=hf;simp[execOp,ha.ev hx,Instr.field,run_underlying hu,hx2,asAgg,part,RH hs,hv]
  cases hf
 cases hf
section
variable{P:Program}{N:Nat}{m:Sl}{w0:World}{F0:Gs}{bs:List (Nat×Obj)}{G:Gs->Prop}{ty:TypeId}{κ:Type}[DecidableEq κ]{K:κ->Value}{kv:List (κ×Value)}{b:Nat}{f:Obj->List (Nat×Obj)}
def cL(kv:List (κ×Value))(k:κ)(z:Value):Value×Bool:=match Z0 kv k 0 with
 |some (_,v)=>(v,true)
 |none=>(z,false)
theorem xH{kt et:TypeId}{y:Operand}{k:κ}{z v:Value}{ok:Bool}(hq:Sw P kt K)(hx:ev m x=some (.map (some b)))(hy:ev m y=some (K k))(ht:Re P T kt et=true)(hz:zvB P et=some z)(ho:Own bs b (ZA K kv) f)(hf:cL kv k z=(v,ok)):
  Qt P N m (St ⟨w0,F0,bs,G⟩) (.lookup T x y true) ty (.tuple #[v,.bool ok]):=by
 unfold cL at hf;cases hfq:Z0 kv k 0 with
 |none=>rw[hfq]at hf;cases hf;exact Fa hq hx hy ht hz ho hfq
 |some r=>obtain⟨i,v'⟩:=r;rw[hfq]at hf;cases hf;exact Lw hq hx hy ht ho hfq
theorem kO{kt et:TypeId}{y:Operand}{k:κ}{z v:Value}{ok:Bool}(hq:Sw P kt K)(hx:ev m x=some (.map (some b)))(hy:ev m y=some (K k))(ht:Re P T kt et=true)(hz:zvB P et=some z)(ho:Own bs b (ZA K kv) f)(hf:cL kv k z=(v,ok)):
  Qt P N m (St ⟨w0,F0,bs,G⟩) (.lookup T x y false) ty v:=λa w _ _ _ _ ha hw=>by
 have hb:=hw.own ho;unfold ZA at hb;have hu:=PM ht;unfold cL at hf;cases hfq:Z0 kv k 0 with
 |none =>
  rw[hfq]at hf;cases hf;simp[execOp,ha.ev hx,ha.ev hy,Instr.lookup,run_underlying hu,MapKept.run_getObj_map hb,hq.chk,hq.find,hfq,qX hz]
 |some r =>
  obtain⟨i,v'⟩:=r;rw[hfq]at hf;cases hf;simp[execOp,ha.ev hx,ha.ev hy,Instr.lookup,run_underlying hu,MapKept.run_getObj_map hb,hq.chk,hq.find,hfq]
theorem C4{Q:Exit->Act->World->Prop}{ops:Array Oper}{l:List Oper}{pos:String}{kt et:TypeId}{y z:Operand}{k:κ}{v:Value}(hq:Sw P kt K)(hx:ev m x=some (.map (some b)))(hy:ev m y=some (K k))(hz:ev m z=some v)(ht:Re P T kt et=true)(ho:Own bs b (ZA K kv) f)
  (kk:JS P ops Q l N m ⟨w0,F0,f (ZA K (Bl kv k v)),G⟩):JS P ops Q (⟨none,.insert T x y z,ty,pos,aft,none⟩::l) N m ⟨w0,F0,bs,G⟩:=λa w ha hw=>by
 refine wpList_plain rfl λKk hK=>?_;have h1:=EZ (ops:=ops) (Q:=XM Kk) (l:=[]) (N:=N) (ty:=ty) (pos:=pos) (aft:=aft) (x:=x) (y:=y) (z:=z) hq hx hy hz ht ho (G:=G) (w0:=w0) (F0:=F0) (λa' w' ha' hw'=>(hK _ _ (kk a' w' ha' hw'):Kk a' w')) a w ha hw;unfold wpList at h1;rw[if_pos (by simp[Region.wanted])]at h1;rcases h1 with h1 | ⟨_,h1⟩
 ·unfold Oper.wp at h1 ⊢;have e:(execOp a.eval ⟨none,.insert T x y z,ty,pos,aft,none⟩).run P w=(execOp a.eval ⟨none,.mapUpdate T x y z,ty,pos,aft,none⟩).run P w:=rfl;rw[e];generalize (execOp a.eval ⟨none,.mapUpdate T x y z,ty,pos,aft,none⟩).run P w=r at h1;cases r with
  |ok x w'=>cases x<;>simp only[Oper.upon]at h1 ⊢<;>first | exact h1 | exact h1.elim | (exact h1.mono λe w'' h=>by cases e<;>first | exact h | exact h.elim | (obtain⟨_,_,h⟩:=h;exact h.elim))
  |halt x w'=>cases x<;>simp only[Oper.upon]at h1 ⊢<;>exact h1.elim
 obtain⟨_,_,h1⟩:=h1;exact h1.elim
end
section
variable[Dr][df:Df]{P:Program}{Q:Exit->Act->World->Prop}{N:Nat}{m:Sl}{E E0:Env}{l:List Oper}{r r1 r2:List Nat}
theorem QJh(i j:Nat){o o':Oper}(hp:Wu l r=none)(hl:r.filter (Ya l r)=[i,j])(ho:l[i]?=some o)(ho':l[j]?=some o')(hq:JX o.op=false)(hq':JX o'.op=false)(he:r.erase i=r1)(he':r.erase j=r2)
  (h:JD P l.toArray (XM (cC P l Q E0 r1)) E0 [o] N m E) (h':JD P l.toArray (XM (cC P l Q E0 r2)) E0 [o'] N m E) (hr:r≠[]:=by decide):JV P l Q E0 r N m E:=by
 intro hE a w ha hw;subst he;subst he';obtain⟨x,s,rfl⟩:=List.exists_cons_of_ne_nil hr;show Iu P l Q (St E0) (s.length+1) (x::s) a w;unfold Iu;rw[hp];intro k hk hrd;have hm:k∈(x::s).filter (Ya l (x::s)):=List.mem_filter.2 ⟨hk,hrd⟩;rw[hl]at hm;have e2:s.length=((x::s).erase k).length:=by
  have:=B6 hk;rw[List.length_cons]at this;omega
 rcases List.mem_cons.1 hm with rfl | hm
 ·refine wpOp_mono (λa' w' ⟨_,S',h1,h2,h3⟩=>⟨S',h1,h2,?_⟩) (UN ho hq h hE ha hw);rw[e2];exact h3
 cases List.mem_singleton.1 hm;refine wpOp_mono (λa' w' ⟨_,S',h1,h2,h3⟩=>⟨S',h1,h2,?_⟩) (UN ho' hq' h' hE ha hw);rw[e2];exact h3
end
theorem PI:Re prog 153 9 152=true:=wu
theorem QFR:Zd prog 149=some (false,1):=wu
theorem qW:zvB prog 152=some (.agg #[.int .i64 0,.int .i64 0,.nilFunc,.nilFunc]):=wu
def kL(kd:List UInt8):Int:=if kd=Vj then 2 else if kd=Ab then 1 else if kd=WR then 1 else 0
def kX(kd:List UInt8):Int:=if kd=Vj then 2 else if kd=Ab then 8 else if kd=WR then 1 else 0
def kF(kd:List UInt8):Value:=if kd=Vj then .func (.func 152) #[] #[]else if kd=Ab then .func (.func 151) #[] #[]else if kd=WR then .func (.func 151) #[] #[]else .nilFunc
def kH(kd:List UInt8):Value:=if kd=Vj then .nilFunc else if kd=Ab then .func (.func 153) #[] #[]else if kd=WR then .func (.func 154) #[] #[]else .nilFunc
def kV(kd:List UInt8):Value:=.agg #[.int .i64 (kL kd),.int .i64 (kX kd),kF kd,kH kd]
def kB(kd:List UInt8):Bool:=decide (kd=Vj)||decide (kd=Ab)||decide (kd=WR)
def kdM:List (List UInt8×Value):=[(Vj,kV Vj),(Ab,kV Ab),(WR,kV WR)]
def dG(kd:List UInt8):cL kdM kd (.agg #[.int .i64 0,.int .i64 0,.nilFunc,.nilFunc])=(.agg #[.int .i64 (kL kd),.int .i64 (kX kd),kF kd,kH kd],kB kd):=by
 obtain⟨e1,e2,e3⟩:=PR;unfold cL kdM Z0 Z0 Z0 Z0;by_cases h1:kd=Vj
 ·subst h1;rw[if_pos rfl];unfold kB;rw[decide_eq_true rfl];rfl
 rw[if_neg h1];by_cases h2:kd=Ab
 ·subst h2;rw[if_pos rfl];unfold kB;rw[decide_eq_true (p:=Ab=Ab) rfl,Bool.or_true];rfl
 rw[if_neg h2];by_cases h3:kd=WR
 ·subst h3;rw[if_pos rfl];unfold kB;rw[decide_eq_true (p:=WR=WR) rfl,Bool.or_true];rfl
 rw[if_neg h3];simp only[kL,kX,kF,kH,kB,if_neg h1,if_neg h2,if_neg h3,decide_eq_false h1,decide_eq_false h2,decide_eq_false h3];rfl
def QKI:kV Vj = .agg #[.int .i64 2,.int .i64 2,.func (.func 152) #[] #[],.nilFunc]:=by unfold kV kL kX kF kH;rw[if_pos rfl,if_pos rfl,if_pos rfl,if_pos rfl]
def QKJ:kV Ab = .agg #[.int .i64 1,.int .i64 8,.func (.func 151) #[] #[],.func (.func 153) #[] #[]]:=by
 have h:=PR.1.symm;simp only[kV,kL,kX,kF,kH,if_neg h,eq_self,if_true]
def QKH:kV WR = .agg #[.int .i64 1,.int .i64 1,.func (.func 151) #[] #[],.func (.func 154) #[] #[]]:=by
 have h:=PR.2.1.symm;have h2:=PR.2.2.symm;simp only[kV,kL,kX,kF,kH,if_neg h,if_neg h2,eq_self,if_true]
def QF7:Bl (Bl (Bl [] Vj (.agg #[.int .i64 2,.int .i64 2,.func (.func 152) #[] #[],.nilFunc])) Ab (.agg #[.int .i64 1,.int .i64 8,.func (.func 151) #[] #[],.func (.func 153) #[] #[]])) WR (.agg #[.int .i64 1,.int .i64 1,.func (.func 151) #[] #[],.func (.func 154) #[] #[]])=kdM:=by
 obtain⟨e1,e2,e3⟩:=PR;unfold kdM;rw[QKI,QKJ,QKH];simp only[Bl,if_neg e1.symm,if_neg e2.symm,if_neg e3.symm]
def kf2(kd:List UInt8):Nat:=if kd=Vj then 152 else 151
def QKK{kd:List UInt8}(h:kd3 kd):kF kd = .func (.func (kf2 kd)) #[] #[]:=by
 unfold kF kf2;by_cases h1:kd=Vj
 ·rw[if_pos h1,if_pos h1]
 rw[if_neg h1,if_neg h1];rcases h with h | h | h
 ·exact absurd h h1
 ·rw[if_pos h]
 by_cases h2:kd=Ab
 ·rw[if_pos h2]
 rw[if_neg h2,if_pos h]
theorem qm:Jn prog 86 [] ⟨w0,F0,bs,G⟩ (λ(c:Nat)=>.map (some c)) (λc=>⟨w0,F0,(c,ZA tx kdM)::bs,G⟩):=by
 refine Jn.intro func86 rfl w8 rfl rfl<|QKt<|wR rfl<|QKt<|wR rfl<|QKt<|Hi tx λb2=>QA (Jr rfl QAm p4 (.cons (vs:=[_]) rfl rfl rfl .h1 (.cons (vs:=[_]) rfl rfl rfl (.skip .h1) (.cons (vs:=[_]) rfl rfl rfl (.skip (.skip .h1)) (.cons (vs:=[_]) rfl rfl rfl (.skip (.skip (.skip .h1))) .nil)))))<|C4 (k:=Vj) (v:=.agg #[.int .i64 2,.int .i64 2,.func (.func 152) #[] #[],.nilFunc]) H6 rfl rfl rfl PI .here<|QJj rfl<|QA (Jr rfl QAm p4 (.cons (vs:=[_]) rfl rfl rfl .h1 (.cons (vs:=[_]) rfl rfl rfl (.skip .h1) (.cons (vs:=[_]) rfl rfl rfl (.skip (.skip .h1)) (.cons (vs:=[_]) rfl rfl rfl (.skip (.skip (.skip .h1))) .nil)))))<|C4 (k:=Ab) (v:=.agg #[.int .i64 1,.int .i64 8,.func (.func 151) #[] #[],.func (.func 153) #[] #[]]) H6 rfl rfl rfl PI .here<|QJj rfl<|QA (Jr rfl QAm p4 (.cons (vs:=[_]) rfl rfl rfl .h1 (.cons (vs:=[_]) rfl rfl rfl (.skip .h1) (.cons (vs:=[_]) rfl rfl rfl (.skip (.skip .h1)) (.cons (vs:=[_]) rfl rfl rfl (.skip (.skip (.skip .h1))) .nil)))))<|C4 (k:=WR) (v:=.agg #[.int .i64 1,.int .i64 1,.func (.func 151) #[] #[],.func (.func 154) #[] #[]]) H6 rfl rfl rfl PI .here<|QJj rfl<|wR rfl<|QT ?_
 exact ZN (b2) rfl (wO I) (rfl) λw hw=>by rw[QF7]at hw;exact hw
theorem QHy(hF:Fits F w):QY prog 151 [.agg (MJ u).toArray] w F u.fd.v:=by
 refine QQ.go (G:=λF=>True) func151 hF trivial ?_;refine QKt<|Q8 I (vs:=[_,_,_,_,_]) I λb1=>QLi 5 I<|QA (QH I ZV XK)<|QA (Qf I XK .here (.skip .h1))<|wR I<|QT ?_
 exact QL3 I I (rfl) tB
theorem QHx(hF:Fits F w)(hc:u.fd.n<=u.fd.cap)(h1:1<=u.fd.n):QY prog 152 [.agg (MJ u).toArray] w F (.slice (if u.fd.cap=1 then u.fd.q else u.fd.q.map λa=>a.add (1*2)) (u.fd.n-1) (u.fd.cap-1)):=by
 refine QQ.go (G:=λF=>True) func152 hF trivial ?_;refine QKt<|Q8 I (vs:=[_,_,_,_,_]) I λb1=>QLi 5 I<|QA (QH I ZV XK)<|QA (Qf I XK .here (.skip .h1))<|QA (N9 1 rfl rfl rfl Zz YC h1 hc)<|wR I<|QT ?_
 exact QL3 I I (rfl) tB
theorem QHz(hF:Fits F w)(hc:u.fd.n<=u.fd.cap)(h1:1<=u.fd.n):QY prog (kf2 u.kd) [.agg (MJ u).toArray] w F (gR u).v:=by
 unfold kf2 gR;by_cases h:u.kd=Vj
 ·rw[if_pos h,if_pos h];exact QHx hF hc h1
 rw[if_neg h,if_neg h];exact QHy hF
theorem QEN{p:ZL}(hF:Fits F w):QQ prog 142 [p.v,s.v,.agg (MJ u).toArray] w F (λ(c:Nat×Nat)=>.func (.func 217) #[] #[.pointer (some ⟨c.1,0,none⟩),.pointer (some ⟨c.2,0,none⟩)]) (λc F=>F c.1=some ((MJ u).toArray,59)/\F c.2=some (#[s.v],23)):=by
 refine QQ.go (G:=λF=>True) func142 hF trivial ?_;refine QKt<|Q8 I (vs:=[_,_,_]) I λb3=>Q8 I (vs:=[_]) I λb4=>Q8 I (vs:=[_,_,_,_,_]) I λb5=>QLi 5 I<|B8 (b:=b5) .here<|B8 (b:=b4) .here<|QA (EF I)<|wR I<|QT ?_
 exact QM ((b5,b4)) I (wO I) (rfl) λF h=>⟨h.1.2,h.2⟩
structure RmI{α:Type}(l:List α)(p:α->Bool) where
 k:Nat
 le:k<=l.length
 ok:∀x∈l.take k,p x=true
section
variable{α:Type}[Inhabited α]{l:List α}{p:α->Bool}
def RmI.next(s:RmI l p)(h:s.k<l.length)(e:p (el l s.k)=true):RmI l p:=⟨s.k+1,h,λx hx=>by
 rw[XF h]at hx;rcases List.mem_append.1 hx with hx | hx
 ·exact s.ok x hx
 rw[List.mem_singleton.1 hx];exact e⟩
def RmI.hit(s:RmI l p)(h:s.k<l.length)(e:p (el l s.k)=false):l.all p=false:=List.all_eq_false.2 ⟨_,Ql h,by rw[e];decide⟩
omit [Inhabited α] in
theorem RmI.stop(s:RmI l p)(h:l.length<=s.k):l.all p=true:=List.all_eq_true.2 λx hx=>s.ok x (by rw[List.take_of_length_le h];exact hx)
end
section
variable[Dr][df:Df]{P:Program}{Q:Exit->Act->World->Prop}{N:Nat}{m:Sl}{E0:Env}{ops:Array Oper}{l:List Oper}{w0:World}{F0:Gs}{bs:List (Nat×Obj)}{G G':Gs->Prop}
theorem QGa(h:∀F,G F->G' F)(k:JD P ops Q E0 l N m ⟨w0,F0,bs,G'⟩)(h2:∀w,St ⟨w0,F0,bs,G'⟩ w->St E0 w:=by exact λ_ h=>h):JD P ops Q E0 l N m ⟨w0,F0,bs,G⟩:=λ_ a w ha hw=>k h2 a w ha (hw.Bs h)
end
theorem QC6{B:Bool->List (Nat×Obj)}{H:Gs->Prop}{N c2 b1 b2 L:Nat}{okf:F2->Bool} 
  (hH:∀F,H F->F b1=some ((MJ u).toArray,59)/\F b2=some (#[.slice q2 N c2],23)/\UB F u/\Qu F q2 N 1 ((Cs N us).map Qs)) (hml:(Vu u).length=(gR u).n)
  (hfc:u.fd.n<=u.fd.cap) (hf1:1<=u.fd.n) (hfn:u.fd.n<=1000000) (hk3:kd3 u.kd) (hkN:∀f∈Vu u,0<=f.k/\f.k<(N:Int)) (hok:∀f:F2,BW us f.k<0->okf f=true)
  (hround:∀(C:Nat×Obj) (j:Nat) (W:World),j<(Vu u).length->0<=BW us (el (Vu u) j).k->St ⟨w0,F0,C::B true,H⟩ W->YieldAt Fence.wide 0 prog L #[.int .i64 (BW us (el (Vu u) j).k)] W λe W'=>e = .returned (.bool (okf (el (Vu u) j)))/\St ⟨w0,F0,C::B (okf (el (Vu u) j)),H⟩ W') :
  Jn prog 217 [.func (.yield L) #[] #[],.pointer (some ⟨b1,0,none⟩),.pointer (some ⟨b2,0,none⟩)] ⟨w0,F0,B true,H⟩ (λ(_:{b:Bool // b=(Vu u).all okf})=>.tuple #[]) (λb=>⟨w0,F0,B b.1,H⟩):=by
 have hmle:=QAx (u:=u);refine Jn.intro func217 rfl w8 rfl rfl<|QG<|pU (r:=[0,1,2,3,4,5,6,7,8]) QJ3 mixed wu rfl<|NW 1 wu rfl rfl<|QI (QH rfl Ks YZ)<|NV<|NW 2 wu rfl rfl<|QI (Eo (c:=(MJ u).toArray) (T':=59) rfl YZ (λF h=>(hH F h).1) rfl)<|NV<|NW 5 wu rfl rfl<|QI (Ux (c:=(MJ u).toArray) (T':=59) (vs:=MJ u) rfl XJ (λF h=>(hH F h).1) rfl λj v hv=>by rw[Nat.zero_add];simpa using hv)<|NV<|NW 8 wu rfl rfl<|QI (QD I)<|NV<|ya 0 wu wu rfl rfl rfl<|Wt I (List.Perm.refl _) qm (λc w h=>h.imp (.cons _ QJ3) λ_ h=>h) λc7=>QCU (E1:=⟨w0,F0,(c7,ZA tx kdM)::B true,H⟩) (λw h=>h.imp (.cons _ QJ3) λ_ h=>h) tC<|NW 3 wu rfl rfl<|QI (kO H6 I I PI qW .here (dG u.kd))<|NV<|NW 4 wu rfl rfl<|QI (ud QGF QFR (cs:=[_,_,_,_]) I I)<|NV<|ya 6 wu wu rfl rfl rfl<|Oa (f:=kf2 u.kd) (c1:=[]) (c2:=[]) (by show some (kF u.kd)=_;rw[QKK hk3]) rfl (λ_ _ f h=>QHz f hfc hf1) λ_=>QGa (G':=H) tD<|QAD<|NW 7 wu rfl rfl<|QI (QW rfl Zz)<|NV<|jJ<|QC<|QO<|ZH (ι:=RmI (Vu u) okf) [(0,_),(2,_),(13,_),(14,_)] (λi=>[(15,.int .i64 ((i.k:Nat):Int))]) (λi=>B true) (λi F=>True) (λi=>(Vu u).length-i.k) (⟨0,Nat.zero_le _,λx hx=>by cases hx⟩) wW wT λi=>?_
 have hi:=i.le;refine wA 6 I ?_;refine QL I (λhc2=>?_) λhc2=>?_
 ·have hlt:i.k<(Vu u).length:=wm<|QK8 hc2
  have hkk:=hkN _ (Ql hlt);refine QLj 6 I<|QA (Qo (n:=(gR u).n) (i.k) (λF h9=>(RP (hH _ h9.1).2.2.1 hfc)) I I Zz YC O)<|QA (JG (n:=(gR u).n) (vs:=[Qs ((el (Vu u) (i.k)).k),tx (el (Vu u) (i.k)).r]) ((i.k)*2) (λF h9=>(RP (hH _ h9.1).2.2.1 hfc)) O rfl YC I λj v hv=>Q4 (f:=BV) (l:=(Vu u)) Zw O hv)<|Qe yi λb5=>QS (vs:=[_,_]) I I I YC I .here .h2 wU<|QJi<|QKt<|QA (Eo (c:=#[.slice q2 N c2]) (T':=23) rfl Q5 (λF h9=>(hH _ h9.1).2.1) rfl)<|QA (QH I GB QZ)<|QA (Qf I QZ .here .h1)<|QA (Qo (n:=N) ((el (Vu u) i.k).k.toNat) (λF h9=>(hH _ h9.1).2.2.2) rfl wN Qd QZ O)<|QA (Qg (n:=N) ((el (Vu u) i.k).k.toNat*1) (λF h9=>(hH _ h9.1).2.2.2) O rfl QZ (ZF (f:=Qs) (l:=Cs N us) (by rw[WE];omega))) ?_
  rw[pJ O,show(((el (Vu u) i.k).k.toNat:Nat):Int)=(el (Vu u) i.k).k by omega];refine QLi 3 I ?_;refine Ba (ι:={b:Bool // b=!okf (el (Vu u) i.k)}) [(0,_),(2,_),(13,_),(14,_),(15,_)] (λi4=>[(31,.bool (i4.1))]) (λi4=>(b5,.cells (BV (el (Vu u) i.k)).toArray 61 (0,0))::B (!i4.1)) (λi4 F=>True) wX ?_ ?_
  ·refine C3 5 rfl ?_;simp only[List.take_succ_cons,List.take_zero,List.drop_succ_cons,List.drop_zero];refine wB 3 I ?_;refine Qn (t:=26) rfl (λhb26=>?_) λhb26=>?_
   ·refine QP I I ?_;refine wB 4 I<|jK ?_
    have hpos:0<=BW us (el (Vu u) i.k).k:=QK8 hb26;refine QIT I I ?_;refine QBk (ι:={b:Bool // b=okf (el (Vu u) i.k)}) (bv:=λb=>b.1) (E':=λb=>⟨w0,F0,(b5,.cells (BV (el (Vu u) i.k)).toArray 61 (0,0))::B b.1,λF=>(H F/\True)⟩) I I (λW hW=>?_) λb29=>?_
    ·obtain⟨fn,tmps,assign,body,e1,e2⟩:=hround (b5,.cells (BV (el (Vu u) i.k)).toArray 61 (0,0)) i.k W hlt hpos (hW.Bs λF h=>h.1);exact⟨fn,tmps,assign,body,e1,e2.mono λe w' ⟨h2,h3⟩=>⟨⟨_,rfl⟩,h2,h3.Bs λF h=>⟨h,trivial⟩⟩⟩
    refine yf (λ⟨_,_,h⟩=>h) rfl<|QP I I<|QA (YD I)<|wB 2 I ?_
    exact XG (⟨!b29.1,by rw[b29.2]⟩) (by repeat first | exact trivial | refine⟨rfl,?_⟩) (by dsimp only;rw[Bool.not_not];exact List.Sublist.refl _)
   refine wB 1 I ?_;refine wB 2 I<|jK<|yf (λ⟨_,_,h⟩=>h) rfl<|wB 4 I ?_
   exact XG (⟨false,by rw[hok _ (wm<|QK9 hb26)];rfl⟩) (by repeat first | exact trivial | refine⟨rfl,?_⟩)
  intro i4;refine QL I (λhc2=>?_) λhc2=>?_
  ·refine X6 ?_;exact ZN (⟨false,(i.hit hlt (by have:=i4.2;rw[hc2]at this;simpa using this.symm)).symm⟩) I .nil (rfl) λw hw=>by rw[hc2]at hw;exact hw.imp (.cons _ QJ3) λF h=>h.1.1
  refine QK<|Qa<|QC<|QB<|QA (Qk I I O)<|wB 2 I ?_
  exact Qb (i.next hlt (by have:=i4.2;rw[hc2]at this;simpa using this.symm)) (hμ:=by show(Vu u).length-(i.k+1)<(Vu u).length-i.k;omega) (hb:=(by rw[hc2];exact .cons _ QJ3))
 have hge:(Vu u).length<=i.k:=wm<|QK9 hc2
 refine Y5 ?_
 repeat first|refine XD ?_|refine J0 w8 ?_
 refine XE<|Dv ?_
 exact ZN (⟨true,(i.stop hge).symm⟩) I .nil (rfl) λw hw=>hw.imp QJ3 tD
theorem QCH:∀(us:List Xe) (i:Nat),Ew k us i<((i+us.length:Nat):Int)
 |[],i=>by show(-1:Int)<_;omega
 |x::us,i=>by
  rw[Ew];have ih:=QCH us (i+1);rw[List.length_cons];split
  ·omega
  rw[show i+(us.length+1)=i+1+us.length by omega];exact ih
def QBN(us:List Xe)(k:Int):BW us k<(us.length:Int):=by
 have:=QCH (k:=k) us 0
 rwa [Nat.zero_add]at this
def dnF(us:List Xe)(dl:List Bool)(f:F2):Bool:=decide (BW us f.k<0)||el dl (BW us f.k).toNat
theorem QFX{p:ZL}{b1 b2 b3 N c2 n3 c3:Nat}{q3:Option Addr}{dl:List Bool}(hF:Fits F w)(h1:F b1=some (#[Qs p.sh,.slice p.un.q p.un.n p.un.cap,.slice p.ot.q p.ot.n p.ot.cap],25))(h2:F b2=some (#[.slice q2 N c2],23))(h3:F b3=some (#[.slice q3 n3 c3],212))(hU:UB F u)(hby:Qu F q2 N 1 ((Cs N p.ul).map Qs))(pf:Qu F q3 n3 1 (dl.map Value.bool))
  (hdl:dl.length=n3) (hn3:p.ul.length=n3) (hf1:1<=u.fd.n) (hfn:u.fd.n<=1000000) (hk3:kd3 u.kd) (hkN:∀f∈Vu u,0<=f.k/\f.k<(N:Int)):QY prog 141 [.agg (MJ u).toArray,.pointer (some ⟨b1,0,none⟩),.pointer (some ⟨b2,0,none⟩),.pointer (some ⟨b3,0,none⟩)] w F (.bool ((Vu u).all (dnF p.ul dl))):=by
 have hml:=gQ hU.MQ;have hfc:=hU.yw;refine QQ.zQ (G:=λF=>F b1=some (#[Qs p.sh,.slice p.un.q p.un.n p.un.cap,.slice p.ot.q p.ot.n p.ot.cap],25)/\F b2=some (#[.slice q2 N c2],23)/\F b3=some (#[.slice q3 n3 c3],212)/\UB F u/\Qu F q2 N 1 ((Cs N p.ul).map Qs)/\Qu F q3 n3 1 (dl.map Value.bool)) func141 I w8 rfl rfl hF (λF' hF'=>⟨hF' _ _ h1,hF' _ _ h2,hF' _ _ h3,hU.le hF',hby.le hF',pf.le hF'⟩)<|QKt<|Q8 I (vs:=[_,_,_,_,_]) I λb4=>Qe z_4 λb5=>QLi 4 I<|Jf (b:=b4) .u1<|QB<|QA (Ux (c:=#[Qs p.sh,.slice p.un.q p.un.n p.un.cap,.slice p.ot.q p.ot.n p.ot.cap]) (T':=25) (vs:=[Qs p.sh,.slice p.un.q p.un.n p.un.cap,.slice p.ot.q p.ot.n p.ot.cap]) I Zf (λF h9=>h9.1.1) rfl λj v hv=>by rw[Nat.zero_add];simpa using hv)<|QA (Eo (c:=#[.slice q2 N c2]) (T':=23) rfl Q5 (λF h9=>h9.1.2.1) rfl)<|QA (Z7 tE rfl XJ I)<|QJ I (λ_ _ f k=>QEN (p:=p) (u:=u) (s:=⟨q2,N,c2⟩) f) λc10=>QJi<|QO<|QAC (λG hG=>?_)
 have hfacts:∀F,G F->F c10.1=some ((MJ u).toArray,59)/\F c10.2=some (#[.slice q2 N c2],23)/\UB F u/\Qu F q2 N 1 ((Cs N p.ul).map Qs):=λF h=>by
  obtain⟨⟨⟨h1,h2,h3,hU,hby,pf⟩,hz4⟩,h10⟩:=hG F h;exact⟨h10.1,h10.2,hU,hby⟩
 have hdone:∀F,G F->F b3=some (#[.slice q3 n3 c3],212)/\Qu F q3 n3 1 (dl.map Value.bool):=λF h=>by
  obtain⟨⟨⟨h1,h2,h3,hU,hby,pf⟩,hz4⟩,h10⟩:=hG F h;exact⟨h3,pf⟩
 refine pV (ι:={b:Bool // b=(Vu u).all (dnF p.ul dl)}) (λs=>[(b5,.cells [.bool false].toArray 4 (0,0))]) (λs F=>True) (λs=>if s.1 then none else some .ret) (λs=>True) rfl (enters_of func217 w8 rfl) (λL D r W hrec hst=>?_) ?_ λD s c hs hp=>?_
 ·have hm:=QC6 (w0:=w) (F0:=F) (B:=λb=>(L,.loop (QFW r (if b then none else some .ret)))::(D,.deferred (some []))::[(b5,.cells [.bool false].toArray 4 (0,0))]) (H:=G) (u:=u) (us:=p.ul) (N:=N) (c2:=c2) (b1:=c10.1) (b2:=c10.2) (L:=L) (q2:=q2) (okf:=dnF p.ul dl) hfacts hml hfc hf1 hfn hk3 hkN (λf hf=>by unfold dnF;rw[decide_eq_true hf];rfl) λC j W hj hpos hst=>?_
  ·refine(hm.2 W hst).mono ?_;rintro e w' ⟨c,rfl,h⟩;exact⟨⟨_,rfl⟩,c,trivial,h.Bs λF h=>⟨h,trivial⟩⟩
  letI:Df:=KB;change St ⟨w,F,C::(L,.loop r)::(D,.deferred (some []))::[(b5,.cells [.bool false].toArray 4 (0,0))],G⟩ W at hst;have hlt:=QBN p.ul (el (Vu u) j).k;refine Nj hst .u1 (by rw[hrec.params];rfl) (RO hrec _ wv) ?_;rw[hrec.assign,hrec.body];refine DB (W7 L) (λ⟨_,_,h⟩=>h) rfl<|wB 2 I<|Oe .u1 hrec.state<|FR<|QBl<|DB (W7 L) (λ⟨_,_,h⟩=>h) rfl<|QA (Eo (c:=#[.slice q3 n3 c3]) (T':=212) rfl vK (λF h=>(hdone F h).1) rfl)<|QJj I<|QA (Qo (n:=n3) (BW p.ul (el (Vu u) j).k).toNat (λF h=>(hdone F h).2) rfl wN vW Y9 O)<|QA (Qg (n:=n3) ((BW p.ul (el (Vu u) j).k).toNat*1) (λF h=>(hdone F h).2) O rfl Y9 (ZF (f:=Value.bool) (l:=dl) O))<|QA (YD I)<|QF<|pY ?_
  refine QCX I (λhc=>?_) λhc=>?_
  ·have hno:dnF p.ul dl (el (Vu u) j)=false:=by unfold dnF;rw[decide_eq_false O];simpa using hc
   refine QBl<|DB (W7 L) (λ⟨_,_,h⟩=>h) rfl<|QS (vs:=[_]) I I I Y9 I .u3 .h1 wT<|QF<|pY<|QIU<|MF<|QE9 .u1 λw1 hw1=>?_
   rw[hno];exact⟨rfl,hw1⟩
  have hyes:dnF p.ul dl (el (Vu u) j)=true:=by unfold dnF;rw[decide_eq_false O];simpa using hc
  refine pX<|Qa<|Od .u1 λw1 hw1=>?_
  rw[hyes];refine⟨rfl,?_⟩;rw[N4 hrec]at hw1;exact hw1
 rotate_left
 ·have hs2:s.1=false:=by cases h:s.1 with
   |false=>rfl
   |true=>rw[h]at hp;cases hp
  rw[hs2]at hp;cases hp;letI:Df:=Vz D;refine X6 ?_;refine C8 .here ?_;letI:Df:=KB;exact QM (()) I (.cX rfl Y9 .u1 .h1 .nil) (congrArg Value.bool (s.2 ▸ hs2)) tB
 intro D s hs hp;have hs2:s.1=true:=by cases h:s.1 with
  |true=>rfl
  |false=>rw[h]at hp;cases hp
 letI:Df:=Vz D;refine Qa<|QC<|QKt<|QS (vs:=[_]) I I I Y9 I .u1 .h1 wT<|QJi<|QT<|C8 .here ?_
 letI:Df:=KB;exact QM (()) I (.cX rfl Y9 .u1 .h1 .nil) (congrArg Value.bool (s.2 ▸ hs2)) tB
def dlO(us:List Xe)(out:List Int):List Bool:=(List.range us.length).map λi:Nat=>decide ((i:Int)∈out)
def Dg(us:List Xe)(out:List Int):(dlO us out).length=us.length:=by simp[dlO]
def dx{i:Nat}(h:i<us.length):el (dlO us out) i=decide ((i:Int)∈out):=by
 rw[J8 (by rw[Dg];exact h)];simp[dlO]
theorem QGL{i:Nat}(h:i<us.length):(dlO us out).set i true=dlO us (out++[(i:Int)]):=by
 refine List.ext_getElem (by rw[List.length_set,Dg,Dg]) λk h1 h2=>?_;rw[List.length_set,Dg]at h1;rw[List.getElem_set,<-J8 (by rw[Dg];exact h1),<-J8 (by rw[Dg];exact h1),dx h1,dx h1];by_cases e:i=k
 ·subst e;simp
 rw[if_neg e,Bool.eq_iff_iff,decide_eq_true_eq,decide_eq_true_eq,List.mem_append,List.mem_singleton];constructor
 ·exact .inl
 rintro(h | h)
 ·exact h
 omega
def QGM(us:List Xe):JL [.bool false] us.length=(dlO us []).map Value.bool:=by
 rw[Zl];unfold dlO;rw[List.map_map];refine List.ext_getElem w9 λk h1 h2=>?_;rw[List.getElem_replicate,List.getElem_map];simp
theorem QJS{f:F2}:dnF us (dlO us out) f=okF us out f:=by
 unfold dnF okF;by_cases h:BW us f.k<0
 ·rw[decide_eq_true h];rfl
 have hl:=QBN us f.k;rw[decide_eq_false h,Bool.false_or,Bool.false_or,dx O,show(((BW us f.k).toNat:Nat):Int)=BW us f.k by omega]
structure QKm(us:List Xe) where
 out:List Int
 v:Value
 ob:List (Nat×Obj)
 ok:FP us out
 hr:Qp 3 1 v out.length (out.map Qs) ob
structure NrI(us:List Xe)(out:List Int) where
 j:Nat
 le:j<=us.length
 no:∀i,i<j->O7 us out i=false
theorem NrI.find(s:NrI us out)(h:s.j<us.length)(e:O7 us out s.j=true):nxt us out=some s.j:=by
 unfold nxt;rw[List.find?_range_eq_some];exact⟨e,List.mem_range.2 h,λi hi=>by rw[s.no i hi];rfl⟩
theorem NrI.none(s:NrI us out)(h:us.length<=s.j):nxt us out=Option.none:=by
 unfold nxt;rw[List.find?_range_eq_none];intro i hi;rw[s.no i O];rfl
def FP.full(s:FP us out)(h:us.length<=out.length):X9 us=out:=by
 rw[s.eq,show us.length-out.length=0 by omega];rfl
def L1(us:List Xe):Bool:=decide ((X9 us).length=us.length)
theorem gE{p:ZL}{N c2:Nat}(hF:Fits F w)(hP:KO F p)(hby:Qu F q2 N 1 ((Cs N p.ul).map Qs))(hb:p.un.n<=1000000)(hu:∀u∈p.ul,1<=u.fd.n/\u.fd.n<=1000000)(hkd:∀u∈p.ul,kd3 u.kd)(hkN:∀u∈p.ul,∀f∈Vu u,0<=f.k/\f.k<(N:Int)):
  QQ prog 68 [p.v,.slice q2 N c2] w F (λ(c:Sr)=>.tuple #[c.v,.bool (L1 p.ul)]) (λc F=>L1 p.ul=true->Qu F c.q c.n 1 ((X9 p.ul).map Qs)/\c.n=(X9 p.ul).length/\c.n<=c.cap):=by
 have LU:=hP.MK;refine QQ.go (G:=λF=>KO F p/\Qu F q2 N 1 ((Cs N p.ul).map Qs)) func68 hF ⟨hP,hby⟩ ?_;refine QKt<|Q8 I (vs:=[_,_,_]) I λb2=>Q8 I (vs:=[_]) I λb3=>QLi 4 I<|QCS<|QG<|Jf (b:=b2) .u1<|Jf (b:=b3) .here<|QLj 6 I<|QA (QH I XS Jj)<|QA (Qy 1 (λF h9=>h9.1.2) rfl Jj I)<|QA (QW I Xr)<|Y8 (n:=p.un.n) (bytes:=1) rfl rfl vW Y9 z_4 I QJa O O λb14=>?_
 rw[<-LU,QGM,LU];refine Qe QIm (λb7=>QS (vs:=[_]) I I I vK I .here .h1 wT<|QJi<|QG<|Jf (b:=b7) .here<|QB<|QA (EF I)<|wR I<|QG<|QCT<|QLk 3 I<|ZH (ι:=QKm p.ul) [(2,_),(7,_),(8,_)] (λi=>[(6,i.v)]) (λi=>(b14,.cells ((dlO p.ul i.out).map Value.bool).toArray 4 (0,0))::i.ob) (λi F=>True) (λi=>p.ul.length-i.out.length) (⟨[],_,[],FP.start _,.nil⟩) wV wT λi=>?_);have hole:=i.ok.le;refine wA 4 I<|QA (PB I i.hr Qd)<|QA (QH I XS Jj)<|QA (Qy 1 (λF h9=>h9.1.1.1.2) rfl Jj I)<|QA (QW I Xr)<|QLi 3 I ?_
 refine QL I (λhc2=>?_) λhc2=>?_
 ·have hole2:i.out.length<p.ul.length:=wm<|QK8 hc2
  refine QLj 6 I<|QA (QH I XS Jj)<|QA (Qy 1 (λF h9=>h9.1.1.1.2) rfl Jj I)<|QA (QW I Xr)<|QLi 4 I<|Jo (ι:=NrI p.ul i.out) [(2,_),(7,_),(8,_),(23,_),(24,_)] (λi2=>[(6,i.v),(25,.int .i64 ((i2.j:Nat):Int))]) (λi2=>p.ul.length-i2.j) (⟨0,Nat.zero_le _,λi hi=>O⟩) wX wU λi2=>?_
  have hi2:=i2.le;refine wA 6 I ?_;refine QL I (λhc2=>?_) λhc2=>?_
  ·have hlt2:i2.j<p.ul.length:=wm<|QK8 hc2
   have hum:=Ql hlt2;have hu1:=hu _ hum;refine QLj 7 I<|QA (Qo (n:=p.un.n) (i2.j) (λF h9=>h9.1.1.1.1.1.un) rfl rfl Xr XJ O)<|QA (JG (n:=p.un.n) (vs:=[tx (el p.ul (i2.j)).kd,.slice (el p.ul (i2.j)).fd.q (el p.ul (i2.j)).fd.n (el p.ul (i2.j)).fd.cap,Qs ((el p.ul (i2.j)).ou),tx (el p.ul (i2.j)).st,.slice (el p.ul (i2.j)).cv.q (el p.ul (i2.j)).cv.n (el p.ul (i2.j)).cv.cap]) ((i2.j)*5) (λF h9=>h9.1.1.1.1.1.un) O rfl XJ I λj v hv=>Q4 (f:=MJ) (l:=p.ul) ZO O hv)<|Qe Ni λb10=>QJk I<|QS (vs:=[_,_,_,_,_]) I I I XJ I .here .h5 wX<|QJi<|QKt<|QA (Qg (n:=1) ((0)*1) (λF h9=>(Qu.of (n:=1) (sz:=1) h9.1.2 I)) O rfl vK I)<|QJj I<|QA (Qj (i:=i2.j) rfl rfl vW Y9 O)<|QA (Xm (c:=(dlO p.ul i.out).map Value.bool) (T':=4) rfl Y9 .u1 (by rw[Nat.zero_add];exact ZF (f:=Value.bool) (l:=dlO p.ul i.out) (by rw[Dg];omega))) ?_
   rw[dx O];refine QA (YD I)<|QJj I ?_
   refine Qn (t:=35) rfl (λhb35=>?_) λhb35=>?_
   ·have hnd:decide (((i2.j:Nat):Int)∈i.out)=false:=by simpa using hb35
    refine wB 3 I<|QA (QX (vs:=[_,_,_,_,_]) I XJ .here .h5 rfl)<|QP I I ?_
    refine QAE (T:=4) (sz:=1) (n:=p.un.n) (v:=.slice (some ⟨b14,0,none⟩) p.un.n p.un.n) (cs:=(dlO p.ul i.out).map Value.bool) (c1:=[]) (c2:=[.pointer (some ⟨b2,0,none⟩),.pointer (some ⟨b3,0,none⟩),.pointer (some ⟨b7,0,none⟩)]) (Qp.some (rest:=[]) (by rw[List.length_map,Dg];omega) (by rw[List.length_map,Dg];show _+0=_;omega) (Nat.le_refl _) (by unfold maxLen;omega)) (λk hk=>by rw[List.append_nil]at hk;rw[List.mem_singleton.1 hk];exact .tail _ (.head _)) I I (λw F q c e hcap hR hF ⟨⟨⟨⟨⟨hP,hby⟩,hz2⟩,hz3⟩,hz7⟩,_⟩=>by
     cases e;exact QFX hF hz2 hz3 hz7 (hP.us _ hum) hby hR (by rw[Dg];omega) LU hu1.1 hu1.2 (hkd _ hum) (hkN _ hum)) λ_ _=>?_
    rw[show((Vu (el p.ul i2.j)).all (dnF p.ul (dlO p.ul i.out)))=((Vu (el p.ul i2.j)).all (okF p.ul i.out))from by congr 1;funext f;exact QJS];refine QLi 3 I ?_;refine QL I (λhc2=>?_) λhc2=>?_
    ·have hrd:O7 p.ul i.out i2.j=true:=by unfold O7;rw[hnd];exact hc2
     have hnx:=i2.find hlt2 hrd;have hnext:=i.ok.next hlt2 hnx;refine QKt<|QA (Qg (n:=1) ((0)*1) (λF h9=>(Qu.of (n:=1) (sz:=1) h9.1.2 I)) O rfl vK I)<|QJj I<|QA (Qj (i:=i2.j) rfl rfl vW Y9 O)<|QS (vs:=[_]) I I I Y9 I .u1 (by have:=BI (f:=Value.bool) (l:=dlO p.ul i.out) (rest:=[]) (i:=i2.j) (by rw[Dg];omega) true;rw[List.append_nil,List.append_nil]at this;exact this) wT ?_
     rw[QGL O];refine QLi 6 I<|Qw I (JR Qd) QZ Hj I I λb45=>?_
     refine Zj (bs1:=[_,_]) (ob:=i.ob) (n:=i.out.length) (k:=1) (sz:=1) (news:=[Qs (i2.j:Nat)]) I I Qd QZ Hj I Ws i.hr (Src.row (off:=0) tE (λj q hq=>by rw[Nat.zero_add];rw[List.getElem?_toArray];exact hq) rfl) O O (by intro v hv;rw[List.mem_singleton.1 hv];rfl) (λv46 ob46 hr46=>?_);refine wR I<|Y5 ?_
     repeat first|refine XD ?_|refine J0 w8 ?_
     refine XE ?_;exact Qb (⟨i.out++[((i2.j:Nat):Int)],v46,ob46,hnext.1,by rw[List.map_append,List.length_append];exact hr46⟩) (by show p.ul.length-(i.out++[((i2.j:Nat):Int)]).length<p.ul.length-i.out.length;rw[List.length_append];have h1:[((i2.j:Nat):Int)].length=1:=rfl;have:=hnext.2;omega)
    have hnr:O7 p.ul i.out i2.j=false:=by unfold O7;rw[hnd];exact hc2
    refine QK<|Qa<|QC<|QB<|QA (Qk I I O)<|wB 2 I ?_
    exact Qb (⟨i2.j+1,hlt2,λk hk=>by rcases Nat.lt_succ_iff_lt_or_eq.1 hk with h | h;exact i2.no k h;subst h;exact hnr⟩)
   have hnr:O7 p.ul i.out i2.j=false:=by unfold O7;rw[show decide (((i2.j:Nat):Int)∈i.out)=true by simpa using hb35];rfl
   refine QLi 6 I<|ZP I<|QK<|Qa<|QC<|QB<|QA (Qk I I O)<|wB 2 I ?_
   exact Qb (⟨i2.j+1,hlt2,λk hk=>by rcases Nat.lt_succ_iff_lt_or_eq.1 hk with h | h;exact i2.no k h;subst h;exact hnr⟩)
  have hge2:p.ul.length<=i2.j:=wm<|QK9 hc2
  have hstop:=i.ok.stop (i2.none hge2);have hob:L1 p.ul=false:=by unfold L1;rw[hstop];exact decide_eq_false O
  refine Q7 ?_;refine wA 6 I<|X6 ?_
  refine QIX ?_;exact J7 (⟨none,0,0⟩) I (wP I I) (by rw[hob]) λF _ h=>by rw[hob]at h;cases h
 have hole2:p.ul.length<=i.out.length:=wm<|QK9 hc2
 have hfull:=i.ok.full hole2;have hob:L1 p.ul=true:=by unfold L1;rw[hfull];exact decide_eq_true O
 refine Q7 ?_;refine QG<|QB ?_
 obtain⟨rr,hv,hrn,hrc,hfix⟩:=Qp.fix (w0:=w) (F0:=F) (bs1:=[_]) (G:=_) i.hr;refine Vp hfix ?_;rw[hv];refine QLi 6 I<|QIX ?_
 exact J7 (rr) rfl (wP I I) (by rw[hob]) λF ⟨⟨⟨⟨⟨⟨hP,hby⟩,hz2⟩,hz3⟩,hz7⟩,_⟩,hrow⟩ _=>by rw[hfull];exact⟨by rw[hrn];exact hrow,hrn,by rw[hrn];exact hrc⟩
def cO(x:Fr):∀v∈S2 x,v.oneCell'=true:=by
 intro v hv;simp only[S2,List.mem_cons,List.not_mem_nil,or_false]at hv;rcases hv with rfl | rfl | rfl | rfl<;>rfl
def Oj(x:Fr)(r:Rat):∀n,JL (S2 x) n=H7 (List.replicate n (x,r))
 |0=>rfl
 |n+1=>by rw[JL,Oj x r n,List.replicate_succ];rfl
def QCw{rest:List Value}(hi:i<xs.length)(x:Fr)(r:Rat):KC (H7 xs++rest) (0+i*4) (S2 x) (H7 (xs.set i (x,r))++rest):=qi (xM hi x r)
structure BgI(sh:Int)(us:List Xe) where
 i:Nat
 xs:List (Fr×Rat)
 le:i<=us.length
 hx:xs.map (·.2)=(UE sh (us.take i)).map Jc
def BgI.len(s:BgI sh us):s.xs.length=sh.toNat:=by
 have:=congrArg List.length s.hx;simpa[TA]using this
structure BkS{ι:Type}(pos:ι->Nat)(n:Nat) where
 s:ι
 le:pos s<=n
theorem QGU{B:ι->List (Nat×Obj)}{H:ι->Gs->Prop}{pos:ι->Nat}{n b1 L:Nat}{l:List (List UInt8)} 
  (hH:∀s F,H s F->F b1=some (#[.slice q n c],29)/\Qu F q n 1 (l.map tx)) (hn:l.length=n) (hb:n<=1000000)
  (hround:∀(G:Gs->Prop) (s:ι) (j:Nat) (W:World),j<n->pos s=j+1->St ⟨w0,F0,B s,λF=>G F/\H s F⟩ W->YieldAt Fence.wide 0 prog L #[.int .i64 (j:Nat),tx (el l j)] W λe W'=>e = .returned (.bool true)/\∃s',pos s'=j/\St ⟨w0,F0,B s',λF=>G F/\H s' F⟩ W')
  (s0:ι) (h0:pos s0=n) :
  Jn prog 143 [.func (.yield L) #[] #[],.pointer (some ⟨b1,0,none⟩)] ⟨w0,F0,B s0,H s0⟩ (λ(_:{ s:ι // pos s=0 })=>.tuple #[]) (λs=>⟨w0,F0,B s.1,H s.1⟩):=by
 refine Jn.intro func143 rfl w8 rfl rfl<|QKt<|QA (Eo (c:=#[.slice q n c]) (T':=29) rfl KR (λF hs0=>(hH _ _ hs0).1) rfl)<|QA (QW rfl YI)<|QA (Jk rfl rfl O)<|wR rfl<|QO<|ZH (ι:=BkS pos n) [(0,_),(1,_)] (λi=>[(3,.int .i64 (((pos i.s:Nat):Int)-1))]) (λi=>B i.s) (λi F=>H i.s F) (λi=>pos i.s) (⟨s0,Nat.le_of_eq h0⟩) wU ⟨(congrArg (λz:Int=>some (Value.int .i64 z)) (by dsimp only;rw[h0])),trivial⟩ λi=>?_
 have hi:=i.le;refine wA 7 I ?_;refine QL I (λhc2=>?_) λhc2=>?_
 ·have hpos:1<=pos i.s:=wm<|QK8 hc2
  refine QLj 5 I<|C3 6 rfl ?_
  simp only[List.take_succ_cons,List.take_zero,List.drop_succ_cons,List.drop_zero];refine wB 2 I<|QA (Eo (c:=#[.slice q n c]) (T':=29) rfl KR (λF h9=>(hH _ _ h9.1).1) rfl)<|QJj I<|QA (Qo (n:=n) (pos i.s-1) (λF h9=>(hH _ _ h9.1).2) rfl wN YI JP O)<|QA (Qg (n:=n) ((pos i.s-1)*1) (λF h9=>(hH _ _ h9.1).2) O rfl JP (ZF (f:=tx) (l:=l) O))<|QF<|jK ?_
  rw[show(((pos i.s:Nat):Int)-1)=((pos i.s-1:Nat):Int) by omega];refine C7 (E':=λs':{ s:ι // pos s=pos i.s-1 }=>⟨w0,F0,B s'.1,λF=>H s0 F/\H s'.1 F⟩) I I (λW hW=>?_) λs17=>?_
  ·obtain⟨fn,tmps,assign,body,e1,e2⟩:=hround (λF=>H s0 F) i.s (pos i.s-1) W O O hW;exact⟨fn,tmps,assign,body,e1,e2.mono λe w' ⟨h2,s',h3,h4⟩=>⟨h2,⟨s',h3⟩,h4⟩⟩
  refine yf (λ⟨_,_,h⟩=>by obtain⟨_,h,_⟩:=h;cases h) rfl<|QA (YD rfl)<|QF<|QC ?_
  refine QL I (λhc2=>?_) λhc2=>?_
  ·exact absurd hc2 wv
  refine QK<|Qa<|QLk 3 I<|QA (Jk I I O)<|wB 2 I ?_
  exact Qb (⟨s17.1,by rw[s17.2];omega⟩) (hm:=⟨rfl,rfl,(congrArg (λz:Int=>some (Value.int .i64 z)) (by dsimp only;rw[s17.2])),trivial⟩)
 have hz:pos i.s=0:=wm<|QK9 hc2
 refine Y5 ?_
 repeat first|refine XD ?_|refine J0 w8 ?_
 refine XE<|Dv ?_
 exact ZN (⟨i.s,hz⟩) I .nil (rfl) λw h=>h.imp QJ3 tE
theorem QBU(hF:Fits F w):QQ prog 69 [s.v] w F (λ(c:Nat)=>.func (.func 143) #[] #[.pointer (some ⟨c,0,none⟩)]) (λc F=>F c=some (#[s.v],29)):=by
 refine QQ.go (G:=λF=>True) func69 hF trivial ?_;refine QKt<|Q8 I (vs:=[_]) I λb1=>QLi 5 I<|B8 (b:=b1) .here<|QA (EF I)<|wR I<|QT ?_
 exact QM (b1) rfl (wO I) (rfl) tE
structure VlS(n:Nat) where
 j:Nat
 x:Fr
 le:j<=n
theorem CD{n:Nat}{l:List (List UInt8)}{x0:Fr}{r:Rat}(hF:Fits F w)(hGl:JZ F)(hR:Qu F q n 1 (l.map tx))(hX:Jl F x0 r)(hn:l.length=n)(hl:n<=13)(hr:XH r<=4801)(hc:∀a∈l,Q9 a=0)(hla:∀a∈l,a.length<=1000000):ZQ prog 83 [.slice q n c,x0.v] w F (Ot l r):=by
 refine QQ.zQ (G:=λF=>JZ F/\Qu F q n 1 (l.map tx)/\Jl F x0 r) func83 I w8 rfl rfl hF (λF' hF'=>⟨hGl.le hF',hR.le hF',hX.le hF'⟩)<|QKt<|Q8 I (vs:=[_,_,_,_]) I λb3=>Qe VU λb4=>QJi<|QKt<|QJ I (λ_ _ f k=>f_g (n:=0) f O O) λc8=>Qe VU λb5=>QS (vs:=[_,_,_,_]) I I I JA I .here .h4 wW<|QLi 4 I<|Jf (b:=b3) .u2<|wA 2 I<|QJ I (λ_ _ f k=>QBU (s:=⟨q,n,c⟩) f) λc10=>QJi<|QO<|QAC (λG hG=>?_)
 have hfacts:∀F,G F->F c10=some (#[.slice q n c],29)/\Qu F q n 1 (l.map tx):=λF h=>by
  obtain⟨⟨⟨⟨hGl,hR,hX⟩,h8⟩,hz3⟩,h10⟩:=hG F h;exact⟨h10,hR⟩
 have hfx:∀F,G F->F b3=some ((S2 x0).toArray,77)/\Jl F x0 r/\JZ F:=λF h=>by
  obtain⟨⟨⟨⟨hGl,hR,hX⟩,h8⟩,hz3⟩,h10⟩:=hG F h;exact⟨hz3,hX,hGl⟩
 have hf8:∀F,G F->Jl F c8 ((0:Int):Rat):=λF h=>by
  obtain⟨⟨⟨⟨hGl,hR,hX⟩,h8⟩,hz3⟩,h10⟩:=hG F h;exact h8
 refine RV (ι:=VlS n) (λs=>[(b5,.cells (S2 s.x).toArray 77 (0,0)),(b4,.cells [.int .i64 0,.slice none 0 0,.int .i64 0,.slice none 0 0].toArray 77 (0,0))]) (λs F=>Jl F s.x (Ot (l.drop s.j) r)) (λs=>s.j=0) rfl (enters_of func143 w8 rfl) (λL D rr W hrec hst=>?_) λD s hs=>?_
 ·have hm:=QGU (ι:=VlS n) (w0:=w) (F0:=F) (B:=λs=>(L,.loop rr)::(D,.deferred (some []))::[(b5,.cells (S2 s.x).toArray 77 (0,0)),(b4,.cells [.int .i64 0,.slice none 0 0,.int .i64 0,.slice none 0 0].toArray 77 (0,0))]) (H:=λs F=>G F/\Jl F s.x (Ot (l.drop s.j) r)) (pos:=λs=>s.j) (q:=q) (n:=n) (c:=c) (b1:=c10) (L:=L) (l:=l) (λs F h=>hfacts F h.1) hn O (λG' s j W hj hp hst=>?_) ⟨n,c8,Nat.le_refl _⟩ rfl
  ·refine(hm.2 W (hst.Bs λF h=>⟨h,by show Jl F c8 (Ot (l.drop n) r);rw[<-hn,List.drop_length];have:=hf8 F h;simpa[Ot]using this⟩)).mono ?_;rintro e w' ⟨c,rfl,h⟩;exact⟨⟨_,rfl⟩,c.1,c.2,h⟩
  letI:Df:=KB;have hca:=hc _ (Ql (show j<l.length by omega));have hla:=hla _ (Ql (show j<l.length by omega));have hsz:=FV (l:=l.drop (j+1)) hr (λa ha=>hc a (List.mem_of_mem_drop ha));rw[List.length_drop]at hsz;have hza:=Xt hca;change s.j=j+1 at hp;refine Nj hst .here (by rw[hrec.params];rfl) (qH hrec _ _ wv wv) ?_;rw[hrec.assign,hrec.body,hp];refine DB (W7 L) (λ⟨_,_,h⟩=>h) rfl<|wB 2 I<|Oe .here hrec.state<|FR<|DB (W7 L) (λ⟨_,_,h⟩=>h) rfl<|QA (QX (vs:=S2 s.x) rfl JA .u2 (MG.all _) rfl)<|QA (Ux (c:=(S2 x0).toArray) (T':=77) (vs:=S2 x0) rfl JA (λF h=>(hfx F h.2.1).1) rfl λj v hv=>by rw[Nat.zero_add];simpa using hv)<|QJ I (λ_ F f h=>HH f h.2.2 (hfx F h.2.1).2.1 O O) λc15=>QJj I<|QJ I (λ_ F f h=>WS (r:=Jc (el l j)) f (hfx F h.1.2.1).2.2 (Xa hca).1 O) λc17=>QJ I (λ_ _ f h=>de f h.1.2 h.2 (wm<|Zg (Ot (l.drop (j+1)) r) r) O) λc18=>QS (vs:=S2 c18) rfl rfl rfl JA I .u2 (qj I) wW<|QF<|Qa ?_
  refine Od .here (λw1 hw1=>⟨rfl,⟨j,c18,O⟩,rfl,?_⟩);rw[N4 hrec]at hw1;refine St.imp hw1 QJ3 (λF h=>⟨h.1.1.1.1,h.1.1.1.2.1,?_⟩);show Jl F c18 (Ot (l.drop j) r);rw[BX (show j<l.length by omega)];exact h.2
 letI:Df:=Vz D;refine Qa<|QC<|QKt<|QA (wJ I JA .u1)<|QS (vs:=[_,_,_,_]) I I I JA I .u2 .h4 wW<|QJi<|QT<|C8 .here ?_
 letI:Df:=KB;exact QM (s.x) rfl (.J4 (c:=[_,_,_,_]) I JA .u2 .nil) (rfl) λF h=>by have h2:=h.2;rw[hs]at h2;exact h2
theorem BZ{p:ZL}(hF:Fits F w)(hGl:JZ F)(hP:KO F p)(hb:p.un.n<=1000000)(hs:1<=p.sh/\p.sh<=1000000)(hou:∀u∈p.ul,0<=u.ou/\u.ou<p.sh)(hst:∀u∈p.ul,Q9 u.st=0/\u.st.length<=1000000):QQ prog 82 [p.v] w F (λ(c:Sr×List (Fr×Rat))=>c.1.v) (λc F=>Qu F c.1.q c.1.n 4 (H7 c.2)/\BA F c.2/\c.2.map (·.2)=(UE p.sh p.ul).map Jc/\c.1.n=p.sh.toNat/\c.1.n<=c.1.cap):=by
 have LU:=hP.MK;refine QQ.go (G:=λF=>JZ F/\KO F p) func82 hF ⟨hGl,hP⟩ ?_;refine QKt<|Q8 I (vs:=[_,_,_]) I λb1=>wR I<|QG<|Jf (b:=b1) .here<|JC QJ3 mixed wu<|QV I (λ_ _ f k=>f_g (n:=0) f O O) λc6=>?_
 refine Jp I (JR We) JA VU I I (λb7=>?_) (λw h=>h.imp .slnil tD);refine QI (QH I WT QZ)<|QI (Qy 0 tE rfl QZ I)<|Wt (bs1:=[]) (congrArg (λz:Int=>some [Value.slice (some ⟨b7,0,none⟩) 1 1,Value.int .i64 z]) (show p.sh=((p.sh.toNat:Nat):Int) by omega)) (List.Perm.refl _) (QHU (x:=S2 c6) (N:=p.sh.toNat) O (λF h9=>Qu.of h9.2 I) rfl (cO c6)) (λc w h=>h.imp tG λF h=>h.1.1) λc10=>?_
 obtain⟨v10,ob10,hr10⟩:=c10;obtain⟨b10,cap10,rest10,e1,e2,e3,e4,e5,e6⟩:=hr10.pos O;dsimp only;rw[e1,e2,Oj c6 0];rw[e3]at e4;refine QI (QE I)<|Qv<|QLk 4 I<|QA (QH I XS Jj)<|QA (Qy 1 (λF h9=>h9.1.1.2) rfl Jj I)<|QA (QW I Xr)<|QLi 4 I<|ZH (ι:=BgI p.sh p.ul) [(3,_),(12,_),(13,_)] (λi=>[(14,.int .i64 ((i.i:Nat):Int))]) (λi=>[(b10,.cells (H7 i.xs++rest10).toArray 77 (0,0))]) (λi F=>BA F i.xs) (λi=>p.ul.length-i.i) (⟨0,List.replicate p.sh.toNat (c6,0),Nat.zero_le _,by simp only[List.map_replicate,UE,List.take_zero,List.foldl_nil];rw[show Jc [48]=0 from by decide +kernel]⟩) wV wT (hg:=λF h=>λx hx=>by rw[(List.mem_replicate.1 hx).2];have:=h.1.2;simpa using this) λi=>?_
 have hi:=i.le;have hxl:=i.len;refine wA 6 I ?_;refine QL I (λhc2=>?_) λhc2=>?_
 ·have hlt:i.i<p.ul.length:=wm<|QK8 hc2
  have ho:=hou _ (Ql hlt);have ho2:=hst _ (Ql hlt);refine QLj 6 I<|QA (Qo (n:=p.un.n) i.i (λF h9=>h9.1.1.1.1.2.un) rfl rfl Xr XJ O)<|QA (JG (n:=p.un.n) (vs:=[tx (el p.ul i.i).kd,.slice (el p.ul i.i).fd.q (el p.ul i.i).fd.n (el p.ul i.i).fd.cap,Qs ((el p.ul i.i).ou),tx (el p.ul i.i).st,.slice (el p.ul i.i).cv.q (el p.ul i.i).cv.n (el p.ul i.i).cv.cap]) ((i.i)*5) (λF h9=>h9.1.1.1.1.2.un) O rfl XJ I λj v hv=>Q4 (f:=MJ) (l:=p.ul) ZO O hv)<|Qe Ni λb5=>QS (vs:=[_,_,_,_,_]) I I I XJ I .here .h5 wX<|QJi<|JC (.cons_cons _ (.cons _ .slnil)) mixed wu<|QI (QD I)<|QI (QH I KI QZ)<|QI (Qf I QZ .here (.skip (.skip .h1)))<|QI (QH I Bv JP)<|QI (Qf I JP .here (.skip (.skip (.skip .h1))))<|QV I (λ_ _ f k=>WS (r:=Jc (el p.ul i.i).st) f k.1.1.1.1.1 (Xa ho2.1).1 O) λc23=>QI (Qj (i:=(el p.ul i.i).ou.toNat) rfl wN We JA O)<|Ju (vs:=S2 c23) rfl rfl rfl JA I .u1 QJ3 tD (QCw (xs:=i.xs) (i:=(el p.ul i.i).ou.toNat) (by rw[i.len];omega) c23 (Jc (el p.ul i.i).st)) wW<|Qv<|Qa<|QC<|QB<|QA (Qk I I O)<|wB 2 I ?_
  exact Qb (⟨i.i+1,i.xs.set (el p.ul i.i).ou.toNat (c23,Jc (el p.ul i.i).st),hlt,by rw[uI hlt,List.map_set,List.map_set,i.hx]⟩) (hg:=λF ⟨⟨⟨⟨⟨⟨hGl,hP⟩,hz1⟩,h6⟩,hs7⟩,hS⟩,h23⟩=>⟨⟨⟨⟨⟨hGl,hP⟩,hz1⟩,h6⟩,hs7⟩,hS.set h23 _⟩)
 have hge:p.ul.length<=i.i:=wm<|QK9 hc2
 refine Q7 ?_;refine QG ?_;obtain⟨⟨rq,rn,rc⟩,hv9,hrn,hrc,hfix9⟩:=Qp.fix (w0:=w) (F0:=F) (bs1:=[]) (G:=_) (Qp.some (T:=77) (sz:=4) (b:=b10) (n:=p.sh.toNat) (cap:=cap10) (l:=H7 i.xs) (rest:=rest10) (by rw[OM,hxl]) (by rw[OM,hxl];omega) e5 e6);dsimp only at hrn hrc hfix9;subst hrn;refine Hh hfix9 ?_;rw[hv9];dsimp only[Sr.v];refine QLj 6 I ?_;exact QM ((⟨rq,p.sh.toNat,rc⟩,i.xs)) I (wO I) (rfl) λF h9=>⟨h9.2,h9.1.2,by rw[i.hx,List.take_of_length_le hge],rfl,hrc⟩
def QJL{kd:List UInt8}:kB kd=true↔kd3 kd:=by unfold kB kd3;simp[or_assoc]
def QDH(u:Xe):Bool:=if u.kd=WR then decide (1<=(u.cl.length:Int))&&decide ((u.cl.length:Int)<=13)else decide ((u.cl.length:Int)=0)
def Mg(h:kd3 u.kd):Vb u=(decide ((u.fl.length:Int)<kL u.kd)||decide ((u.fl.length:Int)>kX u.kd)||!QDH u):=by
 obtain⟨e1,e2,e3⟩:=PR;unfold Vb Iy xw kL kX QDH;rw[Bool.eq_iff_iff];generalize u.cl.length=n;generalize u.fl.length=m;rcases h with h | h | h<;>simp[h,e1,e2,e3,e1.symm,e2.symm,e3.symm]<;>omega
def qO(sh:Int)(u:Xe):Int:=if u.ou<1\/u.ou>=sh then 10 else Q9 u.st
def vI:P9 sh k=true↔k<0\/k>=sh:=by unfold P9;simp
theorem QGB(sh:Int)(f:F2):Qz [if(!(!P9 sh f.k))=true then 10 else 0,Q9 f.r,if(f.r==[48])=true then 6 else 0]=WB sh f:=by
 unfold WB;rw[Bool.not_not];by_cases h:f.k<0\/f.k>=sh
 ·rw[if_pos h,if_pos (vI.2 h)];rfl
 rw[if_neg h,if_neg (λg=>h (vI.1 g))];show Qz [0,Q9 f.r,_]=_;rw[Qz,if_pos rfl,Qz];by_cases h2:Q9 f.r=0
 ·rw[if_pos h2,if_neg (Classical.not_not.2 h2)];by_cases h3:f.r=[48]
  ·rw[if_pos h3,if_pos (by rw[h3];rfl)];rfl
  rw[if_neg h3,if_neg (by simpa using h3)];rfl
 rw[if_neg h2,if_pos h2]
def QJB(hb:bb=true)(h:u.ou<1):Qz [if bb=true then 10 else 0,Q9 u.st]=qO sh u:=by
 unfold qO;rw[if_pos hb,if_pos (Or.inl h)];rfl
theorem QJA(hb:bb=(!(!P9 sh u.ou)))(h:u.ou≠0):Qz [if bb=true then 10 else 0,Q9 u.st]=qO sh u:=by
 rw[Bool.not_not]at hb;unfold qO;by_cases g:u.ou<1\/u.ou>=sh
 ·rw[if_pos g,if_pos (by rw[hb];exact vI.2 O)];rfl
 rw[if_neg g,if_neg (by rw[hb];exact λe=>g (wm<|vI.1 e))];show Qz [0,Q9 u.st]=_;rw[Qz,if_pos rfl,Qz];split
 ·rename_i h;rw[h];rfl
 rfl
section
variable{sh:Int}{u:Xe}(h:kd3 u.kd)(hs:Vb u=false)(hfe:Qz (u.fl.map (WB sh))=0)
include h hs hfe
theorem Eh(ho:qO sh u≠0):VM sh u=qO sh u:=by
 unfold qO at ho ⊢;by_cases g:u.ou<1\/u.ou>=sh
 ·rw[if_pos g];exact Hl h hs hfe g
 rw[if_neg g]at ho ⊢;rw[Gg h hs hfe g,if_pos ho]
theorem WW(ho:qO sh u=0):VM sh u=Qz (u.cl.map Q9):=by
 unfold qO at ho;by_cases g:u.ou<1\/u.ou>=sh
 ·rw[if_pos g]at ho;cases ho
 rw[if_neg g]at ho;rw[Gg h hs hfe g,if_neg (Classical.not_not.2 ho)]
end
theorem Fe{b b':Bool}{e:Int}(hF:Fits F w)(hb:b=b'):QY prog 76 [.bool b,.int .i64 e] w F (.int .i64 (if b'=true then e else 0)):=by
 subst hb;exact G4 hF
def QEV(kd:List UInt8):(kF kd).oneCell'=true:=by unfold kF;split<;>(try split)<;>(try split)<;>rfl
def QEU(kd:List UInt8):(kH kd).oneCell'=true:=by unfold kH;split<;>(try split)<;>(try split)<;>rfl
theorem yt{p:ZL}(hF:Fits F w)(hGl:JZ F)(hU:UB F u)(hL:UnL u):QY prog 77 [p.v,.agg (MJ u).toArray] w F (.int .i64 (VM p.sh u)):=by
 have hfl:=hU.MQ;have hcl:=hU.RA;have hfn:=hL.fn;have hcn:=hL.cn;refine QQ.go (G:=λF=>JZ F/\UB F u) func77 hF ⟨hGl,hU⟩ ?_;refine QKt<|Q8 I (vs:=[_,_,_]) I λb2=>Q8 I (vs:=[_,_,_,_,_]) I λb3=>wR I<|Jf (b:=b2) .u1<|Jf (b:=b3) .here ?_
 refine Ba (ι:=Nat) [(2,_),(3,_)] (λb5=>[(5,.pointer (some ⟨b5,0,none⟩)),(6,.bool (kB u.kd))]) (λb5=>[(b5,.cells [.int .i64 (kL u.kd),.int .i64 (kX u.kd),kF u.kd,kH u.kd].toArray 152 (0,0))]) (λb5 F=>True) wU ?_ ?_
 ·refine pU (r:=[0,1,2,3,4,5,6,7,8,9]) QJ3 mixed wu rfl<|NW 1 wu rfl rfl<|QI (QH I Ks YZ)<|NV<|NW 2 wu rfl rfl<|QI (Qy 0 tE rfl YZ I)<|NV ?_
  refine QJh 0 7 wu wu rfl rfl rfl rfl rfl rfl ?_ ?_
  ·refine Wt I (List.Perm.refl _) qm (λc w h=>h.imp (.cons _ QJ3) λ_ h=>h) (λc16=>?_);refine QCU (E1:=⟨w,F,[(c16,ZA tx kdM)],_⟩) (λw h=>h.imp (.cons _ QJ3) λ_ h=>h) tC<|NW 3 wu rfl rfl<|QI (xH H6 I I PI qW .here (dG u.kd))<|NV<|NW 4 wu rfl rfl<|QI (QD I)<|NV<|NW 5 wu rfl rfl<|QI (QU I I)<|NV<|NW 6 wu rfl rfl<|QI (QU I I)<|NV<|ya 7 wu wu rfl rfl rfl<|BU p4 λb5=>QAD<|ya 8 wu wu rfl rfl rfl<|Ju (vs:=[.int .i64 (kL u.kd),.int .i64 (kX u.kd),kF u.kd,kH u.kd]) I I I QDf I .here QJ3 tC (qj I) ⟨rfl,rfl,QEV _,QEU _,trivial⟩<|QAD<|NW 9 wu rfl rfl<|QI (QE I)<|NV<|jJ ?_
   exact XG b5
  refine BU p4 (λb5=>?_);refine QAD<|ya 0 wu wu rfl rfl rfl<|Wt I (List.Perm.refl _) qm (λc w h=>h.imp (.cons _ (.cons _ .slnil)) λ_ h=>h) λc16=>QCU (E1:=⟨w,F,[(c16,ZA tx kdM)],_⟩) (λw h=>h.imp (.cons _ .slnil) λ_ h=>h) (λw h=>h.imp (.cons_cons _ (.cons _ .slnil)) λ_ h=>h)<|NW 3 wu rfl rfl<|QI (xH H6 I I PI qW .here (dG u.kd))<|NV<|NW 4 wu rfl rfl<|QI (QD I)<|NV<|NW 5 wu rfl rfl<|QI (QU I I)<|NV<|NW 6 wu rfl rfl<|QI (QU I I)<|NV<|ya 8 wu wu rfl rfl rfl<|Ju (vs:=[.int .i64 (kL u.kd),.int .i64 (kX u.kd),kF u.kd,kH u.kd]) I I I QDf I .u1 QJ3 tC (qj I) ⟨rfl,rfl,QEV _,QEU _,trivial⟩<|QAD<|NW 9 wu rfl rfl<|QI (QE I)<|NV<|jJ ?_
  exact XG b5
 intro b5;refine wA 4 I<|QA (YD I)<|QF<|QC ?_
 refine QL I (λhc2=>?_) λhc2=>?_
 ·have hkn:¬kd3 u.kd:=λh=>by rw[QJL.2 h]at hc2;cases hc2
  refine wA 6 I ?_;exact QL3 I I (congrArg (Value.int .i64) (by
   first
   |exact Kj hkn
   |exact Ki hk3 (by rw[Mg hk3,hfl];simp_all)
   |exact Ze hk3 hs (i.hit hlt h82) h82
   |exact Eh hk3 hs hfz h102
   |exact(WW hk3 hs hfz h102).trans (i2.hit hlt2 h114)
   |exact(WW hk3 hs hfz h102).trans (i2.stop hge2))) tB
 have hk3:kd3 u.kd:=QJL.1 (by simpa using hc2);refine QLj 4 I<|QA (QH I H8 KR)<|QA (Qy 4 (λF h9=>h9.1.2) rfl KR I)<|QA (QW I YI)<|QLi 4 I ?_
 refine Zu [(2,_),(3,_),(5,_)] [(7,.bool (QDH u))] wV ?_ ?_
 ·refine QKt<|QA (QH I Ks YZ)<|QA (Qy 0 (λF h9=>h9.1.2) rfl YZ I)<|QA (ZD I I)<|QF<|QC ?_
  refine QL I (λhc2=>?_) λhc2=>?_
  ·have hkt:u.kd=WR:=by simpa[WR]using hc2
   refine QB<|QA (QH I H8 KR)<|QA (Qy 4 (λF h9=>h9.1.2) rfl KR I)<|QA (QW I YI)<|wB 2 I ?_
   refine Qn (t:=35) rfl (λhb35=>?_) λhb35=>?_
   ·refine QP I I<|QA (QH I H8 KR)<|QP I I<|QA (Qy 4 (λF h9=>h9.1.2) rfl KR I)<|QP I I<|QA (QW I YI)<|wB 5 I ?_
    exact J9 ⟨rfl,rfl,rfl,(congrArg (λb:Bool=>some (Value.bool b)) (by unfold QDH;rw[if_pos hkt,hcl,show decide (1<=(u.cv.n:Int))=true from by simpa using hb35];rfl)),trivial⟩
   refine wB 7 I ?_;exact J9 ⟨rfl,rfl,rfl,(congrArg (λb:Bool=>some (Value.bool b)) (by unfold QDH;rw[if_pos hkt,hcl,show decide (1<=(u.cv.n:Int))=false from by simpa using hb35];rfl)),trivial⟩
  have hkt:u.kd≠WR:=by simpa[WR]using hc2
  refine QK ?_;exact J9 ⟨rfl,rfl,rfl,(congrArg (λb:Bool=>some (Value.bool b)) (by unfold QDH;rw[if_neg hkt,hcl];rfl)),trivial⟩
 refine Ft (ι:=PLift (Vb u=false)) [(2,_),(3,_)] (λks=>[]) (λks=>[(b5,.cells [.int .i64 (kL u.kd),.int .i64 (kX u.kd),kF u.kd,kH u.kd].toArray 152 (0,0))]) (λks F=>True) (by exact wU) ?_ ?_
 ·refine QKt<|QA (QH I ZV XK)<|QA (Qy 1 (λF h9=>h9.1.2) rfl XK I)<|QA (QW I Zz)<|QA (QH I QGH QZ)<|QA (Qf I QZ .here .h1)<|wB 2 I ?_
  refine Qn (t:=47) rfl (λhb47=>?_) λhb47=>?_
  ·refine QLi 13 I<|ZB I<|wA 6 I ?_
   exact QL3 I I (congrArg (Value.int .i64) (by
    first
    |exact Kj hkn
    |exact Ki hk3 (by rw[Mg hk3,hfl];simp_all)
    |exact Ze hk3 hs (i.hit hlt h82) h82
    |exact Eh hk3 hs hfz h102
    |exact(WW hk3 hs hfz h102).trans (i2.hit hlt2 h114)
    |exact(WW hk3 hs hfz h102).trans (i2.stop hge2))) tB
  refine QP I I<|QA (QH I ZV XK)<|QP I I<|QA (Qy 1 (λF h9=>h9.1.2) rfl XK I)<|QP I I<|QA (QW I Zz)<|QP I I<|QA (QH I QGG QZ)<|QP I I<|QA (Qf I QZ .here (.skip .h1))<|wB 4 I ?_
  refine Qn (t:=55) rfl (λhb55=>?_) λhb55=>?_
  ·refine QLi 5 I<|ZB I<|wA 6 I ?_
   exact QL3 I I (congrArg (Value.int .i64) (by
    first
    |exact Kj hkn
    |exact Ki hk3 (by rw[Mg hk3,hfl];simp_all)
    |exact Ze hk3 hs (i.hit hlt h82) h82
    |exact Eh hk3 hs hfz h102
    |exact(WW hk3 hs hfz h102).trans (i2.hit hlt2 h114)
    |exact(WW hk3 hs hfz h102).trans (i2.stop hge2))) tB
  refine wB 3 I<|QA (YD I)<|QLi 3 I ?_
  refine QL I (λhc2=>?_) λhc2=>?_
  ·refine wA 6 I ?_;exact QL3 I I (congrArg (Value.int .i64) (by
    first
    |exact Kj hkn
    |exact Ki hk3 (by rw[Mg hk3,hfl];simp_all)
    |exact Ze hk3 hs (i.hit hlt h82) h82
    |exact Eh hk3 hs hfz h102
    |exact(WW hk3 hs hfz h102).trans (i2.hit hlt2 h114)
    |exact(WW hk3 hs hfz h102).trans (i2.stop hge2))) tB
  refine QK ?_;exact P7 (⟨by rw[Mg hk3,hfl];simp_all⟩)
 intro ks;have hs:=ks.down;refine QG<|QKt<|QA (QH I ZV XK)<|QA (Qy 1 (λF h9=>h9.1.1.2) rfl XK I)<|QA (QW I Zz)<|QLi 4 I<|Jo (ι:=Yj u.fl (WB p.sh)) [(2,_),(3,_),(60,_),(61,_)] (λi=>[(62,.int .i64 ((i.i:Nat):Int))]) (λi=>u.fl.length-i.i) (Yj.start _ _) wW wT λi=>?_
 have hi:=i.le;refine wA 6 I ?_;refine QL I (λhc2=>?_) λhc2=>?_
 ·have hlt:i.i<u.fl.length:=wm<|QK8 hc2
  refine QLj 6 I<|QA (Qo (n:=u.fd.n) i.i (λF h9=>(h9.1.1.1.1.2).fd) rfl rfl Zz YC O)<|QA (JG (n:=u.fd.n) (vs:=[.int .i64 ((el u.fl i.i).k),tx (el u.fl i.i).r]) ((i.i)*2) (λF h9=>(h9.1.1.1.1.2).fd) O rfl YC I λj v hv=>Q4 (f:=BV) (l:=u.fl) Zw O hv)<|Qe yi λb9=>QS (vs:=[_,_]) I I I YC I .here .h2 wU<|QJi<|QG<|JC QJ3 mixed wu<|QI (Z7 (λF h9=>h9.1.1.1.2) rfl Zf I)<|QI (QH I GB QZ)<|QI (Qf I QZ .here .h1)<|QV I (λ_ _ f k=>CE (p:=p) f) λ_=>QI (YD I)<|QV I (λ_ _ f k=>G4 f) λ_=>QI (QH I Gc JP)<|QI (Qf I JP .here (.skip .h1))<|QV I (λ_ _ f k=>Dl f k.1.1.1.1.1.1.1 (hL.fr _ (Ql hlt))) λ_=>QI (QH I Gc JP)<|QI (Qf I JP .here (.skip .h1))<|QI (ZD I I)<|QV I (λ_ _ f k=>G4 f) λ_=>?_
  refine Jp I (JR Va) Gv UJ I I (λb79=>?_) (λw h=>h.imp tF λF h=>h.1.1.1.1);refine QV I (λ_ _ f h=>B4 (l:=[if(!(!P9 p.sh (el u.fl i.i).k))=true then 10 else 0,Q9 (el u.fl i.i).r,if((el u.fl i.i).r==[48])=true then 6 else 0]) f (Qu.of h.2 I) wv) (λ_=>?_);rw[QGB];refine QI (QE I)<|Qv<|QLk 7 I ?_
  refine QL I (λhc2=>?_) λhc2=>?_
  ·have h82:WB p.sh (el u.fl i.i)≠0:=by simpa using hc2
   refine wA 6 I<|X6 ?_
   exact QL3 I I (congrArg (Value.int .i64) (by
    first
    |exact Kj hkn
    |exact Ki hk3 (by rw[Mg hk3,hfl];simp_all)
    |exact Ze hk3 hs (i.hit hlt h82) h82
    |exact Eh hk3 hs hfz h102
    |exact(WW hk3 hs hfz h102).trans (i2.hit hlt2 h114)
    |exact(WW hk3 hs hfz h102).trans (i2.stop hge2))) tB
  have h82:WB p.sh (el u.fl i.i)=0:=by simpa using hc2
  refine QK<|Qa<|QC<|QB<|QA (Qk I I O)<|wB 2 I ?_
  exact Qb (i.next hlt h82) (by show u.fl.length-(i.i+1)<u.fl.length-i.i;omega)
 have hge:u.fl.length<=i.i:=wm<|QK9 hc2
 have hfz:=i.stop hge;refine Q7 ?_;refine QG ?_;refine Zu [(3,_)] [(11,.int .i64 (qO p.sh u))] wT ?_ ?_
 ·refine JC QJ3 mixed wu<|QI (QH I KI QZ)<|QI (Qy 2 (λF h9=>h9.1.1.2) rfl QZ I)<|QI (QR I I I)<|QI (QD I) ?_
  refine Vq (t:=88) rfl (λhb88=>?_) λhb88=>?_
  ·obtain⟨bb,hbb⟩:∃bb:Bool,bb=true:=⟨_,rfl⟩;refine JK I I I<|JK I I I<|JK I I I<|JK I I I<|JK I I I<|QI (Qh I I I)<|QV I (λ_ _ f k=>Fe (b':=bb) f hbb.symm) λ_=>QI (QH I Bv JP)<|QI (Qy 3 (λF h9=>h9.1.1.2) rfl JP I)<|QV I (λ_ _ f k=>Dl f k.1.1.1.1.1.1 hL.st) λ_=>?_
   refine Jp I (JR Va) Gv UJ I I (λb99=>?_) (λw h=>h.imp tF λF h=>h.1.1);refine QV I (λ_ _ f k=>B4 (l:=[if bb=true then 10 else 0,Q9 u.st]) f (Qu.of k.2 I) wv) (λ_=>QI (QE I)<|Qv ?_);exact J9 ⟨rfl,(congrArg (λz:Int=>some (Value.int .i64 z)) (by exact QJB hbb (by have:=hb88;simp at this;omega))),trivial⟩
  obtain⟨bb,hbb⟩:∃bb:Bool,bb=(!(!P9 p.sh u.ou)):=⟨_,rfl⟩;refine JB I I<|QI (Z7 (λF h9=>h9.1.1.1.2) rfl Zf I)<|JB I I<|QI (QH I KI QZ)<|JB I I<|QI (Qy 2 (λF h9=>h9.1.1.2) rfl QZ I)<|JB I I<|QV I (λ_ _ f k=>CE (p:=p) f) λ_=>JB I I<|QI (YD I)<|QI (Qi I I I)<|QV I (λ_ _ f k=>Fe (b':=bb) f hbb.symm) λ_=>QI (QH I Bv JP)<|QI (Qy 3 (λF h9=>h9.1.1.2) rfl JP I)<|QV I (λ_ _ f k=>Dl f k.1.1.1.1.1.1.1 hL.st) λ_=>?_
  refine Jp I (JR Va) Gv UJ I I (λb99=>?_) (λw h=>h.imp tF λF h=>h.1.1.1);refine QV I (λ_ _ f k=>B4 (l:=[if bb=true then 10 else 0,Q9 u.st]) f (Qu.of k.2 I) wv) (λ_=>QI (QE I)<|Qv ?_);exact J9 ⟨rfl,(congrArg (λz:Int=>some (Value.int .i64 z)) (by exact QJA hbb (by simpa using hb88))),trivial⟩
 refine wA 6 I ?_;refine QL I (λhc2=>?_) λhc2=>?_
 ·have h102:qO p.sh u≠0:=by simpa using hc2
  refine wA 7 I ?_;exact QL3 I I (congrArg (Value.int .i64) (by
   first
   |exact Kj hkn
   |exact Ki hk3 (by rw[Mg hk3,hfl];simp_all)
   |exact Ze hk3 hs (i.hit hlt h82) h82
   |exact Eh hk3 hs hfz h102
   |exact(WW hk3 hs hfz h102).trans (i2.hit hlt2 h114)
   |exact(WW hk3 hs hfz h102).trans (i2.stop hge2))) tB
 have h102:qO p.sh u=0:=by simpa using hc2
 refine QLj 5 I<|QA (QH I H8 KR)<|QA (Qy 4 (λF h9=>h9.1.1.2) rfl KR I)<|QA (QW I YI)<|QLi 4 I<|Jo (ι:=Yj u.cl Q9) [(105,_),(106,_)] (λi2=>[(107,.int .i64 ((i2.i:Nat):Int))]) (λi2=>u.cl.length-i2.i) (Yj.start _ _) wU wT λi2=>?_
 have hi2:=i2.le;refine wA 6 I ?_;refine QL I (λhc2=>?_) λhc2=>?_
 ·have hlt2:i2.i<u.cl.length:=wm<|QK8 hc2
  refine QLj 6 I<|QA (Qo (n:=u.cv.n) (i2.i) (λF h9=>(h9.1.1.1.1.2).cv) rfl rfl YI JP O)<|QA (Qg (n:=u.cv.n) ((i2.i)*1) (λF h9=>(h9.1.1.1.1.2).cv) O rfl JP (ZF (f:=tx) (l:=u.cl) O))<|QLi 6 I<|QJ I (λ_ _ f k=>Dl f k.1.1.1.1.1 (hL.ca _ (Ql hlt2))) λ_=>QLi 9 I ?_
  refine QL I (λhc2=>?_) λhc2=>?_
  ·have h114:Q9 (el u.cl i2.i)≠0:=by simpa using hc2
   refine wA 6 I<|X6 ?_
   exact QL3 I I (congrArg (Value.int .i64) (by
    first
    |exact Kj hkn
    |exact Ki hk3 (by rw[Mg hk3,hfl];simp_all)
    |exact Ze hk3 hs (i.hit hlt h82) h82
    |exact Eh hk3 hs hfz h102
    |exact(WW hk3 hs hfz h102).trans (i2.hit hlt2 h114)
    |exact(WW hk3 hs hfz h102).trans (i2.stop hge2))) tB
  have h114:Q9 (el u.cl i2.i)=0:=by simpa using hc2
  refine QK<|Qa<|QC<|QB<|QA (Qk I I O)<|wB 2 I ?_
  exact Qb (i2.next hlt2 h114) (by show u.cl.length-(i2.i+1)<u.cl.length-i2.i;omega)
 have hge2:u.cl.length<=i2.i:=wm<|QK9 hc2
 refine Q7 ?_;refine wA 6 I ?_;exact QL3 I I (congrArg (Value.int .i64) (by
  first
  |exact Kj hkn
  |exact Ki hk3 (by rw[Mg hk3,hfl];simp_all)
  |exact Ze hk3 hs (i.hit hlt h82) h82
  |exact Eh hk3 hs hfz h102
  |exact(WW hk3 hs hfz h102).trans (i2.hit hlt2 h114)
  |exact(WW hk3 hs hfz h102).trans (i2.stop hge2))) tB
theorem QH2{n f:Nat}{p:Int->Bool}{c1 c2:List Value}{G0:Gs->Prop}(hF:Fits F w)(hg:∀F F',Gs.le F F'->G0 F->G0 F')(h0:G0 F)(hR:Qu F q n 1 (l.map Qs))(hn:l.length=n)(hb:n<=1000000)(hc:∀e∈l,∀w F,Fits F w->G0 F->QY prog f (c1++[.int .i64 e]++c2) w F (.bool (p e))):QQ prog 148 [.slice q n c,.func (.func f) c1.toArray c2.toArray] w F (λ(k:Int)=>.int .i64 k) (λk _=>decide (k>=0)=l.any p):=by
 refine QQ.intro (G:=λF=>G0 F/\Qu F q n 1 (l.map Qs)) func148 rfl w8 rfl rfl hF (λF' hF'=>⟨hg F F' hF' h0,hR.le hF'⟩)<|QKt<|wR rfl<|QG<|wS rfl<|QA (QW rfl Qd)<|QJj rfl<|QJi<|QO<|Jo (ι:=V4 l p) [(0,_),(1,_),(7,_)] (λi=>[(8,.int .i64 ((i.i:Nat):Int))]) (λi=>l.length-i.i) (V4.start _ _) wV wT λi=>?_
 have hi:=i.le;refine wA 6 I ?_;refine QL I (λhc2=>?_) λhc2=>?_
 ·have hlt:i.i<l.length:=wm<|QK8 hc2
  have hem:=Ql hlt;refine QLj 15 I<|QA (Qo (n:=n) i.i tE rfl rfl Qd QZ O)<|QA (Qg (n:=n) ((i.i)*1) tE O rfl QZ (ZF (f:=Qs) (l:=l) O))<|GU (c1:=c1) (c2:=c2) rfl rfl (λw F f k=>hc _ hem w F f k.1) λ_=>QF<|QC ?_
  refine QL I (λhc2=>?_) λhc2=>?_
  ·have hc16:=hc2;refine wA 6 I<|X6 ?_
   exact QM (((i.i:Nat):Int)) I (wO I) (rfl) λF _=>by rw[decide_eq_true O,List.any_eq_true.2 ⟨_,hem,hc16⟩]
  have hc16:=hc2;refine QK<|Qa<|QC<|QB<|QA (Qk I I O)<|wB 2 I ?_
  exact Qb (i.next hlt hc16) (by show l.length-(i.i+1)<l.length-i.i;omega)
 have hge:l.length<=i.i:=wm<|QK9 hc2
 refine Q7 ?_;refine wA 6 I ?_;exact QM ((-1:Int)) I (wO I) (rfl) λF _=>by rw[Bool.eq_false_iff.2 (i.stop hge)];rfl
theorem QGN{n f:Nat}{p:Int->Bool}{c1 c2:List Value}{G0:Gs->Prop}(hF:Fits F w)(hg:∀F F',Gs.le F F'->G0 F->G0 F')(h0:G0 F)(hR:Qu F q n 1 (l.map Qs))(hn:l.length=n)(hb:n<=1000000)(hc:∀e∈l,∀w F,Fits F w->G0 F->QY prog f (c1++[.int .i64 e]++c2) w F (.bool (p e))):QY prog 78 [.slice q n c,.func (.func f) c1.toArray c2.toArray] w F (.bool (l.any p)):=by
 refine QQ.intro (G:=λF=>G0 F/\Qu F q n 1 (l.map Qs)) func78 rfl w8 rfl rfl hF (λF' hF'=>⟨hg F F' hF' h0,hR.le hF'⟩)<|QKt<|wR rfl<|wS rfl<|QJj rfl<|QJ rfl (λ_ _ f k=>QH2 (p:=p) f hg k.1 k.2 hn hb hc) λc7=>JM _ (λ_ _ f h=>h.2) λh7=>QA (QR rfl rfl rfl)<|wR rfl<|QT ?_
 exact QL3 I I (congrArg Value.bool h7.symm) tB
def c0E(p:ZL):Int:=if p.sh<1\/p.sh>100 then 3 else if p.ul.length>96 then 5 else 0
def c2E(p:ZL):Int:=if p.ol.length>24 then 5 else if p.ol.any (P9 p.sh)=true then 10 else if Yq p.ul>24 then 5 else 0
def Ee(p:ZL):KL p=if c0E p≠0 then c0E p else if Qz (p.ul.map (VM p.sh))≠0 then Qz (p.ul.map (VM p.sh))else if c2E p≠0 then c2E p else if LA p.sh p.ul=true then 19 else
  if(X9 p.ul).length<p.ul.length then 18 else if p.ul.any (GQ p.sh p.ul)=true then 30 else 0:=by
 unfold KL c0E c2E;by_cases h1:p.sh<1\/p.sh>100
 ·simp only[if_pos h1];rfl
 by_cases h2:p.ul.length>96
 ·simp only[if_neg h1,if_pos h2];rfl
 simp only[if_neg h1,if_neg h2];by_cases h3:Qz (p.ul.map (VM p.sh))=0
 ·by_cases h4:p.ol.length>24
  ·simp only[if_pos h4,h3];rfl
  by_cases h5:p.ol.any (P9 p.sh)=true
  ·simp only[if_neg h4,if_pos h5,h3];rfl
  by_cases h6:Yq p.ul>24
  ·simp only[if_neg h4,if_neg h5,if_pos h6,h3];rfl
  simp only[if_neg h4,if_neg h5,if_neg h6,h3];rfl
 simp only[if_pos h3,show ¬((0:Int)≠0)from λh=>h rfl,if_false]
def QKQ{p:ZL}(hb:bb=true)(h:p.sh<1){x:Int}:Qz [if bb=true then 3 else 0,x]=c0E p:=by
 unfold c0E;rw[if_pos hb,if_pos (Or.inl h)];rfl
theorem QKP{p:ZL}(hb:bb=decide (p.sh>100))(h:¬p.sh<1)(hn:p.ul.length=p.un.n):Qz [if bb=true then 3 else 0,if decide ((p.un.n:Int)>96)=true then 5 else 0]=c0E p:=by
 unfold c0E;by_cases g:p.sh>100
 ·rw[if_pos (by rw[hb];exact decide_eq_true g),if_pos (Or.inr g)];rfl
 rw[if_neg (show ¬bb=true by rw[hb];simpa using g),if_neg (show ¬(p.sh<1\/p.sh>100) by omega)];by_cases g2:p.ul.length>96
 ·rw[if_pos g2,if_pos (decide_eq_true O)];rfl
 rw[if_neg g2,if_neg tA];rfl
theorem QKO{p:ZL}(hn:p.ol.length=p.ot.n):Qz [if decide ((p.ot.n:Int)>24)=true then 5 else 0,if p.ol.any (P9 p.sh)=true then 10 else 0,if decide ((Yq p.ul:Int)>24)=true then 5 else 0]=c2E p:=by
 unfold c2E;by_cases g:p.ol.length>24
 ·rw[if_pos (decide_eq_true O),if_pos g];rfl
 rw[if_neg tA,if_neg g];by_cases g2:p.ol.any (P9 p.sh)=true
 ·rw[if_pos g2,if_pos g2];rfl
 rw[if_neg g2,if_neg g2];by_cases g3:Yq p.ul>24
 ·rw[if_pos (decide_eq_true O),if_pos g3];rfl
 rw[if_neg tA,if_neg g3];rfl
theorem Fj{st:List UInt8}(h:Q9 st=0)(r:Rat):(st != Q6 r)=!decide (r=Jc st):=by
 have e:=(Xa h).1;by_cases g:r=Jc st
 ·rw[decide_eq_true g,g,<-e];simp
 rw[decide_eq_false g];have:st≠Q6 r:=λh=>g (by rw[h,Ww]);simpa using this
def gP{f:F2}(h:f∈Vu u):f∈u.fl:=by
 unfold Vu at h;split at h
 ·exact List.mem_of_mem_drop h
 exact h
theorem QGI{l:List (List UInt8)}(h:xs.map (·.2)=l.map Jc){k:Nat}(hk:k<l.length):k<xs.length/\(el xs k).2=Jc (el l k):=by
 have hl:=congrArg List.length h;rw[List.length_map,List.length_map]at hl;have e:=congrArg (λl=>l[k]?) h;simp only[List.getElem?_map]at e;rw[List.getElem?_eq_getElem hk,List.getElem?_eq_getElem (show k<xs.length by omega)]at e;rw[J8 (show k<xs.length by omega),J8 hk];exact⟨O,Option.some.inj e⟩
def QHa(h:L1 us=false):(X9 us).length<us.length:=by
 have h1:=QK9 h;have:=(gH us).le;omega
def QHZ(h:L1 us=true):¬(X9 us).length<us.length:=by
 have h1:=QK8 h;omega
theorem Rc{p:ZL}(hF:Fits F w)(hGl:JZ F)(hP:KO F p)(hL:qB p):QY prog 38 [p.v] w F (.int .i64 (KL p)):=by
 have LU:=hP.MK;have hol:=hP.QEH;have hun:=hL.un;have hot:=hL.ot;refine QQ.go (G:=λF=>JZ F/\KO F p) func38 hF ⟨hGl,hP⟩ ?_;refine QKt<|Q8 I (vs:=[_,_,_]) I λb1=>wR I<|QG<|Jf (b:=b1) .here ?_
 refine Zu [(1,_)] [(3,.int .i64 (c0E p))] wT ?_ ?_
 ·refine JC QJ3 mixed wu<|QI (QH I WT QZ)<|QI (Qy 0 tE rfl QZ I)<|QI (QR I I I)<|QI (QD I) ?_
  refine Vq (t:=20) rfl (λhb20=>?_) λhb20=>?_
  ·obtain⟨bb,hbb⟩:∃bb:Bool,bb=true:=⟨_,rfl⟩;refine JK I I I<|JK I I I<|JK I I I<|QI (Qh I I I)<|QV I (λ_ _ f k=>Fe (b':=bb) f hbb.symm) λ_=>QI (QH I XS Jj)<|QI (Qy 1 tE rfl Jj I)<|QI (QW I Xr)<|QI (QR I I I)<|QV I (λ_ _ f k=>G4 f) λ_=>?_
   refine Jp I (JR Va) Gv UJ I I (λb31=>?_) (λw h=>h.imp .slnil λF h=>h.1.1);refine QV I (λ_ _ f k=>B4 (l:=[if bb=true then 3 else 0,if decide ((p.un.n:Int)>96)=true then 5 else 0]) f (Qu.of k.2 I) wv) (λ_=>QI (QE I)<|Qv ?_);exact J9 ⟨rfl,(congrArg (λz:Int=>some (Value.int .i64 z)) (by exact QKQ hbb (QK8 hb20))),trivial⟩
  obtain⟨bb,hbb⟩:∃bb:Bool,bb=decide (p.sh>100):=⟨_,rfl⟩;refine JB I I<|QI (QH I WT QZ)<|JB I I<|QI (Qy 0 tE rfl QZ I)<|JB I I<|QI (QR I I I)<|QI (Qi I I I)<|QV I (λ_ _ f k=>Fe (b':=bb) f hbb.symm) λ_=>QI (QH I XS Jj)<|QI (Qy 1 tE rfl Jj I)<|QI (QW I Xr)<|QI (QR I I I)<|QV I (λ_ _ f k=>G4 f) λ_=>?_
  refine Jp I (JR Va) Gv UJ I I (λb31=>?_) (λw h=>h.imp .slnil λF h=>h.1.1);refine QV I (λ_ _ f k=>B4 (l:=[if bb=true then 3 else 0,if decide ((p.un.n:Int)>96)=true then 5 else 0]) f (Qu.of k.2 I) wv) (λ_=>QI (QE I)<|Qv ?_);exact J9 ⟨rfl,(congrArg (λz:Int=>some (Value.int .i64 z)) (by exact QKP hbb (QK9 hb20) LU)),trivial⟩
 refine wA 6 I ?_;refine QL I (λhc2=>?_) λhc2=>?_
 ·have h0:c0E p≠0:=by simpa using hc2
  refine wA 7 I ?_;exact QL3 I I (congrArg (Value.int .i64) (by rw[Ee,if_pos h0])) tB
 have h0:c0E p=0:=by simpa using hc2
 have hsh:1<=p.sh/\p.sh<=1000000:=by unfold c0E at h0;split at h0;cases h0;omega
 refine QLj 5 I<|QA (QH I XS Jj)<|QA (Qy 1 tE rfl Jj I)<|QA (QW I Xr)<|QLi 4 I<|Jo (ι:=Yj p.ul (VM p.sh)) [(1,_),(37,_),(38,_)] (λi=>[(39,.int .i64 ((i.i:Nat):Int))]) (λi=>p.ul.length-i.i) (Yj.start _ _) wV wT λi=>?_
 have hi:=i.le;refine wA 6 I ?_;refine QL I (λhc2=>?_) λhc2=>?_
 ·have hlt:i.i<p.ul.length:=wm<|QK8 hc2
  refine QLj 6 I<|QA (Qo (n:=p.un.n) i.i (λF h9=>h9.1.2.un) rfl rfl Xr XJ O)<|QA (JG (n:=p.un.n) (vs:=[tx (el p.ul i.i).kd,.slice (el p.ul i.i).fd.q (el p.ul i.i).fd.n (el p.ul i.i).fd.cap,Qs ((el p.ul i.i).ou),tx (el p.ul i.i).st,.slice (el p.ul i.i).cv.q (el p.ul i.i).cv.n (el p.ul i.i).cv.cap]) ((i.i)*5) (λF h9=>h9.1.2.un) O rfl XJ I λj v hv=>Q4 (f:=MJ) (l:=p.ul) ZO O hv)<|Qe Ni λb5=>QS (vs:=[_,_,_,_,_]) I I I XJ I .here .h5 wX<|QJi<|QKt<|QA (Z7 tE rfl Zf I)<|QA (QX (vs:=[_,_,_,_,_]) I XJ .here .h5 rfl)<|QJ I (λ_ _ f k=>yt f k.1.1 (k.1.2.us _ (Ql hlt)) (hL.us _ (Ql hlt))) λ_=>QLi 9 I ?_
  refine QL I (λhc2=>?_) λhc2=>?_
  ·have h47:VM p.sh (el p.ul i.i)≠0:=by simpa using hc2
   refine wA 6 I<|X6 ?_
   exact QL3 I I (congrArg (Value.int .i64) (by rw[Ee,if_neg (Classical.not_not.2 h0),if_pos (by rw[i.hit hlt h47];exact h47)];exact i.hit hlt h47)) tB
  have h47:VM p.sh (el p.ul i.i)=0:=by simpa using hc2
  refine QK<|Qa<|QC<|QB<|QA (Qk I I O)<|wB 2 I ?_
  exact Qb (i.next hlt h47) (by show p.ul.length-(i.i+1)<p.ul.length-i.i;omega)
 have hge:p.ul.length<=i.i:=wm<|QK9 hc2
 have h3:=i.stop hge;have hUO:∀u∈p.ul,WV p.sh u:=λu hu=>LW (HK h3 _ (List.mem_map_of_mem hu));refine Q7 ?_;refine QKt<|QA (QH I I7 Q5)<|QA (Qy 2 tE rfl Q5 I)<|QA (EF I)<|QJ I (λw F g k=>QGN (f:=79) (c1:=[]) (c2:=[.pointer (some ⟨b1,0,none⟩)]) (p:=P9 p.sh) (G0:=λF=>F b1=some (#[Qs p.sh,.slice p.un.q p.un.n p.un.cap,.slice p.ot.q p.ot.n p.ot.cap],25)) g (λ_ _ hle h=>hle _ _ h) k.2 k.1.2.ot hol hot λe he w F g h=>QFd g h) λ_=>QLi 5 I<|JC QJ3 mixed wu<|QI (QH I I7 Q5)<|QI (Qy 2 (λF h9=>h9.1.2) rfl Q5 I)<|QI (QW I Qd)<|QI (QR I I I)<|QV I (λ_ _ f k=>G4 f) λ_=>QI (QD I)<|QV I (λ_ _ f k=>G4 f) λ_=>QI (Z7 (λF h9=>h9.1.2) rfl Zf I)<|QV I (λ_ _ f k=>Nc f k.1.1.1.1.2 O) λ_=>QI (QR I I I)<|QV I (λ_ _ f k=>G4 f) λ_=>?_
 refine Jp I (JR Va) Gv UJ I I (λb65=>?_) (λw h=>h.imp .slnil λF h=>h.1.1.1.1);refine QV I (λ_ _ f k=>B4 (l:=[if decide ((p.ot.n:Int)>24)=true then 5 else 0,if p.ol.any (P9 p.sh)=true then 10 else 0,if decide ((Yq p.ul:Int)>24)=true then 5 else 0]) f (Qu.of k.2 I) wv) (λ_=>?_);rw[QKO hol];refine QI (QE I)<|Qv<|QLk 7 I ?_
 refine QL I (λhc2=>?_) λhc2=>?_
 ·have h8:c2E p≠0:=by simpa using hc2
  refine wA 7 I ?_;exact QL3 I I (congrArg (Value.int .i64) (by rw[Ee,if_neg (Classical.not_not.2 h0),if_neg (Classical.not_not.2 h3),if_pos h8])) tB
 have h8:c2E p=0:=by simpa using hc2
 refine QLj 4 I<|QA (Z7 (λF h9=>h9.1.1.1.1.1.1.1.2) rfl Zf I)<|QJ I (λ_ _ f k=>Cd f k.1.1.1.1.1.1.1.1.2 hun hsh λu hu=>(hUO u hu).ou) λc72=>QLi 11 I<|QA (YD I)<|QF<|QC ?_
 refine QL I (λhc2=>?_) λhc2=>?_
 ·have h7:LA p.sh p.ul=true:=by simpa using hc2
  refine wA 6 I ?_;exact QL3 I I (congrArg (Value.int .i64) (by rw[Ee,if_neg (Classical.not_not.2 h0),if_neg (Classical.not_not.2 h3),if_neg (Classical.not_not.2 h8),if_pos h7])) tB
 have hdr:LA p.sh p.ul=false:=by simpa using hc2
 have h7:¬LA p.sh p.ul=true:=by rw[hdr];decide
 refine Xy _ (λ_ _ f k=>(k.2 hdr).2.1) (λn72=>QLj 5 I<|QA (Z7 (λF h9=>h9.1.1.1.1.1.1.1.1.2) rfl Zf I)<|QJj I<|QJ I (λ_ _ g k=>gE (N:=c72.n) g k.1.1.1.1.1.1.1.1.1.2 (by rw[n72];have:=(k.2 hdr).1;rwa [n72]at this) hun (λu hu=>by have h1:=Z5 (hUO u hu);have h2:=(k.1.1.1.1.1.1.1.1.1.2.us _ hu).MQ;omega) (λu hu=>(hUO u hu).kd) λu hu f hf=>wm<|((hUO u hu).fd f (gP hf)).1) λc80=>QLi 10 I<|QA (YD I)<|QF<|QC ?_);refine QL I (λhc2=>?_) λhc2=>?_
 ·have h18:=QHa (show L1 p.ul=false by simpa using hc2);refine wA 6 I ?_;exact QL3 I I (congrArg (Value.int .i64) (by rw[Ee,if_neg (Classical.not_not.2 h0),if_neg (Classical.not_not.2 h3),if_neg (Classical.not_not.2 h8),if_neg h7,if_pos h18])) tB
 have h18:=QHZ (show L1 p.ul=true by simpa using hc2);refine QLj 4 I<|QA (Z7 (λF h9=>h9.1.1.1.1.1.1.1.1.1.2) rfl Zf I)<|QJ I (λ_ _ f k=>BZ f k.1.1.1.1.1.1.1.1.1.1.1 k.1.1.1.1.1.1.1.1.1.1.2 hun hsh (λu hu=>wm<|(hUO u hu).ou) λu hu=>⟨(hUO u hu).st,(hL.us _ hu).st⟩) λc86=>JM _ (λw F hF ⟨⟨⟨⟨⟨⟨⟨⟨⟨⟨⟨⟨hGl,hP⟩,hz1⟩,_⟩,_⟩,_⟩,_⟩,_⟩,hs65⟩,_⟩,h72⟩,h80⟩,h86⟩=>And.intro h86.2.2.1 h86.2.2.2.1) λn86=>wR rfl<|QG<|QKt<|QA (QH rfl XS Jj)<|QA (Qy 1 (λF h9=>h9.1.1.1.1.1.1.1.1.1.1.2) rfl Jj rfl)<|QA (QW rfl Xr)<|QJj rfl<|QJi<|QO<|Jo (ι:=V4 p.ul (GQ p.sh p.ul)) [(13,_),(88,_),(89,_)] (λi5=>[(90,.int .i64 ((i5.i:Nat):Int))]) (λi5=>p.ul.length-i5.i) (V4.start _ _) wV wT λi5=>?_
 have hi5:=i5.le;refine wA 6 I ?_;refine QL I (λhc2=>?_) λhc2=>?_
 ·have hlt5:i5.i<p.ul.length:=wm<|QK8 hc2
  refine QLj 6 I<|QA (Qo (n:=p.un.n) (i5.i) (λF h9=>h9.1.1.1.1.1.1.1.1.1.1.1.2.un) rfl rfl Xr XJ O)<|QA (JG (n:=p.un.n) (vs:=[tx (el p.ul (i5.i)).kd,.slice (el p.ul (i5.i)).fd.q (el p.ul (i5.i)).fd.n (el p.ul (i5.i)).fd.cap,Qs ((el p.ul (i5.i)).ou),tx (el p.ul (i5.i)).st,.slice (el p.ul (i5.i)).cv.q (el p.ul (i5.i)).cv.n (el p.ul (i5.i)).cv.cap]) ((i5.i)*5) (λF h9=>h9.1.1.1.1.1.1.1.1.1.1.1.2.un) O rfl XJ I λj v hv=>Q4 (f:=MJ) (l:=p.ul) ZO O hv)<|Qe Ni λb15=>QS (vs:=[_,_,_,_,_]) I I I XJ I .here .h5 wX<|QJi<|QKt<|QA (QH I Ks YZ)<|QA (Qf I YZ .here .h1)<|QA (ZD I I)<|QF<|QC ?_
  refine QL I (λhc2=>?_) λhc2=>?_
  ·have hkt:(el p.ul i5.i).kd=WR:=by simpa[WR]using hc2
   have hum:=Ql hlt5;have huo:=hUO _ hum;have hf1:=(Z5 huo).1;have hff:=(hP.us _ hum).MQ;have hfm:=Ql (show 0<(el p.ul i5.i).fl.length by omega);have hfr:=huo.fd _ hfm;have hsl:=TA p.sh p.ul;have hss:=QAW (sh:=p.sh) (λu hu=>(hUO u hu).st) _ (Ql (show(el (el p.ul i5.i).fl 0).k.toNat<(UE p.sh p.ul).length by omega));have hc13:(el p.ul i5.i).cv.n<=13:=by have:=Hm huo;have:=(hP.us _ hum).RA;omega
   obtain⟨hkx,hke⟩:=QGI n86.1 (show(el (el p.ul i5.i).fl 0).k.toNat<(UE p.sh p.ul).length by omega);have hz1a:=Xt hfr.2.1;have hz1b:=Xt hss;refine QG<|yZ (r:=[0,1,2,3,4,5,6,7,8,9,10,11,12,13,14,15,16]) tF mixed wu rfl<|Y6 0 wu rfl rfl<|QI (QH I ZV XK)<|XX<|Y6 1 wu rfl rfl<|QI (Qf I XK .here (.skip .h1))<|XX<|Y6 2 wu rfl rfl<|QI (Qo (n:=(el p.ul (i5.i)).fd.n) (0) (λF h9=>((h9.1.1.1.1.1.1.1.1.1.1.1.2.us _ (Ql (show i5.i<p.ul.length from O)))).fd) rfl wN Zz YC O)<|XX<|Y6 3 wu rfl rfl<|QI (QH I Gc JP)<|XX<|Y6 4 wu rfl rfl<|QI (Qg (n:=(el p.ul (i5.i)).fd.n) ((0)*2+1) (λF h9=>((h9.1.1.1.1.1.1.1.1.1.1.1.2.us _ (Ql (show i5.i<p.ul.length from O)))).fd) O rfl JP (Q4 (f:=BV) (l:=(el p.ul (i5.i)).fl) Zw O rfl))<|XX<|Y6 6 wu rfl rfl<|QI (QD I)<|XX<|Y6 7 wu rfl rfl<|QI (QH I ZV XK)<|XX<|Y6 8 wu rfl rfl<|QI (Qf I XK .here (.skip .h1))<|XX<|Y6 9 wu rfl rfl<|QI (Qo (n:=(el p.ul (i5.i)).fd.n) (0) (λF h9=>((h9.1.1.1.1.1.1.1.1.1.1.1.2.us _ (Ql (show i5.i<p.ul.length from O)))).fd) rfl wN Zz YC O)<|XX<|Y6 10 wu rfl rfl<|QI (QH I GB QZ)<|XX<|Y6 11 wu rfl rfl<|QI (Qg (n:=(el p.ul (i5.i)).fd.n) ((0)*2+0) (λF h9=>((h9.1.1.1.1.1.1.1.1.1.1.1.2.us _ (Ql (show i5.i<p.ul.length from O)))).fd) O rfl QZ (Q4 (f:=BV) (l:=(el p.ul (i5.i)).fl) Zw O rfl))<|XX<|Y6 12 wu rfl rfl<|QI (Qo (n:=c86.1.n) ((el (el p.ul i5.i).fl 0).k.toNat) (λF h9=>h9.2.1) rfl wN We JA O)<|XX<|Y6 13 wu rfl rfl<|QI (JG (n:=c86.1.n) (vs:=[.int .i64 (el c86.2 ((el (el p.ul i5.i).fl 0).k.toNat)).1.n.s,.slice (el c86.2 ((el (el p.ul i5.i).fl 0).k.toNat)).1.n.q (el c86.2 ((el (el p.ul i5.i).fl 0).k.toNat)).1.n.n (el c86.2 ((el (el p.ul i5.i).fl 0).k.toNat)).1.n.cap,.int .i64 (el c86.2 ((el (el p.ul i5.i).fl 0).k.toNat)).1.d.s,.slice (el c86.2 ((el (el p.ul i5.i).fl 0).k.toNat)).1.d.q (el c86.2 ((el (el p.ul i5.i).fl 0).k.toNat)).1.d.n (el c86.2 ((el (el p.ul i5.i).fl 0).k.toNat)).1.d.cap]) (((el (el p.ul i5.i).fl 0).k.toNat)*4) (λF h9=>h9.2.1) O rfl JA I λj v hv=>Q4 (f:=(λe=>S2 e.1)) (l:=c86.2) (λ_=>rfl) O hv)<|XX ?_
   refine IA 5 15 wu wu rfl rfl rfl rfl rfl rfl ?_ ?_
   ·refine QV I (λ_ _ f k=>WS (r:=Jc (el (el p.ul i5.i).fl 0).r) f k.1.1.1.1.1.1.1.1.1.1.1.1 (Xa hfr.2.1).1 (wm<|(hL.us _ hum).fr _ hfm)) (λc102=>XX ?_);refine IA 14 15 wu wu rfl rfl rfl rfl rfl rfl ?_ ?_
    ·refine QV I (λ_ _ f k=>HH f k.2 (k.1.2.2.1.el hkx) O (by rw[hke];omega)) (λc111=>?_);rw[hke];refine XX<|Kl 15 wu wu rfl rfl rfl<|BU VU λb16=>XX<|Kl 16 wu wu rfl rfl rfl<|Ju (vs:=[_,_,_,_]) I I I JA I .here tF (λ_ h=>h.1.1) .h4 wW<|XX<|Wa<|QC<|QG<|JC QJ3 mixed wu<|QI (QH I H8 KR)<|QI (Qf I KR .u1 (.skip (.skip (.skip (.skip .h1)))))<|QI (wJ I JA .here)<|QV I (λ_ _ f h=>CD f h.1.1.1.1.1.1.1.1.1.1.1.1.1.1 (h.1.1.1.1.1.1.1.1.1.1.1.1.1.2.us _ hum).cv h.2 (h.1.1.1.1.1.1.1.1.1.1.1.1.1.2.us _ hum).RA hc13 (by have h1:=Zg (Jc (el (el p.ul i5.i).fl 0).r) (Jc (el (UE p.sh p.ul) (el (el p.ul i5.i).fl 0).k.toNat));omega) huo.cv (hL.us _ hum).ca) λc115=>QI (QH I Bv JP)<|QI (Qf I JP .u1 (.skip (.skip (.skip .h1))))<|QV I (λ_ _ f k=>WS (r:=Jc (el p.ul i5.i).st) f k.1.1.1.1.1.1.1.1.1.1.1.1.1.1.1 (Xa huo.st).1 (wm<|(hL.us _ hum).st)) λc118=>QV I (λ_ _ f h=>dU f h.1.2 h.2 (by have:=FV (x:=Jc (el (el p.ul i5.i).fl 0).r*Jc (el (UE p.sh p.ul) (el (el p.ul i5.i).fl 0).k.toNat)) (by have h1:=Zg (Jc (el (el p.ul i5.i).fl 0).r) (Jc (el (UE p.sh p.ul) (el (el p.ul i5.i).fl 0).k.toNat));omega) huo.cv;have:=(h.1.1.1.1.1.1.1.1.1.1.1.1.1.1.1.2.us _ hum).RA;omega) (wm<|Xt huo.st)) λ_=>QI (YD I)<|Qv<|QC ?_
     refine QL I (λhc2=>?_) λhc2=>?_
     ·have hcon:GQ p.sh p.ul (el p.ul i5.i)=true:=by unfold GQ;rw[hkt,Fj huo.st];exact hc2
      refine wA 5 I<|X6 ?_
      exact QL3 I I (congrArg (Value.int .i64) (by rw[Ee,if_neg (Classical.not_not.2 h0),if_neg (Classical.not_not.2 h3),if_neg (Classical.not_not.2 h8),if_neg h7,if_neg h18];first | exact if_pos (i5.hit hlt5 hcon) | exact if_neg (i5.stop hge5))) tB
     have hncon:GQ p.sh p.ul (el p.ul i5.i)=false:=by unfold GQ;rw[hkt,Fj huo.st];exact hc2
     refine QK<|Qa<|QC<|QB<|QA (Qk I I O)<|wB 2 I ?_
     exact Qb (i5.next hlt5 hncon) (by show p.ul.length-(i5.i+1)<p.ul.length-i5.i;omega)
    refine BU VU (λb16=>XX<|Kl 14 wu wu rfl rfl rfl<|QV I (λ_ _ f k=>HH f k.2 (k.1.2.2.1.el hkx) O (by rw[hke];omega)) λc111=>?_);rw[hke];refine XX<|Kl 16 wu wu rfl rfl rfl<|Ju (vs:=[_,_,_,_]) I I I JA I .here tF (λ_ h=>h.1.1) .h4 wW<|XX<|Wa<|QC<|QG<|JC QJ3 mixed wu<|QI (QH I H8 KR)<|QI (Qf I KR .u1 (.skip (.skip (.skip (.skip .h1)))))<|QI (wJ I JA .here)<|QV I (λ_ _ f h=>CD f h.1.1.1.1.1.1.1.1.1.1.1.1.1.1 (h.1.1.1.1.1.1.1.1.1.1.1.1.1.2.us _ hum).cv h.2 (h.1.1.1.1.1.1.1.1.1.1.1.1.1.2.us _ hum).RA hc13 (by have h1:=Zg (Jc (el (el p.ul i5.i).fl 0).r) (Jc (el (UE p.sh p.ul) (el (el p.ul i5.i).fl 0).k.toNat));omega) huo.cv (hL.us _ hum).ca) λc115=>QI (QH I Bv JP)<|QI (Qf I JP .u1 (.skip (.skip (.skip .h1))))<|QV I (λ_ _ f k=>WS (r:=Jc (el p.ul i5.i).st) f k.1.1.1.1.1.1.1.1.1.1.1.1.1.1.1 (Xa huo.st).1 (wm<|(hL.us _ hum).st)) λc118=>QV I (λ_ _ f h=>dU f h.1.2 h.2 (by have:=FV (x:=Jc (el (el p.ul i5.i).fl 0).r*Jc (el (UE p.sh p.ul) (el (el p.ul i5.i).fl 0).k.toNat)) (by have h1:=Zg (Jc (el (el p.ul i5.i).fl 0).r) (Jc (el (UE p.sh p.ul) (el (el p.ul i5.i).fl 0).k.toNat));omega) huo.cv;have:=(h.1.1.1.1.1.1.1.1.1.1.1.1.1.1.1.2.us _ hum).RA;omega) (wm<|Xt huo.st)) λ_=>QI (YD I)<|Qv<|QC ?_
    refine QL I (λhc2=>?_) λhc2=>?_
    ·have hcon:GQ p.sh p.ul (el p.ul i5.i)=true:=by unfold GQ;rw[hkt,Fj huo.st];exact hc2
     refine wA 5 I<|X6 ?_
     exact QL3 I I (congrArg (Value.int .i64) (by rw[Ee,if_neg (Classical.not_not.2 h0),if_neg (Classical.not_not.2 h3),if_neg (Classical.not_not.2 h8),if_neg h7,if_neg h18];first | exact if_pos (i5.hit hlt5 hcon) | exact if_neg (i5.stop hge5))) tB
    have hncon:GQ p.sh p.ul (el p.ul i5.i)=false:=by unfold GQ;rw[hkt,Fj huo.st];exact hc2
    refine QK<|Qa<|QC<|QB<|QA (Qk I I O)<|wB 2 I ?_
    exact Qb (i5.next hlt5 hncon) (by show p.ul.length-(i5.i+1)<p.ul.length-i5.i;omega)
   refine BU VU (λb16=>XX<|Kl 5 wu wu rfl rfl rfl<|QV I (λ_ _ f k=>WS (r:=Jc (el (el p.ul i5.i).fl 0).r) f k.1.1.1.1.1.1.1.1.1.1.1.1 (Xa hfr.2.1).1 (wm<|(hL.us _ hum).fr _ hfm)) λc102=>XX<|Kl 14 wu wu rfl rfl rfl<|QV I (λ_ _ f k=>HH f k.2 (k.1.2.2.1.el hkx) O (by rw[hke];omega)) λc111=>?_);rw[hke];refine XX<|Kl 16 wu wu rfl rfl rfl<|Ju (vs:=[_,_,_,_]) I I I JA I .here tF (λ_ h=>h.1.1) .h4 wW<|XX<|Wa<|QC<|QG<|JC QJ3 mixed wu<|QI (QH I H8 KR)<|QI (Qf I KR .u1 (.skip (.skip (.skip (.skip .h1)))))<|QI (wJ I JA .here)<|QV I (λ_ _ f h=>CD f h.1.1.1.1.1.1.1.1.1.1.1.1.1.1 (h.1.1.1.1.1.1.1.1.1.1.1.1.1.2.us _ hum).cv h.2 (h.1.1.1.1.1.1.1.1.1.1.1.1.1.2.us _ hum).RA hc13 (by have h1:=Zg (Jc (el (el p.ul i5.i).fl 0).r) (Jc (el (UE p.sh p.ul) (el (el p.ul i5.i).fl 0).k.toNat));omega) huo.cv (hL.us _ hum).ca) λc115=>QI (QH I Bv JP)<|QI (Qf I JP .u1 (.skip (.skip (.skip .h1))))<|QV I (λ_ _ f k=>WS (r:=Jc (el p.ul i5.i).st) f k.1.1.1.1.1.1.1.1.1.1.1.1.1.1.1 (Xa huo.st).1 (wm<|(hL.us _ hum).st)) λc118=>QV I (λ_ _ f h=>dU f h.1.2 h.2 (by have:=FV (x:=Jc (el (el p.ul i5.i).fl 0).r*Jc (el (UE p.sh p.ul) (el (el p.ul i5.i).fl 0).k.toNat)) (by have h1:=Zg (Jc (el (el p.ul i5.i).fl 0).r) (Jc (el (UE p.sh p.ul) (el (el p.ul i5.i).fl 0).k.toNat));omega) huo.cv;have:=(h.1.1.1.1.1.1.1.1.1.1.1.1.1.1.1.2.us _ hum).RA;omega) (wm<|Xt huo.st)) λ_=>QI (YD I)<|Qv<|QC ?_
   refine QL I (λhc2=>?_) λhc2=>?_
   ·have hcon:GQ p.sh p.ul (el p.ul i5.i)=true:=by unfold GQ;rw[hkt,Fj huo.st];exact hc2
    refine wA 5 I<|X6 ?_
    exact QL3 I I (congrArg (Value.int .i64) (by rw[Ee,if_neg (Classical.not_not.2 h0),if_neg (Classical.not_not.2 h3),if_neg (Classical.not_not.2 h8),if_neg h7,if_neg h18];first | exact if_pos (i5.hit hlt5 hcon) | exact if_neg (i5.stop hge5))) tB
   have hncon:GQ p.sh p.ul (el p.ul i5.i)=false:=by unfold GQ;rw[hkt,Fj huo.st];exact hc2
   refine QK<|Qa<|QC<|QB<|QA (Qk I I O)<|wB 2 I ?_
   exact Qb (i5.next hlt5 hncon) (by show p.ul.length-(i5.i+1)<p.ul.length-i5.i;omega)
  have hncon:GQ p.sh p.ul (el p.ul i5.i)=false:=by unfold GQ;rw[show((el p.ul i5.i).kd==WR)=false by simpa[WR]using hc2];rfl
  refine QK<|Qa<|QC<|QB<|QA (Qk I I O)<|wB 2 I ?_
  exact Qb (i5.next hlt5 hncon) (by show p.ul.length-(i5.i+1)<p.ul.length-i5.i;omega)
 have hge5:p.ul.length<=i5.i:=wm<|QK9 hc2
 refine Q7 ?_;refine wA 6 I ?_;exact QL3 I I (congrArg (Value.int .i64) (by rw[Ee,if_neg (Classical.not_not.2 h0),if_neg (Classical.not_not.2 h3),if_neg (Classical.not_not.2 h8),if_neg h7,if_neg h18];first | exact if_pos (i5.hit hlt5 hcon) | exact if_neg (i5.stop hge5))) tB
structure MlO(n:Nat) where
 i:Nat
 c:Y1
 le:i<=n
def UX{s:Tm}{B:List Tm}{k:Nat}(h:k<B.length):X7 s (B.take (k+1))=X7 s (B.take k)++[(s.1*(el B k).1,YA s.2 (el B k).2)]:=by
 rw[XF h];unfold X7;rw[List.map_append];rfl
def Qp.Jh{sz n:Nat}{v:Value}{ob:List (Nat×Obj)}(h:Qp T sz v n cs ob):∃q c,v = .slice q n c:=by
 cases h<;>exact⟨_,_,rfl⟩
def QAv(L:List Tm)(t:Tm):J3 (L++[t])=ZU (J3 L) t:=by unfold J3;rw[List.foldl_append];rfl
def kP{A B:List Tm}(h:i<A.length):XL (A.take (i+1)) B=XL (A.take i) B++X7 (el A i) B:=by
 rw[XF h,W5];congr 1;simp[XL]
theorem kQ{A B:List Tm}(k:Nat)(h:i<A.length):∃l,XL A B=(XL (A.take i) B++X7 (el A i) (B.take k))++l:=by
 refine⟨X7 (el A i) (B.drop k)++XL (A.drop (i+1)) B,?_⟩;have e:A=A.take (i+1)++A.drop (i+1):=(List.take_append_drop _ _).symm;have e2:X7 (el A i) B=X7 (el A i) (B.take k)++X7 (el A i) (B.drop k):=by
  rw[<-GW,List.take_append_drop]
 conv=>lhs;rw[e,W5,kP h,e2]
 simp only[List.append_assoc]
end Go.Proofs.YteldggljlnakmaaGreatDoor
