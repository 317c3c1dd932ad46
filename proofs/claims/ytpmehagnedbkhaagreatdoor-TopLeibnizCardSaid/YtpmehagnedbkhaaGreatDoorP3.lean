/- Steps of the proof of the theorem in the last file. -/
import Derived.Test.YtpmehagnedbkhaaGreatDoorP2
import Derived.MapKept
import Derived.Maps.RangeRun
import Derived.Lib.ItoaLen
import Derived.Shelf.SlSortCmp.PdqK
import Derived.Ground.SlsfProg
import Derived.Test.YtpmehagnedbkhaaGreatDoorProg
import Derived.Sort.AssemblyPlain
import Derived.Shelf.SlSortCmp.NoneTotal
import Derived.RangeFuncLeaves
import Derived.RangeFuncSeq
import Derived.OwnWalkIn
import Derived.OrdersIn
import Derived.ChangeKeysEq
set_option linter.all false
set_option maxHeartbeats 4000000
open Go.Proofs.Tryz
namespace Ig
def ZU:List Int->List Int->Bool
 |x::a,y::b=>decide (y<x)||(decide (x=y)&&ZU a b)
 |_::_,[]=>true
 |[],_=>false
def before(a b:List Int):Bool:=decide (b.sum<a.sum)||(decide (a.sum=b.sum)&&ZU a b)
def Db:∀a:List Int,ZU a a=false
 |[]=>rfl
 |x::a=>by simp[ZU,Db a]
def E3:∀ {a b c:List Int},ZU a b=true->ZU b c=true->ZU a c=true
 |[],_,_,h,_=>by simp[ZU]at h
 |_::_,[],_,_,h=>by simp[ZU]at h
 |_::_,_::_,[],_,_=>rfl
 |x::a,y::b,z::c,h,k=>by
  simp only[ZU,Bool.or_eq_true,Bool.and_eq_true,decide_eq_true_eq]at h k ⊢;rcases h with h | ⟨h,h'⟩<;>rcases k with k | ⟨k,k'⟩
  ·left;omega
  ·left;omega
  ·left;omega
  right;exact⟨O,E3 h' k'⟩
def SU:∀a b:List Int,a=b\/ZU a b=true\/ZU b a=true
 |[],[]=>.inl rfl
 |[],_::_=>.inr (.inr rfl)
 |_::_,[]=>.inr (.inl rfl)
 |x::a,y::b=>by
  simp only[ZU,Bool.or_eq_true,Bool.and_eq_true,decide_eq_true_eq,List.cons.injEq];rcases Int.lt_trichotomy x y with h | h | h
  ·right;right;left;omega
  ·rcases SU a b with k | k | k
   ·left;exact⟨h,k⟩
   ·right;left;right;exact⟨h,k⟩
   right;right;right;exact⟨h.symm,k⟩
  right;left;left;omega
def before_irrefl(a:List Int):before a a=false:=by simp[before,Db]
def before_trans{a b c:List Int}(h:before a b=true)(k:before b c=true):before a c=true:=by
 simp only[before,Bool.or_eq_true,Bool.and_eq_true,decide_eq_true_eq]at h k ⊢;rcases h with h | ⟨h,h'⟩<;>rcases k with k | ⟨k,k'⟩
 ·left;omega
 ·left;omega
 ·left;omega
 right;exact⟨O,E3 h' k'⟩
def Vx(a b:List Int):a=b\/before a b=true\/before b a=true:=by
 simp only[before,Bool.or_eq_true,Bool.and_eq_true,decide_eq_true_eq];rcases Int.lt_trichotomy a.sum b.sum with h | h | h
 ·right;right;left;exact h
 ·rcases SU a b with k | k | k
  ·left;exact k
  ·right;left;right;exact⟨h,k⟩
  right;right;right;exact⟨h.symm,k⟩
 right;left;left;exact h
def CR{a b:List Int}(h:before a b=true):a≠b:=by
 rintro rfl;rw[before_irrefl]at h;cases h
abbrev Tm:=Rat×List Int
def Jt:List Tm->List Int->Rat
 |[],_=>0
 |t::p,k=>(if t.2=k then t.1 else 0)+Jt p k
def Kt(p q:List Tm)(k:List Int):Jt (p++q) k=Jt p k+Jt q k:=by
 induction p with
 |nil=>simp[Jt,Rat.zero_add]
 |cons t p ih=>simp only[List.cons_append,Jt,ih,Rat.add_assoc]
structure Canon(p:List Tm):Prop where
 gF:p.Pairwise λx y=>before x.2 y.2=true
 nz:∀t∈p,t.1≠0
def Canon.nil:Canon []:=⟨List.Pairwise.nil,λ_ h=>by cases h⟩
def Canon.tail{t:Tm}{p:List Tm}(h:Canon (t::p)):Canon p:=⟨(List.pairwise_cons.1 h.gF).2,λx hx=>h.nz x (List.mem_cons_of_mem _ hx)⟩
def Ww{p:List Tm}{k:List Int}(h:∀t∈p,t.2≠k):Jt p k=0:=by
 induction p with
 |nil=>rfl
 |cons t p ih=>rw[Jt,if_neg (h t wz),ih (λx hx=>h x (by simp[hx])),Rat.zero_add]
def Canon.head{t:Tm}{p:List Tm}(h:Canon (t::p)):Jt (t::p) t.2=t.1:=by
 rw[Jt,if_pos rfl,Ww,Rat.add_zero];intro x hx e;have:=(List.pairwise_cons.1 h.gF).1 x hx;rw[e,before_irrefl]at this;cases this
def Canon.early{t:Tm}{p:List Tm}(h:Canon (t::p)){k:List Int}(hk:before k t.2=true):Jt (t::p) k=0:=Ww λx hx e=>by
 rcases List.mem_cons.1 hx with rfl | hx
 ·rw[e,before_irrefl]at hk;cases hk
 have:=before_trans hk ((List.pairwise_cons.1 h.gF).1 x hx);rw[e,before_irrefl]at this;cases this
def B1:∀ {p q:List Tm},Canon p->Canon q->(∀k,Jt p k=Jt q k)->p=q
 |[],[],_,_,_=>rfl
 |[],y::q,_,hq,h=>by
  have:=h y.2;rw[hq.head]at this;exact absurd this.symm (hq.nz y wz)
 |x::p,[],hp,_,h=>by
  have:=h x.2;rw[hp.head]at this;exact absurd this (hp.nz x wz)
 |x::p,y::q,hp,hq,h=>by
  rcases Vx x.2 y.2 with e | e | e
  ·have h1:=h x.2;rw[hp.head]at h1;have h2:=hq.head;rw[<-e]at h2;rw[h2]at h1;have hxy:x=y:=Prod.ext h1 e;subst hxy;congr 1;refine B1 hp.tail hq.tail (λk=>?_);have h3:=h k;simp only[Jt]at h3;generalize Jt p k=a at *
   generalize Jt q k=b at *
   grind
  ·have h1:=h x.2;rw[hp.head,hq.early e]at h1;exact absurd h1 (hp.nz x wz)
  have h1:=h y.2;rw[hq.head,hp.early e]at h1;exact absurd h1.symm (hq.nz y wz)
def Xr:List Tm->Tm->List Tm
 |[],t=>if t.1=0 then[]else[t]
 |x::p,t=>if before x.2 t.2=true then x::Xr p t else if x.2=t.2 then(if x.1+t.1=0 then p else(x.1+t.1,t.2)::p)else if t.1=0 then x::p else t::x::p
def Iu(p:List Tm)(t:Tm)(k:List Int):Jt (Xr p t) k=Jt p k+(if t.2=k then t.1 else 0):=by
 induction p with
 |nil =>
  unfold Xr;split
  ·rename_i h;rw[h];simp[Jt,Rat.add_zero]
  simp[Jt,Rat.zero_add,Rat.add_zero]
 |cons x p ih =>
  unfold Xr;split
  ·simp only[Jt,ih,Rat.add_assoc]
  split
  ·rename_i h;split
   ·rename_i h0;simp only[Jt];rw[h];by_cases hk:t.2=k
    ·simp only[hk,if_true];rw[Rat.add_assoc,Rat.add_comm (Jt p k),<-Rat.add_assoc,h0,Rat.zero_add]
    simp only[hk,if_false,Rat.zero_add,Rat.add_zero]
   simp only[Jt];rw[h];by_cases hk:t.2=k
   ·simp only[hk,if_true];rw[Rat.add_assoc,Rat.add_assoc,Rat.add_comm t.1]
   simp only[hk,if_false,Rat.zero_add,Rat.add_zero]
  split
  ·rename_i h0;rw[h0];simp[Rat.add_zero]
  simp only[Jt];rw[Rat.add_comm]
def EM{p:List Tm}{t x:Tm}(h:x∈Xr p t):x∈p\/x.2=t.2:=by
 induction p with
 |nil =>
  unfold Xr at h;split at h
  ·cases h
  simp at h;subst h;exact .inr rfl
 |cons y p ih =>
  unfold Xr at h;split at h
  ·rcases List.mem_cons.1 h with rfl | h
   ·exact .inl wz
   rcases ih h with h | h
   ·exact .inl (by simp[h])
   exact .inr h
  split at h
  ·split at h
   ·exact .inl (by simp[h])
   rcases List.mem_cons.1 h with rfl | h
   ·exact .inr rfl
   exact .inl (by simp[h])
  split at h
  ·exact .inl h
  rcases List.mem_cons.1 h with rfl | h
  ·exact .inr rfl
  exact .inl h
def Canon.Xr{p:List Tm}(h:Canon p)(t:Tm):Canon (Ig.Xr p t):=by
 induction p with
 |nil =>
  unfold Ig.Xr;split
  ·exact Canon.nil
  rename_i h0;exact⟨List.pairwise_singleton _ _,λx hx=>by simp at hx;subst hx;exact h0⟩
 |cons x p ih =>
  have hs:=List.pairwise_cons.1 h.gF;unfold Ig.Xr;split
  ·rename_i hb;have hc:=ih h.tail;refine⟨List.pairwise_cons.2 ⟨λy hy=>?_,hc.gF⟩,λy hy=>?_⟩
   ·rcases EM hy with hy | hy
    ·exact hs.1 y hy
    rw[hy];exact hb
   rcases List.mem_cons.1 hy with rfl | hy
   ·exact h.nz _ wz
   exact hc.nz y hy
  rename_i hb;split
  ·rename_i he;split
   ·exact h.tail
   rename_i h0;refine⟨List.pairwise_cons.2 ⟨λy hy=>?_,hs.2⟩,λy hy=>?_⟩
   ·have:=hs.1 y hy;rw[he]at this;exact this
   rcases List.mem_cons.1 hy with rfl | hy
   ·exact h0
   exact h.nz y (by simp[hy])
  rename_i he;split
  ·exact h
  rename_i h0;have hb':before t.2 x.2=true:=by
   rcases Vx x.2 t.2 with q | q | q
   ·exact absurd q he
   ·exact absurd q hb
   exact q
  refine⟨List.pairwise_cons.2 ⟨λy hy=>?_,h.gF⟩,λy hy=>?_⟩
  ·rcases List.mem_cons.1 hy with rfl | hy
   ·exact hb'
   exact before_trans hb' (hs.1 y hy)
  rcases List.mem_cons.1 hy with rfl | hy
  ·exact h0
  exact h.nz y hy
def JX(l:List Tm):List Tm:=l.foldl Xr []
def Pg(l:List Tm):∀ {p:List Tm},Canon p->Canon (l.foldl Xr p)/\∀k,Jt (l.foldl Xr p) k=Jt p k+Jt l k:=by
 induction l with
 |nil=>intro p h;exact⟨h,λk=>by simp[Jt,Rat.add_zero]⟩
 |cons t l ih =>
  intro p h;obtain⟨h1,h2⟩:=ih (h.Xr t);exact⟨h1,λk=>by rw[List.foldl_cons,h2,Iu,Jt,Rat.add_assoc]⟩
def Zg(l:List Tm):Canon (JX l):=(Pg l Canon.nil).1
def Vv(l:List Tm)(k:List Int):Jt (JX l) k=Jt l k:=by
 rw[JX,(Pg l Canon.nil).2,Jt,Rat.zero_add]
def Zv(p q:List Tm):Prop:=∀k,Jt p k=Jt q k
def Zv.refl(p:List Tm):Zv p p:=λ_=>rfl
def Zv.symm{p q:List Tm}(h:Zv p q):Zv q p:=λk=>(h k).symm
def Zv.trans{p q r:List Tm}(h:Zv p q)(h':Zv q r):Zv p r:=λk=>(h k).trans (h' k)
def Zv.append{p q p' q':List Tm}(h:Zv p p')(h':Zv q q'):Zv (p++q) (p'++q'):=λk=>by rw[Kt,Kt,h,h']
def eqv_norm(l:List Tm):Zv (JX l) l:=λk=>Vv l k
def AI{l m:List Tm}(h:Zv l m):JX l=JX m:=B1 (Zg l) (Zg m) λk=>by rw[Vv,Vv,h]
def AH{p l:List Tm}(hp:Canon p)(h:Zv p l):p=JX l:=B1 hp (Zg l) λk=>by rw[Vv,h]
def PJ{p:List Tm}(hp:Canon p):JX p=p:=(AH hp (Zv.refl p)).symm
def Zv.perm{l m:List Tm}(h:l.Perm m):Zv l m:=by
 intro k
 induction h with
 |nil=>rfl
 |cons x _ ih=>rw[Jt,Jt,ih]
 |swap x y l=>simp only[Jt];rw[<-Rat.add_assoc,<-Rat.add_assoc];congr 1;exact Rat.add_comm _ _
 |trans _ _ h1 h2=>exact h1.trans h2
def Zv.cons{p q:List Tm}(t:Tm)(h:Zv p q):Zv (t::p) (t::q):=λk=>by rw[Jt,Jt,h]
def eqv_zero(t:List Int)(p:List Tm):Zv ((0,t)::p) p:=λk=>by simp[Jt,Rat.zero_add]
def eqv_filter(p:List Tm):Zv (p.filter λt=>decide (t.1≠0)) p:=by
 induction p with
 |nil=>exact Zv.refl _
 |cons t p ih =>
  rw[List.filter_cons];split
  ·exact ih.cons t
  rename_i h;have h0:t.1=0:=by simpa using h
  intro k;rw[Jt,h0,ih k];simp[Rat.zero_add]
def Jq(a b:List Int):List Int:=List.zipWith (·+·) a b
def CZ(a b:List Int):Jq a b=Jq b a:=by
 unfold Jq;rw[List.zipWith_comm];congr 1;funext x y;exact Int.add_comm _ _
def RA:∀a b c:List Int,Jq (Jq a b) c=Jq a (Jq b c)
 |[],_,_=>by simp[Jq]
 |_::_,[],_=>by simp[Jq]
 |_::_,_::_,[]=>by simp[Jq]
 |x::a,y::b,z::c=>by
  have:=RA a b c;simp only[Jq,List.zipWith_cons_cons]at this ⊢;rw[this,Int.add_assoc]
def WT{a b:List Int}(h:a.length=b.length):(Jq a b).length=a.length:=by simp[Jq,h]
def yQ(k a:List Int):List Int:=List.zipWith (· - ·) k a
def MJ:∀ {a b k:List Int},a.length=b.length->(Jq a b=k↔k.length=a.length/\b=yQ k a)
 |[],[],k,_=>by cases k<;>simp[Jq,yQ]
 |x::a,y::b,[],_=>by simp[Jq]
 |x::a,y::b,z::k,h=>by
  have ih:=MJ (a:=a) (b:=b) (k:=k) (by simpa using h);simp only[Jq,yQ,List.zipWith_cons_cons,List.cons.injEq,List.length_cons,Nat.add_right_cancel_iff]at ih ⊢;rw[ih];constructor
  ·rintro⟨h1,h2,h3⟩;exact⟨h2,O,h3⟩
  rintro⟨h1,h2,h3⟩;exact⟨O,h1,h3⟩
def Jf(s:Tm)(q:List Tm):List Tm:=q.map λt=>(s.1*t.1,Jq s.2 t.2)
def JC(p q:List Tm):List Tm:=p.flatMap λs=>Jf s q
def Xw(n:Nat)(p:List Tm):Prop:=∀t∈p,t.2.length=n
def Xw.append{n:Nat}{p q:List Tm}(h:Xw n p)(k:Xw n q):Xw n (p++q):=λt ht=>by
 rcases List.mem_append.1 ht with ht | ht
 ·exact h t ht
 exact k t ht
def Xw.tail{n:Nat}{t:Tm}{p:List Tm}(h:Xw n (t::p)):Xw n p:=λx hx=>h x (by simp[hx])
def Xw.Jf{n:Nat}{s:Tm}{q:List Tm}(hs:s.2.length=n)(h:Xw n q):Xw n (Ig.Jf s q):=λt ht=>by
 obtain⟨u,hu,rfl⟩:=List.mem_map.1 ht;show(Jq s.2 u.2).length=n;rw[WT (by rw[hs,h u hu]),hs]
def Xw.JC{n:Nat}{p q:List Tm}(h:Xw n p)(k:Xw n q):Xw n (Ig.JC p q):=λt ht=>by
 obtain⟨s,hs,ht⟩:=List.mem_flatMap.1 ht;exact k.Jf (h s hs) t ht
def Xw.Xr{n:Nat}{p:List Tm}{t:Tm}(h:Xw n p)(ht:t.2.length=n):Xw n (Ig.Xr p t):=λx hx=>by
 rcases EM hx with hx | hx
 ·exact h x hx
 rw[hx];exact ht
def Xw.JX{n:Nat}{l:List Tm}(h:Xw n l):Xw n (Ig.JX l):=by
 have:∀(l p:List Tm),Xw n p->Xw n l->Xw n (l.foldl Ig.Xr p):=by
  intro l
  induction l with
  |nil=>intro p hp _;exact hp
  |cons t l ih=>intro p hp hl;exact ih _ (hp.Xr (hl t wz)) hl.tail
 exact this l [] (λ_ h=>by cases h) h
def MF{n:Nat}{s:Tm}{q:List Tm}(hs:s.2.length=n)(h:Xw n q)(k:List Int):Jt (Jf s q) k=if k.length=n then s.1*Jt q (yQ k s.2)else 0:=by
 induction q with
 |nil=>simp[Jf,Jt,Rat.mul_zero]
 |cons t q ih =>
  have ht:t.2.length=n:=h t wz;have hk:=MJ (a:=s.2) (b:=t.2) (k:=k) (by rw[hs,ht]);rw[Jf,List.map_cons,Jt];show(if Jq s.2 t.2=k then s.1*t.1 else 0)+Jt (Jf s q) k=_;rw[ih h.tail];by_cases hl:k.length=n
  ·rw[if_pos hl,if_pos hl,Jt,Rat.mul_add];congr 1;by_cases e:Jq s.2 t.2=k
   ·rw[if_pos e,if_pos (hk.1 e).2]
   rw[if_neg e,if_neg (λq=>e (hk.2 ⟨by rw[hl,hs],q⟩)),Rat.mul_zero]
  rw[if_neg hl,if_neg hl,if_neg (λe=>hl (by rw[(hk.1 e).1,hs])),Rat.zero_add]
def XK(s:Tm)(p q:List Tm):JC (s::p) q=Jf s q++JC p q:=by simp[JC]
def Zv.gP{n:Nat}{p q q':List Tm}(hp:Xw n p)(hq:Xw n q)(hq':Xw n q')(h:Zv q q'):Zv (JC p q) (JC p q'):=by
 induction p with
 |nil=>exact Zv.refl _
 |cons s p ih =>
  rw[XK,XK];refine Zv.append (λk=>?_) (ih hp.tail);rw[MF (hp s wz) hq,MF (hp s wz) hq',h]
def Bf(p q:List Tm):(JC p q).Perm (JC q p):=by
 induction p with
 |nil =>
  have:JC q []=[]:=by simp[JC,Jf]
  rw[this];exact List.Perm.refl _
 |cons s p ih =>
  rw[XK];refine(List.Perm.append_left _ ih).trans ?_;clear ih
  induction q with
  |nil=>exact List.Perm.refl _
  |cons t q ih =>
   rw[XK,XK];show((s.1*t.1,Jq s.2 t.2)::(Jf s q++(Jf t p++JC q p))).Perm ((t.1*s.1,Jq t.2 s.2)::(Jf t p++JC q (s::p)));rw[Rat.mul_comm t.1,CZ t.2];refine List.Perm.cons _ ?_;refine List.Perm.trans ?_ (List.Perm.append_left _ ih);rw[<-List.append_assoc,<-List.append_assoc];exact List.Perm.append_right _ List.perm_append_comm
def Zv.prod{n:Nat}{p p' q q':List Tm}(hp:Xw n p)(hp':Xw n p')(hq:Xw n q)(hq':Xw n q')(h:Zv p p')(k:Zv q q'):Zv (JC p q) (JC p' q') :=
 (Zv.gP hp hq hq' k).trans ((Zv.perm (Bf p q')).trans ((Zv.gP hq' hp hp' h).trans (Zv.perm (Bf q' p'))))
def RW(s t:Tm)(q:List Tm):Jf s (Jf t q)=Jf (s.1*t.1,Jq s.2 t.2) q:=by
 simp only[Jf,List.map_map];congr 1;funext u;simp[Rat.mul_assoc,RA]
def Wb(s:Tm)(p q:List Tm):Jf s (p++q)=Jf s p++Jf s q:=by simp[Jf]
def S5(s:Tm)(p q:List Tm):Jf s (JC p q)=JC (Jf s p) q:=by
 induction p with
 |nil=>rfl
 |cons t p ih =>
  rw[XK,Wb,ih,RW];show _=JC ((s.1*t.1,Jq s.2 t.2)::Jf s p) q;rw[XK]
def VP(p p' q:List Tm):JC (p++p') q=JC p q++JC p' q:=by simp[JC]
def Uy(p q r:List Tm):JC (JC p q) r=JC p (JC q r):=by
 induction p with
 |nil=>rfl
 |cons s p ih=>rw[XK,VP,ih,XK,S5]
end Ig
namespace Go.Proofs.YtpmehagnedbkhaaGreatDoor
variable{a b l:List Int}{N c cap i j k m n:Nat}{w:World}{F F':Gs}{q:Option Addr}{P:Program}{et kt:TypeId}{x y:Operand}{seen:List Nat}{g:FuncId}{bs:List (Rat×Rat)}{f:List UInt8}{s:Sr}{bl:List Bool}{R:Ending->World->Prop}{ι:Type}{fn:Func}
open Go.RowKit Ig
section
variable[Dr]
def PW(l:List Int):Prop:=(∀x∈l,0<=x/\x<=1000000)/\l.length<=1000
theorem PW.el(h:PW l){i:Nat}(hi:i<l.length):0<=Qd l i/\Qd l i<=1000000:=by rw[Zk hi];exact h.1 _ (JK hi)
theorem Nw(hi:i<l.length):(l.take (i+1)).sum=(l.take i).sum+Qd l i:=by
 rw[Xg hi,List.sum_append,Zk hi];simp
theorem PW.sum(h:PW l):∀i,i<=l.length->0<=(l.take i).sum/\(l.take i).sum<=i*1000000:=by
 intro i
 induction i with
 |zero=>intro _;simp
 |succ i ih =>
  intro hi;have h1:=ih O;have h2:=h.el (i:=i) O;rw[Nw O];omega
theorem LL(l:List Int):Qn l=Qn (l.map λx=>x):=by rw[List.map_id']
def Fe:List Int->List Int->Int
 |[],[]=>0
 |[],_::_=>-1
 |_::_,[]=>1
 |x::a,y::b=>if Za x y≠0 then Za x y else Fe a b
theorem LG:∀a b:List Int,(Fe b a<0↔ZU a b=true)/\(Fe b a=0↔a=b)
 |[],[]=>by simp[Fe,ZU]
 |[],_::_=>by simp[Fe,ZU]
 |_::_,[]=>by simp[Fe,ZU]
 |x::a,y::b=>by
  have ih:=LG a b;unfold Fe ZU Za;by_cases h1:y<x
  ·simp[h1];omega
  by_cases h2:y=x
  ·subst h2;simp[ih.1,ih.2]
  have h3:¬x=y:=λe=>h2 e.symm;simp[h1,h2,h3]
theorem M5(x y:Int):Lib.compareInt x y=Za x y:=by
 unfold Lib.compareInt Za;by_cases h1:x<y
 ·simp[h1]
 by_cases h2:x=y
 ·subst h2;simp
 have h3:y<x:=O;simp[h1,h2,h3]
def WR(a b:List Int):Int:=Qn [Za b.sum a.sum,Fe b a]
theorem WQ(a b:List Int):before a b=decide (WR a b<0):=by
 obtain⟨h1,h2⟩:=LG a b;unfold before WR;rw[Bool.eq_iff_iff,decide_eq_true_iff];simp only[Qn];by_cases h:b.sum<a.sum
 ·have e:Za b.sum a.sum = -1:=by unfold Za;rw[if_pos h]
  rw[e];simp[h]
 by_cases g:b.sum=a.sum
 ·have e:Za b.sum a.sum=0:=by unfold Za;rw[if_neg h,if_pos g]
  rw[e];by_cases k:Fe b a=0
  ·have hf:ZU a b=false:=by cases hl:ZU a b with
    |false=>rfl
    |true=>have:=h1.2 hl;omega
   simp[k,g,hf]
  simp[k,g,h1]
 have e:Za b.sum a.sum=1:=by unfold Za;rw[if_neg h,if_neg g]
 have g2:¬a.sum=b.sum:=λe=>g e.symm;rw[e];simp[h,g2]
def Y0(l:List Int):List UInt8:=l.flatMap λx=>Lib.itoa x++[32]
theorem Wq(x:Int)(l:List Int):Y0 (x::l)=XV x++32::Y0 l:=by unfold Y0;rw[List.flatMap_cons];simp[XV]
theorem Dc:∀ {a b:List Int},Y0 a=Y0 b->a=b
 |[],[],_=>rfl
 |[],y::b,h=>by rw[Wq]at h;simp[Y0]at h
 |x::a,[],h=>by rw[Wq]at h;simp[Y0]at h
 |x::a,y::b,h=>by
  rw[Wq,Wq]at h;have h1:=G8 (c:=32) (a:=XV x) (b:=Y0 a) (DW x wu wu);have h2:=G8 (c:=32) (a:=XV y) (b:=Y0 b) (DW y wu wu);rw[h,h2]at h1;simp only[Prod.mk.injEq,and_true]at h1;have e:x=y:=by rw[<-ZS x,<-ZS y,h1.1]
  rw[e,Dc h1.2.symm]
theorem By{r:Sr}(hF:Fits F w)(hR:JP F r l)(hp:PW l):Qb prog 145 [r.v] w F (.int .i64 l.sum):=by
 obtain⟨q,n,c⟩:=r;have hln:=hR.2.1;dsimp only[Sr.v]at hln ⊢;have hl1:=hp.2;refine QU.intro (G:=λF=>JP F ⟨q,n,c⟩ l) func145 rfl wy rfl rfl hF (λF' hF'=>hR.le hF')<|QGi<|wQ rfl<|QGi<|wQ rfl<|QG<|wR rfl<|QA (Qf rfl Qk)<|QF5 rfl<|QF4<|QS<|J2 (ι:={i:Nat // i<=l.length}) [(6,_),(7,_)] (λi=>[(3,.int .i64 ((l.take i.1).sum)),(8,.int .i64 ((i.1:Nat):Int))]) (λi=>l.length-i.1) (⟨0,Nat.zero_le _⟩) wT wT λi=>?_
 simp only[List.cons_append,List.nil_append];have hi:=i.2;have hs:=hp.sum i.1 hi;refine wA 6 I ?_;refine QP I (λhc=>?_) λhc=>?_
 ·have hlt:i.1<l.length:=wk<|QGx hc
  have he:=hp.el hlt;refine QHC 6 I<|QA (Q2 (n:=n) (i.1) (λF hR=>(hR).1) rfl rfl Qk Qu O)<|QA (Qz (n:=n) ((i.1)*1) (λF hR=>(hR).1) O I Qu (JH (o:=l) O))<|QHB 6 I<|QA (Qm I I O)<|wB 2 I<|Qi<|QD<|QB<|QA (Qm I I O)<|wB 2 I ?_
  exact Qj (⟨i.1+1,hlt⟩) (by show l.length-(i.1+1)<l.length-i.1;omega) ⟨rfl,rfl,(congrArg (λz:Int=>some (Value.int .i64 z)) (Nw hlt).symm),rfl,trivial⟩ QGJ w9
 have hge:i.1=l.length:=wk<|QGy hc
 refine Qv ?_
 repeat first|refine QV ?_|refine QQ wy ?_
 refine QW<|QHD 8 I ?_
 exact QHT I I (congrArg (Value.int .i64) (by rw[List.take_of_length_le O])) w8
theorem y6(hF:Fits F w)(hR:Qy F q n 1 (l.map Q7))(hn:n<=1000000000):Qb prog 143 [.slice q n c] w F (.int .i64 (Qn l)):=by
 have hln:l.length=n:=by have:=hR.1;simpa using this
 have em:l=l.map (λx=>x):=wz;refine QU.intro (G:=λF=>Qy F q n 1 (l.map Q7)) func143 rfl wy rfl rfl hF (λF' hF'=>hR.le hF')<|QGi<|wQ rfl<|QGi<|wQ rfl<|QG<|wR rfl<|QA (Qf rfl Qk)<|QF5 rfl<|QF4<|QS<|J2 (ι:=Zc l λx=>x) [(3,_),(6,_),(7,_)] (λi=>[(8,.int .i64 ((i.i:Nat):Int))]) (λi=>l.length-i.i) (Zc.start _ _) wU wS λi=>?_
 simp only[List.cons_append,List.nil_append];have hi:=i.le;refine wA 6 I ?_;refine QP I (λhc=>?_) λhc=>?_
 ·have hlt:i.i<l.length:=wk<|QGx hc
  refine QHC 6 I<|QA (Q2 (n:=n) i.i w9 rfl rfl Qk Qu O)<|QA (Qz (n:=n) ((i.i)*1) w9 O I Qu (JH (o:=l) O))<|QHB 10 I ?_
  refine QP I (λhc=>?_) λhc=>?_
  ·refine wA 7 I ?_
   repeat first|refine Qw ?_|refine Qp ?_
   exact QHT I I (congrArg (Value.int .i64) (by rw[Zk hlt,LL l];exact i.hit hlt (by rw[<-Zk hlt];simpa using hc))) w8
  refine QM<|Qi<|QD<|QB<|QA (Qm I I O)<|wB 2 I ?_
  exact Qj (i.next hlt (by rw[<-Zk hlt];simpa using hc)) (by show l.length-(i.i+1)<l.length-i.i;omega) wV QGJ w9
 have hge:l.length<=i.i:=wk<|QGy hc
 refine Qv ?_
 repeat first|refine QV ?_|refine QQ wy ?_
 refine QW<|QHD 8 I ?_
 exact QHT I I (congrArg (Value.int .i64) (by rw[LL l];exact i.stop hge)) w8
structure uh(a b:List Int) where
 i:Nat
 la:i<=a.length
 lb:i<=b.length
 h:Fe a b=Fe (a.drop i) (b.drop i)
theorem uh.cons(s:uh a b)(ha:s.i<a.length)(hb:s.i<b.length):Fe a b=if Za (Qd a s.i) (Qd b s.i)≠0 then Za (Qd a s.i) (Qd b s.i)else Fe (a.drop (s.i+1)) (b.drop (s.i+1)):=by
 rw[s.h,XH ha,XH hb,Fe]
theorem Ub{ra rb:Sr}(hF:Fits F w)(hA:JP F ra a)(hB:JP F rb b)(la:a.length<=1000000)(lb:b.length<=1000000):Qb prog 146 [ra.v,rb.v] w F (.int .i64 (Fe a b)):=by
 obtain⟨q,n,c⟩:=ra;obtain⟨q',n',c'⟩:=rb;have na:=hA.2.1;have nb:=hB.2.1;dsimp only[Sr.v]at na nb ⊢;refine QU.intro (G:=λF=>JP F ⟨q,n,c⟩ a/\JP F ⟨q',n',c'⟩ b) func146 rfl wy rfl rfl hF (λF' hF'=>⟨hA.le hF',hB.le hF'⟩)<|QGi<|wQ rfl<|QG<|wR rfl<|QA (Qf rfl Qk)<|QF5 rfl<|QF4<|QS<|J2 (ι:=uh a b) [(0,_),(1,_),(9,_),(10,_)] (λi=>[(11,.int .i64 ((i.i:Nat):Int))]) (λi=>a.length-i.i) (⟨0,Nat.zero_le _,Nat.zero_le _,rfl⟩) wV wS λi=>?_
 simp only[List.cons_append,List.nil_append];have hla:=i.la;have hlb:=i.lb;refine wA 6 I ?_;refine QP I (λhc=>?_) λhc=>?_
 ·have hlt:i.i<a.length:=wk<|QGx hc
  refine QHC 7 I<|QA (Q2 (n:=n) i.i (λF h9=>(h9.1).1) rfl rfl Qk Qu O)<|QA (Qz (n:=n) ((i.i)*1) (λF h9=>(h9.1).1) O I Qu (JH (o:=a) O))<|QHB 9 I<|QA (Qf I Qk)<|QHB 3 I ?_
  refine QP I (λhc=>?_) λhc=>?_
  ·have hge2:b.length<=i.i:=wk<|QGx hc
   refine wA 6 I ?_
   repeat first|refine Qw ?_|refine Qp ?_
   exact QHT I I (congrArg (Value.int .i64) (by rw[i.h,XH hlt,List.drop_of_length_le hge2];rfl)) w8
  have hlt2:i.i<b.length:=wk<|QGy hc
  refine QHC 6 I<|QA (Q2 (n:=n') i.i (λF h9=>(h9.2).1) rfl rfl Qk Qu O)<|QA (Qz (n:=n') ((i.i)*1) (λF h9=>(h9.2).1) O I Qu (JH (o:=b) O))<|QHB 7 I<|QJ I (λ_ _ f k=>Dq f ) λ_=>QHB 9 I ?_
  refine QP I (λhc=>?_) λhc=>?_
  ·refine wA 7 I ?_
   repeat first|refine Qw ?_|refine Qp ?_
   exact QHT I I (congrArg (Value.int .i64) (by rw[i.cons hlt hlt2,if_pos (by rw[<-M5];simpa using hc),M5])) w8
  refine QM<|Qi<|QD<|QB<|QA (Qm I I O)<|wB 2 I ?_
  exact Qj (⟨i.i+1,hlt,hlt2,by rw[i.cons hlt hlt2,if_neg (by rw[<-M5];simpa using hc)]⟩) (by show a.length-(i.i+1)<a.length-i.i;omega) wW QGJ tA
 have hge:a.length<=i.i:=wk<|QGy hc
 refine Qv ?_
 repeat first|refine QV ?_|refine QQ wy ?_
 refine QW<|QHD 5 I<|QA (Qf I Qk)<|QF5 I<|QA (Qf I Qk)<|QHB 3 I ?_
 refine QP I (λhc=>?_) λhc=>?_
 ·have hlt3:=QGx hc;refine wA 6 I ?_;exact QHT I I (congrArg (Value.int .i64) (by rw[i.h,List.drop_of_length_le hge,XH (l:=b) (k:=i.i) O];rfl)) w8
 have hlt3:=QGy hc;refine QHC 8 I ?_;exact QHT I I (congrArg (Value.int .i64) (by rw[i.h,List.drop_of_length_le hge,List.drop_of_length_le O];rfl)) w8
theorem Bi{ra rb:Sr}(hF:Fits F w)(hA:JP F ra a)(hB:JP F rb b)(pa:PW a)(pb:PW b):Qb prog 51 [ra.v,rb.v] w F (.int .i64 (WR a b)):=by
 have la:=pa.2;have lb:=pb.2;dsimp only[Sr.v];refine QU.intro (G:=λF=>JP F ra a/\JP F rb b) func51 rfl wy rfl rfl hF (λF' hF'=>⟨hA.le hF',hB.le hF'⟩)<|QGi<|wQ rfl<|wR rfl<|QJ rfl (λ_ _ f k=>By f (r:=rb) k.2 (pb)) λ_=>QF5 rfl<|QJ rfl (λ_ _ f k=>By f (r:=ra) k.1.1 (pa)) λ_=>QJ rfl (λ_ _ f k=>Dq f ) λ_=>?_
 rw[M5];refine wB 2 I<|QJ I (λ_ _ f k=>Ub f (ra:=rb) (rb:=ra) k.1.1.1.2 (k.1.1.1.1) O O) λ_=>Qs I (JU Qk) Qu BR I I λb13=>QJ I (λ_ _ f k=>y6 f (Qy.of (cs:=List.map Q7 [Za b.sum a.sum,Fe b a]) k.2 I) wu) λ_=>wQ I<|QT ?_
 exact QHT I I (rfl) w8
end
def XS{κ:Type}(K:κ->Value):List (κ×Value)->Nat->List MapEntry
 |[],_=>[]
 |x::l,i=>⟨K x.1,x.2,i⟩::XS K l (i+1)
def ZF{κ:Type}(K:κ->Value)(l:List (κ×Value)):Obj:=.map (XS K l 0).toArray l.length
def YA{κ:Type}[DecidableEq κ]:List (κ×Value)->κ->Nat->Option (Nat×Value)
 |[],_,_=>none
 |x::l,k,i=>if k=x.1 then some (i,x.2)else YA l k (i+1)
def DV{κ:Type}[DecidableEq κ]:List (κ×Value)->κ->Value->List (κ×Value)
 |[],k,v=>[(k,v)]
 |x::l,k,v=>if k=x.1 then(k,v)::l else x::DV l k v
structure Tz(P:Program)(kt:TypeId){κ:Type}[DecidableEq κ](K:κ->Value):Prop where
 chk:∀e w k,(Instr.checkKey e 10000 kt (K k)).run P w = .ok () w
 find:∀w k (l:List (κ×Value)),(Instr.findKey kt (K k) (XS K l 0)).run P w = .ok (YA l k 0) w
 same:∀k,Instr.sameBits 10000 (K k) (K k)=true
section
variable{κ:Type}{K:κ->Value}
def EW:∀(l:List (κ×Value)) i,(XS K l i).length=l.length
 |[],_=>rfl
 |_::l,i=>by simp[XS,EW l]
theorem Po:∀(l:List (κ×Value)) i k v,XS K (l++[(k,v)]) i=XS K l i++[⟨K k,v,i+l.length⟩]
 |[],i,k,v=>by simp[XS]
 |x::l,i,k,v=>by
  simp only[List.cons_append,XS,Po l,List.length_cons];rw[show i+1+l.length=i+(l.length+1)from by omega]
def Wu:∀(l:List (κ×Value)) (i j:Nat),(XS K l i)[j]?=l[j]?.map λx=>(⟨K x.1,x.2,i+j⟩:MapEntry)
 |[],_,_=>by simp[XS]
 |x::l,i,0=>by simp[XS]
 |x::l,i,j+1=>by
  simp only[XS,List.getElem?_cons_succ,Wu l];rw[show i+1+j=i+(j+1)from by omega]
theorem Sf:∀(l:List (κ×Value)) i j k v,XS K (l.set j (k,v)) i=(XS K l i).modify j λe=>{ e with key:=K k,val:=v }
 |[],_,_,_,_=>by simp[XS]
 |x::l,i,0,k,v=>by simp[XS]
 |x::l,i,j+1,k,v=>by simp[XS,Sf l]
theorem Br:∀(l:List (κ×Value)) i,∀e∈XS K l i,i<=e.born/\e.born<i+l.length
 |[],_,e,h=>by cases h
 |x::l,i,e,h=>by
  simp only[XS,List.mem_cons]at h;rcases h with rfl | h
  ·simp
  have:=Br l (i+1) e h;simp only[List.length_cons];omega
theorem MC:∀(l:List (κ×Value)) i,((XS K l i).map (·.born)).Nodup
 |[],_=>List.nodup_nil
 |x::l,i=>by
  simp only[XS,List.map_cons];refine List.nodup_cons.2 ⟨λh=>?_,MC l (i+1)⟩;obtain⟨e,he,h⟩:=List.mem_map.1 h;have:=(Br l (i+1) e he).1;omega
variable[DecidableEq κ]
theorem Bn:∀ {l:List (κ×Value)} {k i j v},YA l k i=some (j,v)->i<=j/\j-i<l.length/\l[j-i]?=some (k,v)
 |[],_,_,_,_,h=>by cases h
 |x::l,k,i,j,v,h=>by
  simp only[YA]at h;split at h
  ·rename_i e;cases h;subst e;simp
  obtain⟨h1,h2,h3⟩:=Bn h;refine⟨O,by simp only[List.length_cons];omega,?_⟩;rw[show j-i=(j-(i+1))+1 from by omega,List.getElem?_cons_succ];exact h3
theorem SF:∀ {l:List (κ×Value)} {k v i},YA l k i=none->DV l k v=l++[(k,v)]
 |[],_,_,_,_=>rfl
 |x::l,k,v,i,h=>by
  simp only[YA]at h;split at h
  ·cases h
  rename_i e;simp only[DV,if_neg e,List.cons_append,SF h]
theorem SE:∀ {l:List (κ×Value)} {k v i j u},YA l k i=some (j,u)->DV l k v=l.set (j-i) (k,v)
 |[],_,_,_,_,_,h=>by cases h
 |x::l,k,v,i,j,u,h=>by
  simp only[YA]at h;split at h
  ·rename_i e;cases h;simp[DV,e]
  rename_i e;have:=(Bn h).1;simp only[DV,if_neg e,SE h];rw[show j-i=(j-(i+1))+1 from by omega];rfl
end
def F3(a b:List UInt8):Instr.sameNow .string (tx a) (tx b)=some (decide (a=b)):=by
 show some ((⟨a.toArray⟩:ByteArray)==⟨b.toArray⟩)=_;congr 1;rw[Bool.eq_iff_iff,decide_eq_true_iff,MapKept.bytes_beq];constructor
 ·intro h;cases h;rfl
 intro h;rw[h]
theorem Ph(k:List UInt8):∀(l:List (List UInt8×Value)) (i n:Nat),Instr.findNow .string (tx k) (XS tx l n) i=some (YA l k i)
 |[],_,_=>rfl
 |x::l,i,n=>by
  simp only[XS,Instr.findNow,F3,YA];by_cases h:k=x.1
  ·simp[h]
  simp[h,Ph k l]
theorem Tz.str(h:P.underlying kt=some .string):Tz P kt tx where
 chk:=λe w k=>MapKept.run_checkKey (k:=tx k) h (by simp[MapKept.IsKey,tx]) e 9999
 find:=λw k l=>MapKept.run_findKey h (Ph k l 0 0)
 same:=λk=>by
  show(ByteArray.mk k.toArray==ByteArray.mk k.toArray)=true;rw[MapKept.bytes_beq]
def zvB(P:Program)(T:TypeId):Option Value:=match P.info? T with
 |some i=>i.zero
 |none=>none
theorem yD{T:TypeId}{z:Value}(h:zvB P T=some z)(w:World):(zeroValue T).run P w = .ok z w:=by
 unfold zvB at h;split at h
 ·rename_i i hi;simp[zeroValue,typeInfo,hi,h]
 cases h
def AS(P:Program)(T kt et:TypeId):Bool:=match P.underlying T with | some (.map k e)=>Nat.beq k kt&&Nat.beq e et | _=>false
def TW{T:TypeId}(h:AS P T kt et=true):P.underlying T=some (.map kt et):=by
 unfold AS at h;split at h
 ·rename_i e;simp only[Bool.and_eq_true]at h;have h1:=Nat.eq_of_beq_eq_true h.1;have h2:=Nat.eq_of_beq_eq_true h.2;rw[e,h1,h2]
 cases h
section
variable[Dr][df:Df]{P:Program}{Q:Exit->Act->World->Prop}{N:Nat}{m:Sl}{E E0:Env}{ops:Array Oper}{l:List Oper}{w0:World}{F0:Gs}{bs:List (Nat×Obj)}{G:Gs->Prop}{d:Nat}{ty:TypeId}{pos:String}{aft:Array Edge}
theorem V3{κ:Type}(K:κ->Value){T:TypeId}(k:∀b,JS P ops Q l N ((d,.map (some b))::m) ⟨w0,F0,(b,ZF K [])::bs,G⟩)(hd:J6 N (some d)=true:=by rfl):
  JS P ops Q (⟨some d,.makeMap T none,ty,pos,aft,none⟩::l) N m ⟨w0,F0,bs,G⟩:=λa w ha hw=>by
 have hrun:(execOp a.eval ⟨some d,.makeMap T none,ty,pos,aft,none⟩).run P w = .ok (.value (.map (some w.heap.size))) (w.alloc (.map #[] 0)):=by
  simp[execOp,Instr.makeMap]
 exact wpList_plain rfl λKk hK=>upon_value hrun (hK _ _ (k _ _ _ (ha.put hd _) (hw.alloc _ λc fr e=>by cases e)))
variable{κ:Type}[DecidableEq κ]{K:κ->Value}{kv:List (κ×Value)}{b:Nat}{f:Obj->List (Nat×Obj)}
theorem Ut{T:TypeId}{k:κ}{v:Value}(hq:Tz P kt K)(hx:ev m x=some (.map (some b)))(hy:ev m y=some (K k))(ht:AS P T kt et=true)(ho:Own bs b (ZF K kv) f)(hf:YA kv k 0=some (i,v)):
  Qt P N m (St ⟨w0,F0,bs,G⟩) (.lookup T x y true) ty (.tuple #[v,.bool true]):=λa w _ _ _ _ ha hw=>by
 have hb:=hw.own ho;unfold ZF at hb;have hu:=TW ht;simp[execOp,ha.ev hx,ha.ev hy,Instr.lookup,run_underlying hu,MapKept.run_getObj_map hb,hq.chk,hq.find,hf]
theorem SB{T:TypeId}{k:κ}{z:Value}(hq:Tz P kt K)(hx:ev m x=some (.map (some b)))(hy:ev m y=some (K k))(ht:AS P T kt et=true)(hz:zvB P et=some z)(ho:Own bs b (ZF K kv) f)(hf:YA kv k 0=none):
  Qt P N m (St ⟨w0,F0,bs,G⟩) (.lookup T x y true) ty (.tuple #[z,.bool false]):=λa w _ _ _ _ ha hw=>by
 have hb:=hw.own ho;unfold ZF at hb;have hu:=TW ht;simp[execOp,ha.ev hx,ha.ev hy,Instr.lookup,run_underlying hu,MapKept.run_getObj_map hb,hq.chk,hq.find,hf,yD hz]
theorem Hu{T:TypeId}{z:Operand}{k:κ}{v:Value}(hq:Tz P kt K)(hx:ev m x=some (.map (some b)))(hy:ev m y=some (K k))(hz:ev m z=some v)(ht:AS P T kt et=true)(ho:Own bs b (ZF K kv) f)
  (kk:JS P ops Q l N m ⟨w0,F0,f (ZF K (DV kv k v)),G⟩):JS P ops Q (⟨none,.mapUpdate T x y z,ty,pos,aft,none⟩::l) N m ⟨w0,F0,bs,G⟩:=λa w ha hw=>by
 have hb:=hw.own ho;obtain⟨pre,post,e1,e2⟩:=ho.split;subst e1;rw[e2]at kk;have hu:=TW ht;have hb':=hb;unfold ZF at hb';have hrun:(execOp a.eval ⟨none,.mapUpdate T x y z,ty,pos,aft,none⟩).run P w = .ok .skip { w with heap:=w.heap.setIfInBounds b (ZF K (DV kv k v)) }:=by
  cases hf:YA kv k 0 with
  |none =>
   have e:ZF K (DV kv k v) = .map ((XS K kv 0).toArray.push ⟨K k,v,kv.length⟩) (kv.length+1):=by
    rw[SF hf];simp[ZF,Po]
   rw[e];simp[execOp,ha.ev hx,ha.ev hy,ha.ev hz,Instr.mapUpdate,run_underlying hu,MapKept.run_getObj_map hb',hq.chk,hq.find,hf,MapKept.run_setObj_map _ hb']
  |some r =>
   obtain⟨i,u⟩:=r;obtain⟨_,h2,h3⟩:=Bn hf;rw[Nat.sub_zero]at h2 h3;have e:ZF K (DV kv k v) = .map ((XS K kv 0).toArray.modify i λe=>{ e with key:=K k,val:=v }) kv.length:=by
    rw[SE hf];unfold ZF;rw[Nat.sub_zero,Sf,List.length_set];congr 1;apply Array.ext';simp
   have hk:((((XS K kv 0).toArray[i]?).map (·.key)).getD (K k))=K k:=by
    simp[Wu,h3]
   rw[e];simp only[execOp,ha.ev hx,ha.ev hy,ha.ev hz,Instr.mapUpdate,Sem.run_bind,run_underlying hu,MapKept.run_getObj_map hb',hq.chk,hq.find,hf,Result.andThen_ok,hk,Instr.keyThatStays,hq.same,if_true,Sem.run_pure,MapKept.run_setObj_map _ hb']
 exact wpList_plain rfl λKk hK=>upon_skip hrun (hK _ _ (kk _ _ ha (hw.write pre ⟨rfl,rfl,rfl,rfl,rfl⟩ λc fr e=>by cases e)))
def uD(kv:List (κ×Value))(K:κ->Value):Option Nat->Array Value
 |some j=>match kv[j]? with
  |some p=>#[.bool true,K p.1,p.2]
  |none=>#[.bool true]
 |none=>#[.bool false]
def nxS(seen:List Nat):Option Nat->List Nat
 |some j=>seen++[j]
 |none=>seen
def nxP(n:Nat)(seen:List Nat):Option Nat->Prop
 |some j=>j<n/\j∉seen
 |none=>∀j,j<n->j∈seen
omit [DecidableEq κ] in
theorem gh(x:Option Nat):(uD kv K x)[0]?=some (.bool x.isSome):=by
 cases x with
 |none=>rfl
 |some j =>
  simp only[uD]
  cases kv[j]?<;>rfl
def Ln(b n:Nat)(seen:List Nat):Obj:=.mapIter (some b) n seen.toArray n
omit [DecidableEq κ] in
theorem MT{T:TypeId}(hx:ev m x=some (.map (some b)))(ht:AS P T kt et=true)(ho:Own bs b (ZF K kv) f)(k:∀r,JS P ops Q l N ((d,.pointer (some ⟨r,0,none⟩))::m) ⟨w0,F0,(r,Ln b kv.length [])::bs,G⟩)(hd:J6 N (some d)=true:=by rfl):
  JS P ops Q (⟨some d,.range T x,ty,pos,aft,none⟩::l) N m ⟨w0,F0,bs,G⟩:=λa w ha hw=>by
 have hb:=hw.own ho
 unfold ZF at hb
 have hrun:(execOp a.eval ⟨some d,.range T x,ty,pos,aft,none⟩).run P w = .ok (.value (.pointer (some ⟨w.heap.size,0,none⟩))) (w.alloc (Ln b kv.length [])):=by
  simp[execOp,ha.ev hx,run_range_map w T kt et b _ _ (TW ht) hb,Ln]
 exact wpList_plain rfl λKk hK=>upon_value hrun (hK _ _ (k _ _ _ (ha.put hd _) (hw.alloc _ λc fr e=>by cases e)))
omit [DecidableEq κ] in
theorem RD{r:Nat}{g:Obj->List (Nat×Obj)}(hx:ev m x=some (.pointer (some ⟨r,0,none⟩)))(hr:Own bs r (Ln b kv.length seen) g)(ho:Own bs b (ZF K kv) f)
  (k:∀x,nxP kv.length seen x->JS P ops Q l N ((d,.tuple (uD kv K x))::m) ⟨w0,F0,g (Ln b kv.length (nxS seen x)),G⟩) (hd:J6 N (some d)=true:=by rfl) :
  JS P ops Q (⟨some d,.next x false,ty,pos,aft,none⟩::l) N m ⟨w0,F0,bs,G⟩:=λa w ha hw=>by
 have hb:=hw.own ho
 have hi:=hw.own hr
 unfold ZF at hb
 obtain⟨pre,post,e1,e2⟩:=hr.split
 subst e1
 simp only[e2]at k
 have hold:∀e∈(XS K kv 0).toArray.toList,e.born<kv.length:=λe he=>by have:=(Br kv 0 e (by simpa using he)).2;omega
 rcases run_next_at (P:=P) w ty r b kv.length kv.length seen.toArray (XS K kv 0).toArray kv.length hi hb hold (Nat.le_refl _)with ⟨h0,hn⟩ | ⟨e,he,w1,hw1,hn⟩
 ·have hrun:(execOp a.eval ⟨some d,.next x false,ty,pos,aft,none⟩).run P w = .ok (.value (.tuple (uD kv K none))) w:=by
   simp[execOp,ha.ev hx,hn,uD]
  refine wpList_plain rfl λKk hK=>upon_value hrun (hK _ _ (k none (λj hj=>?_) _ _ (ha.put hd _) hw))
  have hm:(⟨K kv[j].1,kv[j].2,j⟩:MapEntry)∈XS K kv 0:=by
   have:=Wu (K:=K) kv 0 j
   rw[List.getElem?_eq_getElem hj,Nat.zero_add]at this
   exact List.mem_of_getElem? this
  have hz:leftOf (XS K kv 0).toArray seen.toArray=#[]:=Array.eq_empty_of_size_eq_zero h0
  unfold leftOf at hz
  rw[Array.filter_eq_empty_iff]at hz
  have:=hz _ (by simpa using hm)
  simpa using this
 unfold leftOf at he
 simp only[List.mem_toArray,Array.mem_toList_iff,Array.mem_filter]at he
 obtain⟨hm,hs⟩:=he
 obtain⟨j,hj,hje⟩:=List.getElem_of_mem hm
 rw[EW]at hj
 have hg:=Wu (K:=K) kv 0 j
 rw[List.getElem?_eq_getElem hj,List.getElem?_eq_getElem (by rw[EW];exact hj),hje,Nat.zero_add]at hg
 have hg':e=⟨K kv[j].1,kv[j].2,j⟩:=by simpa using hg
 subst hg'
 have hrun:(execOp a.eval ⟨some d,.next x false,ty,pos,aft,none⟩).run P w = .ok (.value (.tuple (uD kv K (some j)))) (ChangeMaps.setBlock w1 r (Ln b kv.length (nxS seen (some j)))):=by
  simp[execOp,ha.ev hx,hn,uD,hj,Ln,nxS]
 have hw2:St ⟨w0,F0,pre++(r,Ln b kv.length seen)::post,G⟩ w1:=by
  rcases hw1 with rfl | rfl
  ·exact hw
  exact hw.drew
 exact wpList_plain rfl λKk hK=>upon_value hrun (hK _ _ (k (some j) ⟨hj,by simpa using hs⟩ _ _ (ha.put hd _) (hw2.write pre ⟨rfl,rfl,rfl,rfl,rfl⟩ λc fr e=>by cases e)))
omit [DecidableEq κ] in
theorem LV{r:Nat}{p:κ×Value}{g:Obj->List (Nat×Obj)}(hx:ev m x=some (.pointer (some ⟨r,0,none⟩)))(hr:Own bs r (Ln b kv.length (seen++[j])) g)(ho:Own bs b (ZF K kv) f)(hj:kv[j]?=some p):
  Qt P N m (St ⟨w0,F0,bs,G⟩) (.entry x) ty (.tuple #[K p.1,p.2]):=λa w _ _ _ _ ha hw=>by
 have hb:=hw.own ho
 have hi:=hw.own hr
 unfold ZF at hb
 have hg:=Wu (K:=K) kv 0 j
 rw[hj,Nat.zero_add]at hg
 have hmem:=List.mem_of_getElem? hg
 have:=run_entry_at (P:=P) w r b kv.length seen.toArray (XS K kv 0).toArray kv.length ⟨K p.1,p.2,j⟩ (by rw[hi];simp[Ln]) hb (by simpa using hmem) (by simpa using MC kv 0)
 simp[execOp,ha.ev hx,this]
end
def O1(l:List Int)(x:Int):Y0 (l++[x])=(Y0 l++Lib.itoa x)++[32]:=by unfold Y0;rw[List.flatMap_append];simp
def SZ{x:Int}(h:0<=x/\x<=1000000):(Lib.itoa x).length<=21:=Lib.itoa_length_le x O O
theorem Ah:∀ {l:List Int},(∀x∈l,0<=x/\x<=1000000)->(Y0 l).length<=22*l.length
 |[],_=>by simp[Y0]
 |x::l,h=>by
  have h1:=SZ (h x wz);have h2:=Ah (l:=l) (λy hy=>h y (by simp[hy]));rw[Wq];simp only[List.length_append,List.length_cons];change (XV x).length<=21 at h1;omega
structure QFL(b:Nat)(l:List Int) where
 i:Nat
 ob:List (Nat×Obj)
 le:i<=l.length
 bl:Fh b (Y0 (l.take i)) ob
theorem jW{r:Sr}(hF:Fits F w)(hGl:JG F)(hR:JP F r l)(hp:PW l):Qb prog 229 [r.v] w F (tx (Y0 l)):=by
 obtain⟨q,n,c⟩:=r;have hln:=hR.2.1;dsimp only[Sr.v]at hln ⊢;have hl1:=hp.2;refine QU.intro (G:=λF=>JG F/\JP F ⟨q,n,c⟩ l) func229 rfl wy rfl rfl hF (λF' hF'=>⟨hGl.le hF',hR.le hF'⟩)<|QGi<|wQ rfl<|QGi<|Qg vj λb3=>QF4<|QG<|wR rfl<|QA (Qf rfl Qk)<|QF5 rfl<|QF4<|QS<|Jo (ι:=QFL b3 l) [(3,_),(6,_),(7,_)] (λi=>[(8,.int .i64 ((i.i:Nat):Int))]) (λi=>i.ob++[]) (λi F=>True) (λi=>l.length-i.i) (⟨0,_,Nat.zero_le _,by rw[List.take_zero];exact .fresh⟩) wU wS QGJ w8 λi=>?_
 have hi:=i.le;have hkl:=Ah (l:=l.take i.i) (λx hx=>hp.1 x (List.mem_of_mem_take hx));rw[List.length_take]at hkl;refine wA 6 I ?_;refine QP I (λhc=>?_) λhc=>?_
 ·have hlt:i.i<l.length:=wk<|QGx hc
  have he:=hp.el hlt;have hil:=SZ he;refine QHC 6 I<|QA (Q2 (n:=n) i.i (λF h9=>(h9.1.2).1) rfl rfl Qk Qu O)<|QA (Qz (n:=n) ((i.i)*1) (λF h9=>(h9.1.2).1) O I Qu (JH (o:=l) O))<|QHB 6 I<|QJ I (λ_ _ f k=>xB f k.1.1 (O) (O)) λ_=>XA I (List.Perm.refl _) (WY i.bl O) λvt=>JN _ (λ_ _ f h=>h.2) λhbl=>QF4<|QB<|XA I (List.Perm.refl _) (UJ (c:=32) hbl (by rw[List.length_append];omega)) λwob2=>JN _ (λ_ _ f h=>h.2) λhbl2=>?_
  rw[<-O1,Zk hlt,<-Xg hlt]at hbl2;refine QE<|Qi<|QD<|QB<|QA (Qm I I O)<|wB 2 I ?_
  exact Qj (⟨i.i+1,wob2,hlt,hbl2⟩) (by show l.length-(i.i+1)<l.length-i.i;omega) wV QGJ λF h=>⟨h.1.1.1.1,trivial⟩
 have hge:i.i=l.length:=wk<|QGy hc
 refine Qv ?_
 repeat first|refine QV ?_|refine QQ wy ?_
 refine QW<|QHD 3 I ?_
 have hbl:=i.bl;rw[hge,List.take_length]at hbl;refine MU (v:=tx (Y0 l)) hF rfl (enters_of func305 wy rfl) (λw' hw'=>Builder_String_any w.heap.size b3 (Y0 l) w' (hbl.is hw') (by obtain⟨F',h'⟩:=hw';exact h'.ext.size))<|wQ I<|QT ?_
 exact QHT I I (rfl) w8
end Go.Proofs.YtpmehagnedbkhaaGreatDoor
namespace Ig
def Bt:List Tm->Tm->List Tm
 |[],n=>[n]
 |t::l,n=>if n.2=t.2 then n::l else t::Bt l n
def Sy:∀(l:List Tm) (n:Tm),∀k,k∈(Bt l n).map (·.2)->k=n.2\/k∈l.map (·.2)
 |[],n,k,h=>by simp[Bt]at h;exact .inl h
 |t::l,n,k,h=>by
  simp only[Bt]at h;split at h
  ·simp only[List.map_cons,List.mem_cons]at h ⊢;rcases h with h | h
   ·exact .inl h
   exact .inr (.inr h)
  simp only[List.map_cons,List.mem_cons]at h ⊢;rcases h with h | h
  ·exact .inr (.inl h)
  rcases Sy l n k h with h | h
  ·exact .inl h
  exact .inr (.inr h)
def RB:∀ {l:List Tm} (n:Tm),(l.map (·.2)).Nodup->((Bt l n).map (·.2)).Nodup
 |[],n,_=>by simp[Bt]
 |t::l,n,h=>by
  simp only[List.map_cons]at h;obtain⟨h1,h2⟩:=List.nodup_cons.1 h;simp only[Bt];split
  ·rename_i e;simp only[List.map_cons];rw[e];exact h
  rename_i e;simp only[List.map_cons];refine List.nodup_cons.2 ⟨λhm=>?_,RB n h2⟩;rcases Sy l n _ hm with g | g
  ·exact e g.symm
  exact h1 g
def Sn:∀ {l:List Tm} (n:Tm),(l.map (·.2)).Nodup->∀k,Jt (Bt l n) k=if n.2=k then n.1 else Jt l k
 |[],n,_,k=>by simp[Bt,Jt,Rat.add_zero]
 |t::l,n,h,k=>by
  simp only[List.map_cons]at h;obtain⟨h1,h2⟩:=List.nodup_cons.1 h;have hz:Jt l t.2=0:=Ww λx hx e=>h1 (e ▸ List.mem_map_of_mem (f:=(·.2)) hx);simp only[Bt];split
  ·rename_i e;simp only[Jt];by_cases g:n.2=k
   ·have g2:t.2=k:=e ▸ g;rw[if_pos g,if_pos g,<-g2,hz,Rat.add_zero]
   have g2:¬t.2=k:=λq=>g (e.trans q);rw[if_neg g,if_neg g,if_neg g2]
  rename_i e;simp only[Jt];rw[Sn n h2 k];by_cases g:n.2=k
  ·have g2:¬t.2=k:=λq=>e (g.trans q.symm);rw[if_pos g,if_neg g2,if_pos g,Rat.zero_add]
  rw[if_neg g,if_neg g]
structure Cc(T l:List Tm):Prop where
 nd:(T.map (·.2)).Nodup
 eq:Zv T l
def Cc.nil:Cc [] []:=⟨List.nodup_nil,Zv.refl _⟩
def Cc.add{T l:List Tm}(h:Cc T l)(f:Rat)(p:List Int):Cc (Bt T (f+Jt T p,p)) (l++[(f,p)]) :=
 ⟨RB _ h.nd,λk=>by
  rw[Sn _ h.nd,Kt,<-h.eq k];simp only[Jt];by_cases g:p=k
  ·rw[if_pos g,if_pos g,g,Rat.add_zero];exact Rat.add_comm _ _
  rw[if_neg g,if_neg g,Rat.add_zero,Rat.add_zero]⟩
def Cc.Dt{T l:List Tm}(h:Cc T l){t:Tm}(ht:t∈T):Jt T t.2=t.1:=by
 have key:∀ {T:List Tm},(T.map (·.2)).Nodup->t∈T->Jt T t.2=t.1:=by
  intro T
  induction T with
  |nil=>intro _ h;cases h
  |cons x T ih =>
   intro hn hm;simp only[List.map_cons]at hn;obtain⟨h1,h2⟩:=List.nodup_cons.1 hn;rcases List.mem_cons.1 hm with rfl | hm
   ·simp only[Jt];have hz:Jt T t.2=0:=Ww λx hx e=>h1 (e ▸ List.mem_map_of_mem (f:=(·.2)) hx);rw[if_pos trivial,hz,Rat.add_zero]
   simp only[Jt];have:¬x.2=t.2:=λe=>h1 (e ▸ List.mem_map_of_mem (f:=(·.2)) hm);rw[if_neg this,ih h2 hm,Rat.zero_add]
 exact key h.nd ht
def Sm{T:List Tm}{p:List Int}(h:p∉T.map (·.2)):Jt T p=0:=Ww λx hx e=>h (e ▸ List.mem_map_of_mem (f:=(·.2)) hx)
def Cc.norm{T l s:List Tm}(h:Cc T l)(hp:s.Perm (T.filter λt=>decide (t.1≠0)))(hs:s.Pairwise λx y=>before x.2 y.2=true):s=JX l:=by
 refine AH ⟨hs,λt ht=>?_⟩ ((Zv.perm hp).trans ((eqv_filter T).trans h.eq));have:=(hp.mem_iff).1 ht;simpa using(List.mem_filter.1 this).2
end Ig
namespace Go.Proofs.YtpmehagnedbkhaaGreatDoor
variable{a b l:List Int}{N c cap i j k m n:Nat}{w:World}{F F':Gs}{q:Option Addr}{P:Program}{et kt:TypeId}{x y:Operand}{seen:List Nat}{g:FuncId}{bs:List (Rat×Rat)}{f:List UInt8}{s:Sr}{bl:List Bool}{R:Ending->World->Prop}{ι:Type}{fn:Func}
open Go.RowKit Ig
structure Xa where
 x:Fr
 r:Sr
 t:Tm
variable{ts:List Xa}
instance :Inhabited Xa:=⟨⟨⟨⟨0,none,0,0⟩,⟨0,none,0,0⟩⟩,⟨none,0,0⟩,(0,[])⟩⟩
def Y2(t:Xa):List Value:=[.int .i64 t.x.n.s,.slice t.x.n.q t.x.n.n t.x.n.cap,.int .i64 t.x.d.s,.slice t.x.d.q t.x.d.n t.x.d.cap,.slice t.r.q t.r.n t.r.cap]
@[reducible] def IJ (t:Xa):Value:=.agg #[.int .i64 t.x.n.s,.slice t.x.n.q t.x.n.n t.x.n.cap,.int .i64 t.x.d.s,.slice t.x.d.q t.x.d.n t.x.d.cap,.slice t.r.q t.r.n t.r.cap]
theorem Yx(t:Xa):(Y2 t).length=5:=rfl
def UI(F:Gs)(t:Xa):Prop:=Jz F t.x t.t.1/\JP F t.r t.t.2
def UI.le{t:Xa}(h:UI F t)(k:Gs.le F F'):UI F' t:=⟨h.1.le k,h.2.le k⟩
def WW(F:Gs)(ts:List Xa):Prop:=∀t∈ts,UI F t
def WW.le(h:WW F ts)(k:Gs.le F F'):WW F' ts:=λt ht=>(h t ht).le k
def GV(ts:List Xa):List (List UInt8×Value):=ts.map λt=>(Y0 t.t.2,IJ t)
def JQ(ts:List Xa):List Tm:=ts.map (·.t)
def addN:List Xa->Xa->List Xa
 |[],n=>[n]
 |t::l,n=>if n.t.2=t.t.2 then n::l else t::addN l n
theorem UR:∀(ts:List Xa) (n:Xa),JQ (addN ts n)=Bt (JQ ts) n.t
 |[],n=>rfl
 |t::l,n=>by
  have ih:=UR l n;unfold JQ at ih ⊢;simp only[addN,List.map_cons,Bt];split
  ·simp
  simp[ih]
theorem PU:∀(ts:List Xa) (n:Xa),GV (addN ts n)=DV (GV ts) (Y0 n.t.2) (IJ n)
 |[],n=>rfl
 |t::l,n=>by
  have ih:=PU l n;unfold GV at ih ⊢;simp only[addN,List.map_cons,DV];by_cases h:n.t.2=t.t.2
  ·rw[if_pos h,if_pos (congrArg Y0 h)];simp
  rw[if_neg h,if_neg λe=>h (Dc e)];simp[ih]
theorem PR{n x:Xa}(h:x∈addN ts n):x=n\/x∈ts:=by
 induction ts with
 |nil=>simp[addN]at h;exact .inl h
 |cons t l ih =>
  simp only[addN]at h;split at h
  ·rcases List.mem_cons.1 h with h | h
   ·exact .inl h
   exact .inr (List.mem_cons_of_mem _ h)
  rcases List.mem_cons.1 h with h | h
  ·exact .inr (h ▸ List.mem_cons_self)
  rcases ih h with h | h
  ·exact .inl h
  exact .inr (List.mem_cons_of_mem _ h)
theorem dG:∀(ts:List Xa) (p:List Int) (i:Nat),(YA (GV ts) (Y0 p) i=none/\p∉(JQ ts).map (·.2))\/∃j,∃t∈ts,t.t.2=p/\YA (GV ts) (Y0 p) i=some (j,IJ t)
 |[],_,_=>.inl ⟨rfl,by simp[JQ]⟩
 |t::l,p,i=>by
  by_cases h:p=t.t.2
  ·exact .inr ⟨i,t,List.mem_cons_self,h.symm,by show(if _ then _ else _)=_;rw[if_pos (congrArg Y0 h)]⟩
  rcases dG l p (i+1)with ⟨h1,h2⟩ | ⟨j,u,hu,h1,h2⟩
  ·refine .inl ⟨?_,?_⟩
   ·show(if _ then _ else _)=_;rw[if_neg λe=>h (Dc e)];exact h1
   simp only[JQ,List.map_cons,List.mem_cons,not_or];exact⟨h,h2⟩
  refine .inr ⟨j,u,List.mem_cons_of_mem _ hu,h1,?_⟩;show(if _ then _ else _)=_;rw[if_neg λe=>h (Dc e)];exact h2
def Z3(l:List Tm):Nat:=(l.map λt=>Jn t.1+1).sum
def Xq(l m:List Tm):Z3 (l++m)=Z3 l+Z3 m:=by unfold Z3;rw[List.map_append,List.sum_append]
theorem DC:∀(l:List Tm) (k:List Int),Jn (Jt l k)<=Z3 l+1
 |[],k=>by show Jn (0:Rat)<=_;decide
 |t::l,k=>by
  have h1:=DC l k;simp only[Jt];have h2:=RJ (if t.2=k then t.1 else 0) (Jt l k);have h3:Jn (if t.2=k then t.1 else 0)<=Jn t.1+1:=by
   split
   ·omega
   have:Jn (0:Rat)<=1:=wu;omega
  have e:Z3 (t::l)=Jn t.1+1+Z3 l:=by unfold Z3;rw[List.map_cons,List.sum_cons]
  have h4:Jn (Jt (t::l) k)<=Z3 l+1+(Jn t.1+1):=by
   simp only[Jt];by_cases g:t.2=k
   ·rw[if_pos g]at h2 ⊢;omega
   rw[if_neg g,Rat.zero_add];omega
  rw[e];simp only[Jt]at h4;omega
structure Va(ts:List Xa)(l:List Tm):Prop where
 Fc:Cc (JQ ts) l
 pw:∀t∈ts,PW t.t.2
 ln:ts.length<=l.length
def Va.nil:Va [] []:=⟨Cc.nil,(λ_ h=>by cases h),Nat.le_refl _⟩
theorem xz(ts:List Xa)(n:Xa):(addN ts n).length<=ts.length+1:=by
 induction ts with
 |nil=>exact Nat.le_refl _
 |cons t l ih =>
  simp only[addN];split<;>simp only[List.length_cons]<;>omega
def Va.add{l:List Tm}(h:Va ts l){f:Rat}{p:List Int}(hp:PW p){n:Xa}(hn:n.t=(f+Jt (JQ ts) p,p)):Va (addN ts n) (l++[(f,p)]) :=
 ⟨by rw[UR,hn];exact h.Fc.add f p,λt ht=>by
  rcases PR ht with rfl | ht
  ·rw[hn];exact hp
  exact h.pw t ht,by have:=xz ts n;have:=h.ln;rw[List.length_append];simp only[List.length_singleton];omega⟩
theorem Va.sz{l:List Tm}(h:Va ts l){t:Xa}(ht:t∈ts):Jn t.t.1<=Z3 l+1:=by
 rw[<-h.Fc.Dt (List.mem_map_of_mem (f:=Xa.t) ht),h.Fc.eq];exact DC _ _
theorem PO:AS prog 204 9 101=true:=wm
theorem Tc:Tz prog 9 tx:=.str wm
theorem yB:zvB prog 101=some (.agg #[.int .i64 0,.slice none 0 0,.int .i64 0,.slice none 0 0,.slice none 0 0]):=wm
section
theorem Ml{Q:Exit->Act->World->Prop}{m:Sl}{w0:World}{F0:Gs}{bs:List (Nat×Obj)}{G H:Gs->Prop}{c:Code}(h:∀F,G F->H F)(k:J P c Q N m ⟨w0,F0,bs,λF=>G F/\H F⟩):J P c Q N m ⟨w0,F0,bs,G⟩ :=
 λa w ha hw=>k a w ha (hw.Dd λF h'=>⟨h',h F h'⟩)
variable{w0:World}{F0:Gs}{bs:List (Nat×Obj)}{G:Gs->Prop}
theorem Fx{l:List Tm}{x:Fr}{f:Rat}{r:Sr}{p:List Int}(hI:Va ts l)(hp:PW p)(hz:Jn f<=40000000)(hl:Z3 l<=40000000)(hG:∀F,G F->JG F/\WW F ts/\Jz F x f/\JP F r p){t0:Xa}{j:Nat}(ht:t0∈ts)(h0:t0.t.2=p)(hf:YA (GV ts) (Y0 p) 0=some (j,IJ t0)):
  J8 prog 133 [.map (some m),x.v,r.v] ⟨w0,F0,(m,ZF tx (GV ts))::bs,G⟩ (λ(_:Xa)=>.tuple #[]) (λn=>⟨w0,F0,(m,ZF tx (GV (addN ts n)))::bs,λF=>G F/\WW F (addN ts n)/\n.t=(f+Jt (JQ ts) p,p)⟩):=by
 have hc0:Jt (JQ ts) p=t0.t.1:=by rw[<-h0];exact hI.Fc.Dt (List.mem_map_of_mem (f:=Xa.t) ht)
 have hz0:=hI.sz ht;dsimp only[Sr.v,Fr.v];refine J8.intro func133 rfl wy rfl rfl<|Ml hG<|QGi<|JE rfl (vs:=[_,_,_,_]) rfl λb4=>QF4<|wR rfl<|QJ rfl (λ_ _ f k=>jW f k.2.1 (r:=r) k.2.2.2.2 (hp)) λ_=>wQ rfl<|QG<|wR rfl<|QF5 rfl<|QA (Ut Tc rfl rfl PO .u1 hf)<|QF5 rfl<|QA (QX rfl rfl)<|QA (QX rfl rfl)<|Qg Ye λb7=>QZ (vs:=[_,_,_,_,_]) rfl rfl rfl Ju rfl .here .h5 wW ?_
 refine QHB 8 I ?_;refine QP I (λhc=>?_) λhc=>?_
 ·refine QB<|QA (wJ I Ql .u1)<|QA (QH I Ya Ql)<|QA (wJ I Ql .here)<|QJ I (λw F hF ⟨⟨hG0,hGl,hT,⟨hxn,hxd⟩,hR⟩,_⟩=>Pj hF ⟨by assumption,by assumption⟩ ((hT t0 ht).1) O O) λx21=>QZ (vs:=[_,_,_,_]) I I I Ql I .u1 .h4 wV<|QHB 5 I<|QA (wJ I Ql .u1)<|QF5 I<|QA (XL I U4 Ye (.cons (vs:=[_,_,_,_]) I I I .h4 (.cons (vs:=[_]) I I I (.skip (.skip (.skip (.skip .h1)))) .nil)))<|Hu (k:=Y0 p) (v:=IJ ⟨x21,r,(f+t0.t.1,p)⟩) Tc I I I PO .u2<|QE<|Ej ?_
  exact Z2 (⟨x21,r,(f+t0.t.1,p)⟩) I .nil (rfl) (λw h=>by
   show St ⟨w0,F0,(m,ZF tx (GV (addN ts ⟨x21,r,(f+t0.t.1,p)⟩)))::bs,_⟩ w;rw[PU];exact St.imp h (.cons _ (.cons _ QGJ)) (λF ⟨⟨⟨hG0,hGl,hT,⟨hxn,hxd⟩,hR⟩,_⟩,⟨h21,h21_⟩⟩=>⟨hG0,λt ht=>by
    rcases PR ht with rfl | ht
    ·exact⟨⟨by assumption,by assumption⟩,hR⟩
    exact hT t ht,by rw[hc0]⟩))
 exact absurd hc (by cases hc)
theorem UX{l:List Tm}{x:Fr}{f:Rat}{r:Sr}{p:List Int}(hI:Va ts l)(hp:PW p)(hz:Jn f<=40000000)(hl:Z3 l<=40000000)(hG:∀F,G F->JG F/\WW F ts/\Jz F x f/\JP F r p)(hf:YA (GV ts) (Y0 p) 0=none)(hm:p∉(JQ ts).map (·.2)):
  J8 prog 133 [.map (some m),x.v,r.v] ⟨w0,F0,(m,ZF tx (GV ts))::bs,G⟩ (λ(_:Xa)=>.tuple #[]) (λn=>⟨w0,F0,(m,ZF tx (GV (addN ts n)))::bs,λF=>G F/\WW F (addN ts n)/\n.t=(f+Jt (JQ ts) p,p)⟩):=by
 have hc0:Jt (JQ ts) p=0:=Sm hm;dsimp only[Sr.v,Fr.v];refine J8.intro func133 rfl wy rfl rfl<|Ml hG<|QGi<|JE rfl (vs:=[_,_,_,_]) rfl λb4=>QF4<|wR rfl<|QJ rfl (λ_ _ f k=>jW f k.2.1 (r:=r) k.2.2.2.2 (hp)) λ_=>wQ rfl<|QG<|wR rfl<|QF5 rfl<|QA (SB Tc rfl rfl PO yB .u1 hf)<|QF5 rfl<|QA (QX rfl rfl)<|QA (QX rfl rfl)<|Qg Ye λb7=>QZ (vs:=[_,_,_,_,_]) rfl rfl rfl Ju rfl .here .h5 wW ?_
 refine QHB 8 I ?_;refine QP I (λhc=>?_) λhc=>?_
 ·exact absurd hc (by cases hc)
 refine QHC 5 I<|QA (wJ I Ql .u1)<|QF5 I<|QA (XL I U4 Ye (.cons (vs:=[_,_,_,_]) I I I .h4 (.cons (vs:=[_]) I I I (.skip (.skip (.skip (.skip .h1)))) .nil)))<|Hu (k:=Y0 p) (v:=IJ ⟨x,r,(f,p)⟩) Tc I I I PO .u2<|QE<|Ej ?_
 exact Z2 (⟨x,r,(f,p)⟩) I .nil (rfl) (λw h=>by
  show St ⟨w0,F0,(m,ZF tx (GV (addN ts ⟨x,r,(f,p)⟩)))::bs,_⟩ w;rw[PU];exact St.imp h (.cons _ (.cons _ QGJ)) (λF ⟨⟨hG0,hGl,hT,⟨hxn,hxd⟩,hR⟩,_⟩=>⟨hG0,λt ht=>by
   rcases PR ht with rfl | ht
   ·exact⟨⟨by assumption,by assumption⟩,hR⟩
   exact hT t ht,by rw[hc0,Rat.add_zero]⟩))
theorem DH{l:List Tm}{x:Fr}{f:Rat}{r:Sr}{p:List Int}(hI:Va ts l)(hp:PW p)(hz:Jn f<=40000000)(hl:Z3 l<=40000000)(hG:∀F,G F->JG F/\WW F ts/\Jz F x f/\JP F r p):
  J8 prog 133 [.map (some m),x.v,r.v] ⟨w0,F0,(m,ZF tx (GV ts))::bs,G⟩ (λ(_:Xa)=>.tuple #[]) (λn=>⟨w0,F0,(m,ZF tx (GV (addN ts n)))::bs,λF=>G F/\WW F (addN ts n)/\n.t=(f+Jt (JQ ts) p,p)⟩):=by
 rcases dG ts p 0 with ⟨h1,h2⟩ | ⟨j,t,ht,h1,h2⟩
 ·exact UX hI hp hz hl hG h1 h2
 exact Fx hI hp hz hl hG ht h1 h2
end
section
variable[Dr]
theorem yz{w:World}{F:Gs}{a b:Xa}(hF:Fits F w)(hA:UI F a)(hB:UI F b)(pa:PW a.t.2)(pb:PW b.t.2):Qb prog 230 [IJ a,IJ b] w F (.int .i64 (WR a.t.2 b.t.2)):=by
 refine QU.intro (G:=λF=>UI F a/\UI F b) func230 rfl wy rfl rfl hF (λF' hF'=>⟨hA.le hF',hB.le hF'⟩)<|QGi<|JE rfl (vs:=[_,_,_,_,_]) rfl λb2=>JE rfl (vs:=[_,_,_,_,_]) rfl λb3=>wQ rfl<|QGi<|QA (QH rfl ZK Q5)<|QA (Qh rfl Q5 .u1 (.skip (.skip (.skip (.skip .h1)))))<|QA (QH rfl ZK Q5)<|QA (Qh rfl Q5 .here (.skip (.skip (.skip (.skip .h1)))))<|QJ rfl (λ_ _ f k=>Bi f (ra:=a.r) (rb:=b.r) k.1.2 (k.2.2) (pa) (pb)) λ_=>wQ rfl<|QT ?_
 exact QHT I I (rfl) w8
end
end Go.Proofs.YtpmehagnedbkhaaGreatDoor
namespace Go.Proofs
open Go.Shelf
def Oe:Go.Shelf.Ren:=⟨λ| 14=>141 | 20=>241 | 21=>242 | 22=>243 | 23=>244 | 24=>245 | 25=>246 | 26=>247 | 27=>248 | 46=>309 | 47=>310 | 48=>311 | 49=>312 | 50=>313 | 15=>142 | 57=>336 | 28=>249 | 29=>250 | n=>n,λ| 24=>101 | 22=>86 | 3=>3 | 25=>104 | 4=>4 | 0=>0 | 46=>295 | 45=>294 | 50=>258 | 66=>350 | 39=>212 | 55=>289 | 70=>354 | 76=>371 | 77=>372 | 53=>301 | 5=>5 | 9=>9 | n=>n,λ| n=>n⟩
theorem gQ:Go.Proofs.SlLaysF0.n14 prog Oe:={
 mixed:=wm
 f14:=⟨f141.name,wu,func141.trans tH⟩
 f15:=func142.trans tH
 f20:=⟨Tryz.f241.name,wu,func241.trans tH⟩
 f21:=⟨f242.name,wu,func242.trans tH⟩
 f22:=⟨Tryz.f243.name,wu,func243.trans tH⟩
 f23:=⟨Tryz.f244.name,wu,func244.trans tH⟩
 f24:=⟨Tryz.f245.name,wu,func245.trans tH⟩
 f25:=⟨Tryz.f246.name,wu,func246.trans tH⟩
 f26:=⟨Tryz.f247.name,wu,func247.trans tH⟩
 f27:=⟨f248.name,wu,func248.trans tH⟩
 f28:=func249.trans tH
 f29:=func250.trans tH
 f46:=⟨f309.name,wu,func309.trans tH⟩
 f47:=func310.trans tH
 f48:=func311.trans tH
 f49:=⟨f312.name,wu,func312.trans tH⟩
 f50:=⟨f313.name,wu,func313.trans tH⟩
 f57:=⟨f336.name,wu,func336.trans tH⟩
 t0:=underlying0
 a0:=isAgg0
 z0:=sizeOf0
 v0:=zeroValue0
 t3:=underlying3
 a3:=isAgg3
 z3:=sizeOf3
 v3:=zeroValue3
 t4:=underlying4
 a4:=isAgg4
 z4:=sizeOf4
 v4:=zeroValue4
 t5:=underlying5
 a5:=isAgg5
 z5:=sizeOf5
 v5:=zeroValue5
 t9:=underlying9
 a9:=isAgg9
 z9:=sizeOf9
 v9:=zeroValue9
 t22:=underlying86
 a22:=isAgg86
 z22:=sizeOf86
 v22:=zeroValue86
 t25:=underlying104
 a25:=isAgg104
 z25:=sizeOf104
 v25:=zeroValue104
 t39:=underlying212
 a39:=isAgg212
 z39:=sizeOf212
 v39:=zeroValue212
 t45:=underlying294
 a45:=isAgg294
 z45:=sizeOf294
 v45:=zeroValue294
 t46:=underlying295
 a46:=isAgg295
 z46:=sizeOf295
 v46:=zeroValue295
 t50:=underlying258
 a50:=isAgg258
 z50:=sizeOf258
 v50:=zeroValue258
 t53:=underlying301
 a53:=isAgg301
 z53:=sizeOf301
 v53:=zeroValue301
 t55:=underlying289
 a55:=isAgg289
 z55:=sizeOf289
 v55:=zeroValue289
 t66:=underlying350
 a66:=isAgg350
 z66:=sizeOf350
 v66:=zeroValue350
 t70:=underlying354
 a70:=isAgg354
 z70:=sizeOf354
 v70:=zeroValue354
 t76:=underlying371
 a76:=isAgg371
 z76:=sizeOf371
 v76:=zeroValue371
 t77:=underlying372
 a77:=isAgg372
 z77:=sizeOf372
 v77:=zeroValue372 }
end Go.Proofs
namespace Go.Proofs.YtpmehagnedbkhaaGreatDoor
variable{a b l:List Int}{N c cap i j k m n:Nat}{w:World}{F F':Gs}{q:Option Addr}{P:Program}{et kt:TypeId}{x y:Operand}{seen:List Nat}{g:FuncId}{bs:List (Rat×Rat)}{f:List UInt8}{s:Sr}{bl:List Bool}{R:Ending->World->Prop}{ι:Type}{fn:Func}{ts:List Xa}
section
open Go.RowKit Ig Go.Sort
def ntd:Xa:=⟨⟨⟨0,none,0,0⟩,⟨1,none,0,0⟩⟩,⟨none,0,0⟩,(0,[])⟩
def QBQ(F:Gs):UI F ntd:=⟨⟨J5.small F wu wu,J5.small F wu wu⟩,⟨by simp[Qy,ntd],rfl,Nat.le_refl _⟩⟩
def PW.nil:PW []:=⟨λ_ h=>(by cases h),wz⟩
abbrev vV(F:Gs):={t:Xa // UI F t/\PW t.t.2}
instance(F:Gs):Inhabited (vV F):=⟨⟨ntd,QBQ F,PW.nil⟩⟩
def H5(F:Gs):vV F->List Value:=λt=>Y2 t.1
def cfT(F:Gs):vV F->vV F->Int:=λx y=>WR x.1.t.2 y.1.t.2
def ltT(x y:vV F):ltOf (cfT F) x y=before x.1.t.2 y.1.t.2:=(WQ _ _).symm
def Rh{c:List Int}(h:before a b=false)(k:before b c=false):before a c=false:=by
 cases hb:before a c with
 |false=>rfl
 |true =>
  rcases Vx b c with e | e | e
  ·subst e;rw[h]at hb;cases hb
  ·rw[k]at e;cases e
  rw[before_trans hb e]at h;cases h
theorem QAx(F:Gs):SWO (ltOf (cfT F)) where
 irrefl:=λx=>by rw[ltT];exact before_irrefl _
 trans:=λx y z h k=>by rw[ltT]at h k ⊢;exact before_trans h k
 ntrans:=λx y z h k=>by rw[ltT]at h k ⊢;exact Rh h k
def Ol(w:World)(F:Gs)(W:World):Gs:=λb=>if b<w.heap.size then F b else match W.heap[b]? with | some (.cells c T _)=>if T=289 then some (c,289)else none | _=>none
def Wp{W:World}{b:Nat}(h:b<w.heap.size):Ol w F W b=F b:=if_pos h
theorem Ld{W:World}(hF:Fits F w):Gs.le F (Ol w F W):=λb x hb=>by rw[Wp (hF.lt hb)];exact hb
theorem SK{W:World}{Du:Nat}{c':Array Value}{T:TypeId}{fr':Nat×Nat}(hF:Fits F w)(hn:F Du=none)(hT:T≠289)(h1:∀b,b<w.heap.size->b≠Du->W.heap[b]?=w.heap[b]?)(h2:W.heap[Du]?=some (.cells c' T fr')):Fits (Ol w F W) W:=by
 refine⟨λb c T hb=>?_,λb c fr hb=>?_⟩
 ·by_cases hlt:b<w.heap.size
  ·rw[Wp hlt]at hb;obtain⟨fr,e⟩:=hF.row b c T hb;have hne:b≠Du:=by rintro rfl;rw[hn]at hb;cases hb
   exact⟨fr,by rw[h1 b hlt hne];exact e⟩
  unfold Ol at hb;rw[if_neg hlt]at hb;split at hb
  ·rename_i c' T' fr heq;split at hb
   ·rename_i hT;cases hb;exact⟨fr,by rw[heq,hT]⟩
   cases hb
  cases hb
 by_cases hlt:b<w.heap.size
 ·rw[Wp hlt];by_cases hne:b=Du
  ·subst hne;rw[h2]at hb;cases hb;exact absurd rfl hT
  rw[h1 b hlt hne]at hb;exact hF.all b c fr hb
 unfold Ol;rw[if_neg hlt,hb];simp
theorem kg{w':World}(h1:Below w.heap.size w w')(h2:w.drawn<=w'.drawn):w'=grow (w.drewN (w'.drawn-w.drawn)) (w'.heap.extract w.heap.size w'.heap.size):=by
 have hh:w'.heap=w.heap++w'.heap.extract w.heap.size w'.heap.size:=by
  apply Array.ext_getElem?;intro i;rw[Array.getElem?_append];split
  ·rename_i h;exact h1.block i h
  rename_i h;rw[Array.getElem?_extract];have:=h1.size;by_cases g:i<w'.heap.size
  ·rw[if_pos O];congr 1;omega
  rw[if_neg O,Array.getElem?_eq_none O]
 obtain⟨e1,e2,e3,_,_⟩:=h1;cases w' with
 |mk heap tape drawn os output =>
  simp only at hh e1 e2 e3 h2;unfold grow World.drewN;simp only[World.mk.injEq];exact⟨hh,e2,O,e1,e3⟩
section
variable{α:Type}[Inhabited α]{enc:α->List Value}{k:Nat}{w:World}{Du m:Nat}{dk:Array α}{os:Array Obj}{c:Array Value}{T:TypeId}{fr:Nat×Nat}
def DF(b:Nat)(hb:b<w.heap.size)(hne:b≠Du):(sortWorldK enc k w Du 0 m dk os).heap[b]?=w.heap[b]?:=by
 show((w.heap.modify Du _)++os)[b]?=_;rw[Array.getElem?_append,if_pos (by simpa using hb),Array.getElem?_modify,if_neg (Ne.symm hne)]
theorem qY(h:w.heap[Du]?=some (.cells c T fr)):(sortWorldK enc k w Du 0 m dk os).heap[Du]?=some (.cells (putCells id 0 (flatK enc k dk) c) T fr):=by
 have hb:Du<w.heap.size:=by
  rcases Nat.lt_or_ge Du w.heap.size with g | g
  ·exact g
  rw[Array.getElem?_eq_none g]at h;cases h
 show((w.heap.modify Du _)++os)[Du]?=_;rw[Array.getElem?_append,if_pos (by simpa using hb),Array.getElem?_modify,if_pos rfl,h];rfl
theorem Ia(hk:∀x,(enc x).length=k)(d:Array α):flatK enc k d=(d.toList.flatMap enc).toArray:=by
 have hl:(d.toList.flatMap enc).length=d.size*k:=by
  generalize hd:d.toList=l;have:d.size=l.length:=by rw[<-hd];simp
  rw[this];clear this hd
  induction l with
  |nil=>simp
  |cons x l ih=>rw[List.flatMap_cons,List.length_append,ih,hk,List.length_cons,Nat.add_mul];omega
 apply Array.ext_getElem?;intro t;by_cases ht:t<d.size*k
 ·have hk0:0<k:=Nat.pos_of_ne_zero λe=>by rw[e]at ht;simp at ht
  have h1:t/k<d.size:=(Nat.div_lt_iff_lt_mul hk0).2 ht;have h2:t%k<k:=Nat.mod_lt _ hk0;have h3:t%k<(enc d[t/k]!).length:=by rw[hk];exact h2
  have e1:(flatK enc k d)[t]?=some ((enc d[t/k]!)[t%k]!):=by
   rw[Array.getElem?_eq_getElem (by rw[size_flatK];exact ht)];have:=get_flatK enc k d t ht;rw[getElem!_pos _ t (by rw[size_flatK];exact ht)]at this;rw[this]
  rw[e1,List.getElem?_toArray];have h4:el d.toList (t/k)=d[t/k]!:=by simp[el,h1]
  have:=Jg (f:=enc) hk (l:=d.toList) (i:=t/k) (j:=t%k) (u:=(enc d[t/k]!)[t%k]!) (by simpa using h1) (by rw[h4,List.getElem?_eq_getElem h3,getElem!_pos (enc d[t/k]!) (t%k) h3]);rw[Nat.mul_comm,Nat.div_add_mod]at this;exact this.symm
 rw[Array.getElem?_eq_none (by rw[size_flatK];omega),List.getElem?_toArray,List.getElem?_eq_none O]
theorem TO{a b rest:List Value}(h:b.length=a.length):putCells id 0 b.toArray (a++rest).toArray=(b++rest).toArray:=by
 apply Array.ext_getElem?;intro i;unfold putCells;rw[Array.getElem?_mapIdx,List.getElem?_toArray,List.getElem?_toArray,List.getElem?_append,List.getElem?_append];by_cases hi:i<a.length
 ·have hi':i<b.length:=O;rw[if_pos hi,if_pos hi',List.getElem?_eq_getElem hi,List.getElem?_eq_getElem hi'];simp[hi']
 have hi':¬i<b.length:=O;rw[if_neg hi,if_neg hi',h];have e:¬(0<=i/\i<0+b.toArray.size):=w6;cases rest[i-a.length]? with
 |none=>rfl
 |some x=>simp only[Option.map_some];rw[if_neg e]
end
def I5(g:FuncId):Prop:=Enters prog g/\∀(w:World) (F:Gs) (a b:Xa),Fits F w->UI F a->UI F b->PW a.t.2->PW b.t.2->@QU ⟨True⟩ prog g [IJ a,IJ b] w F Unit (λ_=>.int .i64 (WR a.t.2 b.t.2)) λ_ _=>True
theorem I5.lays(hg:I5 g){w:World}{F:Gs}{Du size:Nat}{c:Array Value}{T:TypeId}{fr:Nat×Nat}(hF:Fits F w)(hn:F Du=none)(hT:T≠289)(hb:w.heap[Du]?=some (.cells c T fr)):CmpLays prog g #[] (H5 F) 5 (cfT F) Du 0 size w:=λm os dk _ x y=>by
 have hf:=SK (W:=sortWorldK (H5 F) 5 w Du 0 m dk os) hF hn hT (λb h1 h2=>DF b h1 h2) (qY hb);have hle:=Ld (W:=sortWorldK (H5 F) 5 w Du 0 m dk os) hF;have:=(hg.2 _ _ x.1 y.1 hf (x.2.1.le hle) (y.2.1.le hle) x.2.2 y.2.2).2;refine this.mono ?_;rintro e w' ⟨_,F',rfl,hx,_⟩;exact⟨rfl,_,_,kg (@Rn.toBelow ⟨True⟩ _ _ hx) (@Rn.dr ⟨True⟩ _ _ hx trivial)⟩
def QEf(x:vV F):∀v∈H5 F x,v.oneCell'=true:=by
 intro v hv;unfold H5 Y2 at hv;simp only[List.mem_cons,List.not_mem_nil,or_false]at hv;rcases hv with rfl | rfl | rfl | rfl | rfl<;>rfl
variable[Dr]{w0:World}{F0:Gs}{bs:List (Nat×Obj)}{G:Gs->Prop}
theorem QBL(hg:I5 g){b n cap lim:Nat}{ts:List Xa}{rest:List Value}(hG:∀F,G F->WW F ts)(hp:∀t∈ts,PW t.t.2)(hl:ts.length=n)(hn:n<4611686018427387904)(hlim:lim<4611686018427387904):
  J8 prog 141 [.slice (some ⟨b,0,none⟩) n cap,.int .i64 0,.int .i64 (n:Nat),.int .i64 (lim:Nat),.func (.func g) #[] #[]] ⟨w0,F0,(b,.cells (ts.flatMap Y2++rest).toArray 101 (0,0))::bs,G⟩ (λ(_:List Xa)=>.tuple #[])
   (λts'=>⟨w0,F0,(b,.cells (ts'.flatMap Y2++rest).toArray 101 (0,0))::bs,λF=>G F/\ts'.Perm ts/\ts'.Pairwise λx y=>before y.t.2 x.t.2=false⟩):=by
 refine⟨enters_of func141 wy rfl,λw hw=>?_⟩;obtain⟨F,h⟩:=hw;obtain⟨hb1,hb2,hb3⟩:=h.bx (b,_) List.mem_cons_self;have hts:=hG F h.hG;have hblt:b<w.heap.size:=(Array.getElem?_eq_some_iff.1 hb1).1;have hT:(101:TypeId)≠289:=wu;obtain⟨d,hd⟩:∃d:Array (vV F),d.toList.map (·.1)=ts:=by
  refine⟨(ts.attach.map λt=>(⟨t.1,hts t.1 t.2,hp t.1 t.2⟩:vV F)).toArray,?_⟩;simp[List.map_map,Function.comp_def]
 have hds:d.size=n:=by rw[<-hl,<-hd];simp
 have hfl:∀d:Array (vV F),flatK (H5 F) 5 d=((d.toList.map (·.1)).flatMap Y2).toArray:=λd=>by
  rw[Ia (enc:=H5 F) (k:=5) (λ_=>rfl),List.flatMap_map];rfl
 have hH:HoldsK (H5 F) 5 w b 0 d:=by
  intro j hj;rw[hfl,hd]at hj ⊢;have hj':j<(ts.flatMap Y2).length:=by simpa using hj
  rw[Nat.zero_add];refine⟨?_,by simp[World.frozen?,hb1]⟩;simp only[World.cell?,hb1,Option.isSome_none,Bool.false_eq_true,if_false,List.getElem?_toArray];rw[List.getElem?_append_left hj',List.getElem?_eq_getElem hj'];show some _=some ((ts.flatMap Y2).toArray[j]!);rw[getElem!_pos (ts.flatMap Y2).toArray j (by simpa using hj')];simp
 have hR:RowK (H5 F) 5 w b 0 d:=⟨λ_=>rfl,λx=>QEf x,hH,hblt⟩;have eg:=hg.1;have hcmp:=hg.lays (size:=d.size) h.fits hb3 hT hb1;have hs:=AnyQ.pdqsortCmpFunc_all gQ 5 (S4 Ju) (YM Ju) (H5 F) (cfT F) g #[] (QAx F) b 0 cap d w eg hcmp hR (d.size+1) 0 d.size lim d w O I (SWK.start hH) (Nat.zero_le _) (Nat.le_refl _) O hlim (Or.inl I);have hpl:=pdq_sorts (ltOf (cfT F)) (QAx F) d 0 d.size lim true true (Nat.zero_le _) (Nat.le_refl _) (Or.inl I);generalize pdq (ltOf (cfT F)) d 0 d.size lim true true=d' at hs hpl;obtain⟨⟨hp1,_,hp2⟩,hso⟩:=hpl;rw[hds]at hs;refine hs.mono ?_;rintro e w' ⟨rfl,m,os,rfl⟩;have hbk:=qY (enc:=H5 F) (k:=5) (m:=m) (dk:=d') (os:=os) hb1;have hfit:=SK (W:=sortWorldK (H5 F) 5 w b 0 m d' os) h.fits hb3 hT (λb h1 h2=>DF b h1 h2) hbk;have hle:=Ld (W:=sortWorldK (H5 F) 5 w b 0 m d' os) h.fits;have hperm:(d'.toList.map (·.1)).Perm ts:=by
  rw[<-hd];refine List.Perm.map _ ?_;have e1:(d'.extract 0 d.size).toList=d'.toList:=by rw[<-hp1];simp
  have e2:(d.extract 0 d.size).toList=d.toList:=wz;rw[e1,e2]at hp2;exact hp2
 have hcells:putCells id 0 (flatK (H5 F) 5 d') (ts.flatMap Y2++rest).toArray=((d'.toList.map (·.1)).flatMap Y2++rest).toArray:=by
  rw[hfl];refine TO ?_;have:=(List.Perm.flatMap_right Y2 hperm).length_eq;exact this
 rw[hcells]at hbk;have hsz:w.heap.size<=(sortWorldK (H5 F) 5 w b 0 m d' os).heap.size:=by
  show _<=((w.heap.modify b _)++os).size;simp
 refine⟨d'.toList.map (·.1),rfl,Ol w F (sortWorldK (H5 F) 5 w b 0 m d' os),?_⟩;refine⟨Gs.le_trans h.le hle,λk hk=>?_,hfit,⟨⟨?_,?_,?_,?_,?_⟩,?_⟩,λk hk=>?_,h.nd,λF' hF'=>⟨h.g F' (Gs.le_trans hle hF'),hperm,?_⟩⟩
 ·have:k<w.heap.size:=Nat.lt_of_lt_of_le hk h.ext.size;rw[Wp this];exact h.old k hk
 ·exact h.ext.os
 ·exact h.ext.tape
 ·exact h.ext.output
 ·exact Nat.le_trans h.ext.size hsz
 ·intro k hk;have h1:k<w.heap.size:=Nat.lt_of_lt_of_le hk h.ext.size;have h2:k≠b:=by rintro rfl;exact absurd hk (Nat.not_lt.2 hb2)
  rw[DF k h1 h2];exact h.ext.block k hk
 ·intro hd;exact Nat.le_trans (h.ext.dr hd) (Nat.le_add_right _ _)
 ·rcases List.mem_cons.1 hk with rfl | hk
  ·exact⟨hbk,hb2,by rw[Wp hblt];exact hb3⟩
  obtain⟨g1,g2,g3⟩:=h.bx k (List.mem_cons_of_mem _ hk);have h1:k.1<w.heap.size:=(Array.getElem?_eq_some_iff.1 g1).1;have h2:k.1≠b:=by
   have:=h.nd;simp only[List.map_cons]at this;have:=(List.nodup_cons.1 this).1;rintro e;exact this (e ▸ List.mem_map_of_mem (f:=(·.1)) hk)
  exact⟨by rw[DF k.1 h1 h2];exact g1,g2,by rw[Wp h1];exact g3⟩
 rw[List.pairwise_map,List.pairwise_iff_getElem];intro i j hi hj hij;have hi':i<d'.size:=by simpa using hi
 have hj':j<d'.size:=by simpa using hj
 have:=hso i j (Nat.zero_le _) hij O;rw[ltT,getElem!_pos _ i hi',getElem!_pos _ j hj']at this;simpa using this
end
open Go.RowKit Ig
section
variable[Dr]{w0:World}{F0:Gs}{bs:List (Nat×Obj)}{G:Gs->Prop}
theorem CQ(hF:Fits F w){n:Nat}(h:n<4611686018427387904):Qb prog 142 [.int .u64 (n:Nat)] w F (.int .i64 (Lib.bitLen n:Nat)) :=
 QU.same (enters_of func142 wy rfl) hF (by
  have:=bits_Len (n:Nat) w O O
  rwa [Int.toNat_natCast]at this)
theorem xI:∀ {ts:List Xa},ts.flatMap Y2=[]->ts=[]
 |[],_=>rfl
 |t::l,h=>by rw[List.flatMap_cons]at h;simp[Y2]at h
theorem p4(hg:I5 g){n lim:Nat}{v:Value}{ts:List Xa}{ob:List (Nat×Obj)}(hr:Q6 101 5 v n (ts.flatMap Y2) ob)(hG:∀F,G F->WW F ts)(hp:∀t∈ts,PW t.t.2)(hl:ts.length=n)(hn:n<4611686018427387904)(hlim:lim<4611686018427387904):
  J8 prog 141 [v,.int .i64 0,.int .i64 (n:Nat),.int .i64 (lim:Nat),.func (.func g) #[] #[]] ⟨w0,F0,ob++bs,G⟩ (λ(_:List Xa×List (Nat×Obj))=>.tuple #[])
   (λc=>⟨w0,F0,c.2++bs,λF=>G F/\Q6 101 5 v n (c.1.flatMap Y2) c.2/\c.1.Perm ts/\c.1.Pairwise λx y=>before y.t.2 x.t.2=false⟩):=by
 generalize hcs:ts.flatMap Y2=cs at hr;cases hr with
 |nil =>
  have:=xI hcs;subst this;refine⟨enters_of func141 wy rfl,λw hw=>?_⟩;refine(AnyF.pdqsortCmpFunc_none gQ none 0 (lim:Nat) (.func (.func g) #[] #[]) w).mono ?_;rintro e w' ⟨rfl,rfl⟩;exact⟨([],[]),rfl,hw.Dd λF h=>⟨h,.nil,List.Perm.refl _,List.Pairwise.nil⟩⟩
 |some h1 h2 h3 h4 =>
  rename_i b cap rest;subst hcs;have h:=QBL (w0:=w0) (F0:=F0) (bs:=bs) (G:=G) hg (b:=b) (n:=n) (cap:=cap) (lim:=lim) (ts:=ts) (rest:=rest) hG hp hl hn hlim;refine⟨h.1,λw hw=>(h.2 w hw).mono ?_⟩;rintro e w' ⟨ts',rfl,hw'⟩;refine⟨(ts',[(b,.cells (ts'.flatMap Y2++rest).toArray 101 (0,0))]),rfl,hw'.Dd λF ⟨hG',hpm,hpw⟩=>⟨hG',?_,hpm,hpw⟩⟩;have hlen:(ts'.flatMap Y2).length=(ts.flatMap Y2).length:=(List.Perm.flatMap_right Y2 hpm).length_eq;exact .some (by rw[hlen];exact h1) (by rw[hlen];exact h2) h3 h4
theorem qj(hg:I5 g){n:Nat}{v:Value}{ts:List Xa}{ob:List (Nat×Obj)}(hr:Q6 101 5 v n (ts.flatMap Y2) ob)(hG:∀F,G F->WW F ts)(hp:∀t∈ts,PW t.t.2)(hl:ts.length=n)(hn:n<4611686018427387904):
  J8 prog 49 [v,.func (.func g) #[] #[]] ⟨w0,F0,ob++bs,G⟩ (λ(_:List Xa×List (Nat×Obj))=>.tuple #[])
   (λc=>⟨w0,F0,c.2++bs,λF=>G F/\Q6 101 5 v n (c.1.flatMap Y2) c.2/\c.1.Perm ts/\c.1.Pairwise λx y=>before y.t.2 x.t.2=false⟩):=by
 refine J8.intro func49 rfl wy rfl rfl<|wR rfl<|QA (Uv rfl hr ZA)<|wQ rfl<|QB<|QF5 rfl<|QF5 rfl<|QF5 rfl<|QA (LW rfl QAo dC O)<|QJ rfl (λ_ _ f _=>CQ f hn) λ_=>QF5 rfl<|XA rfl (List.Perm.refl _) (p4 hg hr (λF h=>hG F h.1) hp hl hn (Nat.lt_of_le_of_lt (Lib.bitLen_le n 62 O O) O)) λc=>QE<|Ej ?_
 exact Z2 (c) rfl .nil (rfl) λw h=>h.Dd λF h=>⟨h.1.1,h.2⟩
end
theorem Hm:∀(n:Nat) (l:List Nat),l.Nodup->(∀j∈l,j<n)->l.length<=n
 |0,l,_,h=>by
  cases l with
  |nil=>exact Nat.le_refl _
  |cons x l=>exact absurd (h x List.mem_cons_self) (Nat.not_lt_zero _)
 |n+1,l,hn,h=>by
  have h1:=Hm n (l.erase n) (hn.erase n) λj hj=>by
   have h2:=(hn.mem_erase_iff).1 hj;have h3:=h j h2.2;have h4:=h2.1;omega
  rw[List.length_erase]at h1;split at h1<;>omega
theorem R6{l:List Nat}(hn:l.Nodup)(h:∀j∈l,j<n)(hj:j<n)(hjn:j∉l):(l++[j]).Nodup/\(∀i∈l++[j],i<n)/\l.length<n:=by
 have h1:(l++[j]).Nodup:=by
  rw[List.nodup_append];exact⟨hn,wz,λa ha b hb=>by rw[List.mem_singleton.1 hb];rintro rfl;exact hjn ha⟩
 have h2:∀i∈l++[j],i<n:=λi hi=>by
  rcases List.mem_append.1 hi with hi | hi
  ·exact h i hi
  rw[List.mem_singleton.1 hi];exact hj
 have h3:=Hm n _ h1 h2;rw[List.length_append]at h3;exact⟨h1,h2,by simp at h3;omega⟩
theorem Uh{l:List Nat}(hn:l.Nodup)(h:∀j∈l,j<n)(ha:∀j,j<n->j∈l):l.Perm (List.range n) :=
 (List.perm_ext_iff_of_nodup hn List.nodup_range).2 λa=>by rw[List.mem_range];exact⟨h a,ha a⟩
theorem Da{α:Type}[Inhabited α](l:List α):(List.range l.length).map (el l)=l:=by
 apply List.ext_getElem?;intro i;by_cases h:i<l.length
 ·rw[List.getElem?_map,List.getElem?_range h,List.getElem?_eq_getElem h];simp[J4 h]
 rw[List.getElem?_eq_none w6,List.getElem?_eq_none O]
def Jl(F:Gs)(s:Sr)(ts:List Xa)(p:List Tm):Prop:=Qy F s.q s.n 5 (ts.flatMap Y2)/\WW F ts/\JQ ts=p/\s.n<=s.cap/\ts.length=s.n
def Jl.le{p:List Tm}(h:Jl F s ts p)(k:Gs.le F F'):Jl F' s ts p:=⟨h.1.le k,h.2.1.le k,h.2.2⟩
def La(ts:List Xa):List Xa:=ts.filter λt=>decide (t.t.1≠0)
def U9(ts:List Xa)(t:Xa):La (ts++[t])=La ts++(if t.t.1≠0 then[t]else[]):=by
 unfold La;rw[List.filter_append];congr 1;by_cases h:t.t.1=0
 ·simp[h]
 simp[h]
structure QCE(ts:List Xa) where
 seen:List Nat
 v:Value
 n:Nat
 ob:List (Nat×Obj)
 hr:Q6 101 5 v n ((La (seen.map (el ts))).flatMap Y2) ob
 nd:seen.Nodup
 lt:∀j∈seen,j<ts.length
 hn:(La (seen.map (el ts))).length=n
def Ll(ts:List Xa):(GV ts).length=ts.length:=by simp[GV]
theorem xg:I5 230:=⟨enters_of func230 wy rfl,λw F a b hF hA hB pa pb=>@yz ⟨True⟩ w F a b hF hA hB pa pb⟩
def R5{r:Rat}:EF r.num=0↔r=0:=by
 unfold EF;constructor
 ·intro h;apply Rat.num_eq_zero.1;split at h
  ·omega
  split at h<;>omega
 rintro rfl;rfl
def qZ{os:List Xa}{l:List Tm}(hI:Va ts l)(hn:seen.Nodup)(hlt:∀j∈seen,j<ts.length)(hall:∀j,j<ts.length->j∈seen)(hp:os.Perm (La (seen.map (el ts))))(hs:os.Pairwise λx y=>before y.t.2 x.t.2=false):JQ os=JX l:=by
 have h1:os.Perm (La ts):=by
  refine hp.trans ?_;unfold La;refine List.Perm.filter _ ?_;have:=(Uh hn hlt hall).map (el ts)
  rwa [Da]at this
 have h2:(JQ os).Perm ((JQ ts).filter λt=>decide (t.1≠0)):=by
  have:=h1.map Xa.t;unfold La at this;have e:(ts.filter λt=>decide (t.t.1≠0)).map Xa.t=(ts.map Xa.t).filter λt=>decide (t.1≠0):=by
   rw[List.filter_map];rfl
  rw[e]at this;exact this
 refine hI.Fc.norm h2 ?_;have hnd:((JQ os).map (·.2)).Nodup:=by
  have h3:((JQ os).map (·.2)).Perm (((JQ ts).filter λt=>decide (t.1≠0)).map (·.2)):=h2.map _;rw[h3.nodup_iff];exact(List.filter_sublist.map _).nodup hI.Fc.nd
 unfold JQ at hnd ⊢;rw[List.pairwise_map];rw[List.map_map]at hnd;have hnd2:=List.pairwise_map.1 hnd;refine(hs.and hnd2).imp ?_;rintro x y ⟨h1,h2⟩;rcases Vx x.t.2 y.t.2 with e | e | e
 ·exact absurd e h2
 ·exact e
 rw[h1]at e;cases e
def IP(hlt:∀j∈seen,j<ts.length){t:Xa}(h:t∈La (seen.map (el ts))):t∈ts:=by
 have:=(List.mem_filter.1 h).1;obtain⟨j,hj,e⟩:=List.mem_map.1 this;rw[<-e];exact JK (hlt j hj)
def ji{t:Xa}(e:el ts j=t)(h:t.t.1≠0):La ((seen++[j]).map (el ts))=La (seen.map (el ts))++[t]:=by
 rw[List.map_append,List.map_cons,List.map_nil,e,U9,if_pos h]
def ga{t:Xa}(e:el ts j=t)(h:t.t.1=0):La ((seen++[j]).map (el ts))=La (seen.map (el ts)):=by
 rw[List.map_append,List.map_cons,List.map_nil,e,U9,if_neg (not_not_intro h),List.append_nil]
def Lb(t:Xa):∀v∈Y2 t,v.oneCell'=true:=by
 intro v hv;unfold Y2 at hv;simp only[List.mem_cons,List.not_mem_nil,or_false]at hv;rcases hv with rfl | rfl | rfl | rfl | rfl<;>rfl
section
variable{w0:World}{F0:Gs}{bs:List (Nat×Obj)}{G:Gs->Prop}
theorem Hh{l:List Tm}(hI:Va ts l)(hlen:ts.length<=1000000000)(hG:∀F,G F->WW F ts):
  J8 prog 134 [.map (some m)] ⟨w0,F0,(m,ZF tx (GV ts))::bs,G⟩ (λ(c:Sr×List Xa)=>c.1.v) (λc=>⟨w0,F0,(m,ZF tx (GV ts))::bs,λF=>G F/\Jl F c.1 c.2 (JX l)⟩):=by
 refine J8.intro func134 rfl wy rfl rfl<|Ml hG<|QGi<|wQ rfl<|QGi<|wQ rfl<|QG<|wR rfl<|MT rfl PO .here λb7=>QF4<|QS<|Jo (ι:=QCE ts) [(7,_)] (λi=>[(3,i.v)]) (λi=>(b7,Ln m (GV ts).length i.seen)::(m,ZF tx (GV ts))::(i.ob++bs)) (λi F=>True) (λi=>ts.length-i.seen.length) (⟨[],_,0,[],.nil,List.nodup_nil,(λ_ h=>by cases h),rfl⟩) wS wS QGJ w8 λi=>?_
 simp only[List.cons_append,List.nil_append];have hn0:i.n<=i.seen.length:=by rw[<-i.hn];exact Nat.le_trans (List.length_filter_le _ _) wz
 refine QGi<|RD (kv:=GV ts) (K:=tx) (b:=m) rfl .here .u1 λx hx=>QA (QX I (gh x))<|QF4<|QG ?_
 refine QP I (λhc=>?_) λhc=>?_
 ·obtain⟨j,rfl⟩:∃j,x=some j:=by
   cases x with
   |none=>cases hc
   |some j=>exact⟨j,rfl⟩
  obtain⟨hj,hjn⟩:=hx;rw[Ll]at hj;obtain⟨hs1,hs2,hs3⟩:=R6 i.nd i.lt hj hjn;have htm:=JK hj;have hkj:(GV ts)[j]?=some (Y0 (el ts j).t.2,IJ (el ts j)):=by rw[GV,List.getElem?_map,List.getElem?_eq_getElem hj,J4 hj];rfl
  generalize hte:el ts j=t at htm hkj;refine QHC 5 I<|QA (LV (kv:=GV ts) (K:=tx) (p:=(Y0 t.t.2,IJ t)) I .here .u1 hkj)<|wB 1 I<|Qg Ye λb5=>QZ (vs:=[_,_,_,_,_]) I I I Ju I .here .h5 wW<|QF4<|QGi<|QA (QH I Ya Ql)<|QA (wJ I Ql .here)<|QJ I (λ_ _ f k=>En f ((k.1.2 t htm).1)) λ_=>QHB 3 I ?_
  refine QP I (λhc=>?_) λhc=>?_
  ·have hnz:t.t.1≠0:=λe=>by rw[e]at hc;cases hc
   refine wA 2 I<|QA (QR (vs:=[_,_,_,_,_]) I Ju .here .h5 rfl)<|Qs I (JU ZA) Ju Ye I I λb18=>X1 (bs':=(_::_::_::bs)++i.ob) (.cons _ (.cons _ (.cons _ List.perm_append_comm))) ?_
   refine YC (ob:=i.ob) (k:=1) (sz:=5) (news:=Y2 t) rfl rfl ZA Ju Ye I CO i.hr (Src.row (off:=0) tB (λj v hv=>by rw[Nat.zero_add];show((Y2 t).toArray)[j]?=some v;rw[List.getElem?_toArray];exact hv) rfl) O O (Lb t) (λv19 ob19 hr19=>?_);refine X1 (bs':=_::_::_::(ob19++bs)) (.cons _ (.cons _ (.cons _ List.perm_append_comm)))<|wB 2 I<|Qi ?_
   exact Qj (⟨i.seen++[j],v19,i.n+1,ob19,by rw[ji hte hnz,List.flatMap_append];simpa using hr19,hs1,hs2,by rw[ji hte hnz,List.length_append,i.hn];rfl⟩) (by show _-(i.seen++[j]).length<_;rw[List.length_append];simp only[List.length_singleton];omega) wT (.cons _ QGJ) λF h=>⟨h.1.1.1,trivial⟩
  have hz:t.t.1=0:=R5.1 (by simpa using hc);refine QM<|Qi ?_
  exact Qj (⟨i.seen++[j],i.v,i.n,i.ob,by rw[ga hte hz];exact i.hr,hs1,hs2,by rw[ga hte hz];exact i.hn⟩) (by show _-(i.seen++[j]).length<_;rw[List.length_append];simp only[List.length_singleton];omega) wT (.cons _ QGJ) λF h=>⟨h.1.1,trivial⟩
 obtain rfl:x=none:=by
  cases x with
  |none=>rfl
  |some j=>cases hc
 rw[show nxP (GV ts).length i.seen none=∀j,j<(GV ts).length->j∈i.seen from rfl,Ll]at hx;refine Qv ?_
 repeat first|refine QV ?_|refine QQ wy ?_
 refine QW<|QD<|wR I<|XA I (List.perm_middle.trans (.cons _ List.perm_middle)).symm (qj xg i.hr (λF ⟨⟨hG0,hT⟩,_⟩ t ht=>hT t (IP i.lt ht)) (λt ht=>hI.pw t (IP i.lt ht)) i.hn (wk<|Hm _ _ i.nd i.lt)) λc=>JN _ (λ_ _ f h=>h.2) λhso=>?_
 obtain⟨r,hv,hrn,hrc,hfix⟩:=Q6.fix (w0:=w0) (F0:=F0) (bs1:=(b7,Ln m (GV ts).length (nxS i.seen none))::(m,ZF tx (GV ts))::bs) (G:=_) hso.1;refine X1 List.perm_append_comm<|H6 hfix ?_
 rw[hv];refine QHB 9 I ?_;exact Z2 (⟨r,c.1⟩) I (wN I) (rfl) λw h=>St.imp h (.cons _ QGJ) λF h9=>⟨h9.1.1.1.1,by rw[hrn];exact h9.2,λt ht=>h9.1.1.1.2 t (IP i.lt (hso.2.1.mem_iff.1 ht)),qZ hI i.nd i.lt hx hso.2.1 hso.2.2,by rw[hrn];exact hrc,hso.2.1.length_eq.trans (i.hn.trans hrn.symm)⟩
end
section
variable[Dr][df:Df]{P:Program}{N:Nat}{m:Sl}{w0:World}{F0:Gs}{bs:List (Nat×Obj)}{G:Gs->Prop}
theorem LR{T yT ty e:TypeId}{Y:World->Prop}(hx:ev m x=some (.slice q n c))(hy:ev m y=some (.slice none 0 0))(hT:BU P T=some e):Qt P N m Y (.binOp .eql T x y yT) ty (.bool q.isNone):=λa w _ _ _ _ ha _=>by
 have:=Lib.run_eql_slice_nil (P:=P) w T e q n c 0 0 (JU hT);simp[execOp,ha.ev hx,ha.ev hy,eqGuard,this]
theorem Src.QBA{sz:Nat}{a:Addr}{news:List Value}(hr:∀F,G F->Qy F (some a) k sz news)(hl:news.length=k*sz):Src ⟨w0,F0,bs,G⟩ sz (.slice (some a) k c) k news:=by
 refine⟨hl,.inr ⟨a,c,rfl,λw hw j v hv=>?_⟩⟩;have hk:0<k:=by
  rcases Nat.eq_zero_or_pos k with h | h
  ·rw[h,Nat.zero_mul]at hl;rw[List.length_eq_zero_iff.1 hl]at hv;simp at hv
  exact h
 obtain⟨F,h⟩:=id hw;obtain⟨b,off,_,_,e,_,_⟩:=(hr F h.hG).2 hk;cases e;rw[Yj];exact KD hw hr hk hv
theorem Src.QCu{sz:Nat}{news:List Value}(h0:q=none->k=0)(hr:∀F,G F->Qy F q k sz news)(hl:news.length=k*sz):Src ⟨w0,F0,bs,G⟩ sz (.slice q k c) k news:=by
 cases q with
 |some a=>exact .QBA hr hl
 |none =>
  have h:=h0 rfl;subst h;rw[Nat.zero_mul,List.length_eq_zero_iff]at hl;subst hl;exact .nil
theorem Qy.QD1{sz:Nat}{cs:List Value}(h:Qy F q n sz cs)(e:q=none):n=0:=by
 rcases Nat.eq_zero_or_pos n with g | g
 ·exact g
 obtain⟨_,_,_,_,e2,_⟩:=h.2 g;rw[e]at e2;cases e2
theorem jd(h:JP F ⟨none,n,c⟩ l):Q6 3 1 (.slice none 0 0) n (l.map Q7) []:=by
 obtain⟨⟨_,h1⟩,h2,_⟩:=h;have h0:n=0:=by
  rcases Nat.eq_zero_or_pos n with h | h
  ·exact h
  obtain⟨_,_,_,_,e,_⟩:=h1 h;cases e
 subst h0;rw[List.length_eq_zero_iff.1 h2];exact .nil
theorem C1(l:List Int):∀v∈l.map Q7,v.oneCell'=true:=by
 intro v hv;obtain⟨x,_,rfl⟩:=List.mem_map.1 hv;rfl
end
section
variable{w0:World}{F0:Gs}{bs:List (Nat×Obj)}{G:Gs->Prop}
theorem Tt{r:Sr}(hG:∀F,G F->JP F r l)(hn:l.length=r.n)(hl:l.length<=1000000000):
  J8 prog 48 [r.v] ⟨w0,F0,bs,G⟩ (λ(c:Value×List (Nat×Obj))=>c.1) (λc=>⟨w0,F0,bs++c.2,λF=>G F/\Q6 3 1 c.1 r.n (l.map Q7) c.2⟩):=by
 obtain⟨q,n,c⟩:=r;dsimp only[Sr.v]at hn ⊢;refine J8.intro func48 rfl wy rfl rfl<|Ml hG<|QGi<|wQ rfl<|QG<|wR rfl<|QA (LR rfl rfl Qk)<|QE<|QD ?_
 refine QP I (λhc=>?_) λhc=>?_
 ·obtain rfl:q=none:=by
   cases q with
   |none=>rfl
   |some a=>cases hc
  refine wA 6 I ?_;exact Z2 (⟨.slice none 0 0,[]⟩) I (wN I) (rfl) λw h=>St.imp h wz λF h9=>⟨h9.1,jd h9.2⟩
 obtain⟨a,rfl⟩:∃a,q=some a:=by
  cases q with
  |none=>cases hc
  |some a=>exact⟨a,rfl⟩
 refine QHC 4 I<|V4 (JU Qk) Qu λb5=>QF5 I<|X1 (bs':=bs++[(b5,.cells ([]++[]:List Value).toArray 3 (0,0))]) (List.perm_append_comm (l₁:=[_]))<|YC (ob:=[(b5,.cells ([]++[]:List Value).toArray 3 (0,0))]) (n:=0) (k:=n) (sz:=1) (news:=l.map Q7) rfl rfl Qk Qu BR I D7 (.some rfl rfl (Nat.le_refl _) wu) (Src.QBA (λF hG=>hG.2.1) (by simp[hn])) O O (C1 l) λv7 ob7 hr7=>?_
 rw[Nat.zero_add,List.nil_append]at hr7;refine wQ I<|QT ?_
 exact Z2 (⟨v7,ob7⟩) I (wN I) (rfl) λw h=>St.imp h QGJ λF h9=>⟨h9.1,hr7⟩
end
structure Gn where
 f:List UInt8
 r:Sr
 k:List Int
variable{ps:List Gn}
instance :Inhabited Gn:=⟨⟨[],⟨none,0,0⟩,[]⟩⟩
def KI(t:Gn):List Value:=[tx t.f,.slice t.r.q t.r.n t.r.cap]
def Z4(t:Gn):(KI t).length=2:=rfl
def Zz(F:Gs)(ts:List Gn):Prop:=∀t∈ts,JP F t.r t.k
def Zz.le{ts:List Gn}(h:Zz F ts)(k:Gs.le F F'):Zz F' ts:=λt ht=>(h t ht).le k
def zS(t:Gn):Tm:=(Yn t.f,t.k)
structure QCC(ps:List Gn) where
 i:Nat
 ts:List Xa
 le:i<=ps.length
 hI:Va ts ((ps.take i).map zS)
def qU(l:List Tm)(i:Nat):Z3 (l.take i)<=Z3 l:=by
 have:=Xq (l.take i) (l.drop i);rw[List.take_append_drop]at this;omega
theorem Mo{l:List Tm}{t:Tm}(h:t∈l):Jn t.1<=Z3 l:=by
 induction l with
 |nil=>cases h
 |cons x l ih =>
  have e:Z3 (x::l)=Jn x.1+1+Z3 l:=by unfold Z3;rw[List.map_cons,List.sum_cons]
  rcases List.mem_cons.1 h with rfl | h
  ·omega
  have:=ih h;omega
section
variable{P:Program}{w:World}{F:Gs}{f:FuncId}{args:List Value}{γ:Type}{val:γ->Value}{fact:γ->Gs->Prop}
theorem Ts{r:Sr}(hF:Fits F w)(hR:JP F r l)(hl:l.length<=1000000000):QU prog 48 [r.v] w F (λ(c:Sr)=>c.v) (λc F=>JP F c l):=by
 have h:=Tt (w0:=w) (F0:=F) (bs:=[]) (G:=λF'=>Gs.le F F') (r:=r) (l:=l) (λF' h=>hR.le h) hR.2.1 hl;refine⟨h.1,(h.2 w (St.start hF λ_ h=>h)).mono ?_⟩;rintro e w' ⟨⟨v,ob⟩,rfl,hw⟩;obtain⟨F1,h1⟩:=id hw;have ho:=(h1.hG).2;dsimp only at ho hw;obtain⟨s,hv,hsn,hsc,hfix⟩:=Q6.fix (w0:=w) (F0:=F) (bs1:=[]) ho;obtain⟨F',h'⟩:=hfix w' hw;exact⟨s,F',by rw[hv],h'.ext,h'.le,h'.old,h'.fits,λF'' hle=>⟨by rw[hsn];exact(h'.g F'' hle).2,by rw[hsn];exact hR.2.1,by rw[hsn];exact hsc⟩⟩
end
section
theorem yw{r:Sr}(hF:Fits F w)(hGl:JG F)(hR:Qy F r.q r.n 2 (ps.flatMap KI))(hP:Zz F ps)(hn:ps.length=r.n)(hl:ps.length<=100000)(hv:∀t∈ps,Jy t.f=0/\t.f.length<=1000000/\PW t.k)(hz:Z3 (ps.map zS)<=40000000):
  QU prog 45 [r.v] w F (λ(c:Sr×List Xa)=>c.1.v) (λc F=>Jl F c.1 c.2 (JX (ps.map zS))):=by
 obtain⟨q,n,cap⟩:=r;dsimp only[Sr.v]at hn hR ⊢;refine QU.intro (G:=λF=>JG F/\Qy F q n 2 (ps.flatMap KI)/\Zz F ps) func45 rfl wy rfl rfl hF (λF' hF'=>⟨hGl.le hF',hR.le hF',hP.le hF'⟩)<|QGi<|wQ rfl<|QGi<|V3 tx λm=>wQ rfl<|QG<|wR rfl<|QA (Qf rfl ZI)<|QF5 rfl<|QF4<|QS<|Jo (ι:=QCC ps) [(3,_),(7,_),(8,_)] (λi=>[(9,.int .i64 ((i.i:Nat):Int))]) (λi=>[(m,ZF tx (GV i.ts))]) (λi F=>WW F i.ts) (λi=>ps.length-i.i) (⟨0,[],Nat.zero_le _,Va.nil⟩) wU wS QGJ (λ_ _ _ h=>by cases h) λi=>?_
 simp only[List.cons_append,List.nil_append];have hi:=i.le;refine wA 6 I ?_;refine QP I (λhc=>?_) λhc=>?_
 ·have hlt:i.i<ps.length:=wk<|QGx hc
  have hv1:=hv _ (JK hlt);have hz1:=qU (ps.map zS) i.i;rw[<-List.map_take]at hz1;have hz2:Jn (zS (el ps i.i)).1<=Z3 (ps.map zS):=Mo (List.mem_map_of_mem (JK hlt));dsimp only[zS]at hz2;have hl1:=hv1.2.2.2;refine QHC 6 I<|QA (Q2 (n:=n) i.i (λF h9=>h9.1.2.1) rfl rfl ZI Zl O)<|QA (XZ (n:=n) (vs:=[tx (el ps i.i).f,.slice (el ps i.i).r.q (el ps i.i).r.n (el ps i.i).r.cap]) ((i.i)*2) (λF h9=>h9.1.2.1) O I Zl I λj v hv=>Jg (f:=KI) (l:=ps) Z4 O hv)<|Qg Ro λb5=>QZ (vs:=[_,_]) I I I Zl I .here .h2 wT<|QF4<|JL (.cons_cons _ (.cons _ .slnil)) mixed wm<|QL (QC I)<|QL (QH I G5 Jk)<|QL (Qh I Jk .here .h1)<|Qc I (λ_ _ f k=>Mc f k.1.1 ((Zb (hv _ (JK hlt)).1).1) (wk<|(hv _ (JK hlt)).2.1)) λx16=>QL (QH I KB Q5)<|QL (Qh I Q5 .here (.skip .h1))<|Qc I (λ_ _ f k=>Ts f (r:=(el ps i.i).r) (k.1.1.2.2 _ (JK hlt)) O) λc19=>RE I (List.Perm.swap _ _ _) (DH (r:=c19) (x:=x16) i.hI hv1.2.2 O O λF h9=>⟨h9.1.1.1.1,h9.1.1.2,h9.1.2,h9.2⟩) (λn w h=>St.imp h (.cons _ QGJ) λF h=>h.1.1.1) λn20=>V8 _ (λ_ _ f h=>h.2.2) λh20=>?_
  have hI2:Va (addN i.ts n20) ((ps.take (i.i+1)).map zS):=by
   have:=i.hI.add hv1.2.2 h20;rw[Xg hlt,List.map_append];exact this
  refine Q3<|Qi<|QD<|QB<|QA (Qm I I O)<|wB 2 I ?_
  exact Qj (⟨i.i+1,addN i.ts n20,hlt,hI2⟩) (by show ps.length-(i.i+1)<ps.length-i.i;omega) wV (.cons_cons _ (.cons _ .slnil)) λF h=>⟨h.1.1.1.1,h.2.1⟩
 have hge:i.i=ps.length:=wk<|QGy hc
 refine Qv ?_
 repeat first|refine QV ?_|refine QQ wy ?_
 refine QW<|QHD 4 I ?_
 have hI:=i.hI;rw[hge,List.take_length]at hI;refine XA I (List.Perm.refl _) (Hh hI (by have:=hI.ln;rw[List.length_map]at this;omega) tB) (λc23=>wQ I<|QT ?_);exact QO (c23) rfl (wN I) (rfl) tB
end
abbrev VO:=Sr×List Xa
instance :Inhabited VO:=⟨(⟨none,0,0⟩,[])⟩
def MR(F:Gs)(ls:List VO):Prop:=∀e∈ls,Jl F e.1 e.2 (JQ e.2)
def MR.le{ls:List VO}(h:MR F ls)(k:Gs.le F F'):MR F' ls:=λe he=>(h e he).le k
def Dv(ls:List VO):List Tm:=ls.flatMap λe=>JQ e.2
structure QFV(ls:List VO) where
 i:Nat
 ts:List Xa
 le:i<=ls.length
 hI:Va ts (Dv (ls.take i))
structure D5(l0:List Tm)(te:List Xa) where
 j:Nat
 ts:List Xa
 le:j<=te.length
 hI:Va ts (l0++JQ (te.take j))
def Zq{te:List Xa}(h:j<te.length):JQ (te.take (j+1))=JQ (te.take j)++[(el te j).t]:=by unfold JQ;rw[Xg h,List.map_append];rfl
def yM{a b c:List Tm}(e:a++b=c):Z3 a<=Z3 c:=by rw[<-e,Xq];omega
def CU{ls:List VO}(h:i<ls.length):Dv (ls.take (i+1))=Dv (ls.take i)++JQ (el ls i).2:=by unfold Dv;rw[Xg h,List.flatMap_append];simp
def vQ{ls:List VO}(h:i<ls.length):Z3 (Dv (ls.take i)++JQ ((el ls i).2.take j))<=Z3 (Dv ls):=by
 have e1:Dv ls=Dv (ls.take i)++(JQ (el ls i).2++Dv (ls.drop (i+1))):=by
  have:ls=ls.take i++el ls i::ls.drop (i+1):=by rw[<-Dk h,List.take_append_drop]
  unfold Dv
  conv=>lhs;rw[this]
  rw[List.flatMap_append,List.flatMap_cons]
 have e2:JQ (el ls i).2=JQ ((el ls i).2.take j)++JQ ((el ls i).2.drop j):=by unfold JQ;rw[<-List.map_append,List.take_append_drop]
 have h1:=congrArg Z3 e1;have h2:=congrArg Z3 e2;rw[Xq,Xq]at h1;rw[Xq]at h2;rw[Xq];omega
theorem jZ{p q:VO}(hF:Fits F w)(hGl:JG F)(hP:Jl F p.1 p.2 (JQ p.2))(hQ:Jl F q.1 q.2 (JQ q.2))(hp:(∀t∈p.2,PW t.t.2)/\∀t∈q.2,PW t.t.2)(hl:p.2.length<=400000000/\q.2.length<=400000000)(hz:Z3 (JQ p.2++JQ q.2)<=40000000):
  QU prog 53 [p.1.v,q.1.v] w F (λ(c:VO)=>c.1.v) (λc F=>Jl F c.1 c.2 (JX (JQ p.2++JQ q.2))):=by
 have hpw:∀e∈[p,q],(∀t∈e.2,PW t.t.2)/\e.2.length<=400000000/\e.2.length=e.1.n:=by
  intro e he;simp only[List.mem_cons,List.not_mem_nil,or_false]at he;rcases he with rfl | rfl
  ·exact⟨hp.1,hl.1,hP.2.2.2.2⟩
  exact⟨hp.2,hl.2,hQ.2.2.2.2⟩
 have hall:Dv [p,q]=JQ p.2++JQ q.2:=by simp[Dv]
 rw[<-hall]at hz ⊢;dsimp only[Sr.v];refine QU.intro (G:=λF=>JG F/\MR F [p,q]) func53 rfl wy rfl rfl hF (λF' hF'=>⟨hGl.le hF',MR.le (by intro e he;simp only[List.mem_cons,List.not_mem_nil,or_false]at he;rcases he with rfl | rfl;exact hP;exact hQ) hF'⟩)<|QGi<|wQ rfl<|QGi<|V3 tx λm=>wQ rfl<|QG<|wR rfl<|QF5 rfl<|Qs rfl (JU KS) Vg qH rfl rfl λb13=>QA (Qf rfl KS)<|QF5 rfl<|QF4<|QS<|Jo (ι:=QFV [p,q]) [(5,_),(13,_),(14,_)] (λi=>[(15,.int .i64 ((i.i:Nat):Int))]) (λi=>[(m,ZF tx (GV i.ts))]) (λi F=>WW F i.ts) (λi=>2-i.i) (⟨0,[],Nat.zero_le _,Va.nil⟩) wU wS QGJ (λ_ _ _ h=>by cases h) λi=>?_
 simp only[List.cons_append,List.nil_append];have hi:=i.le;simp only[List.length_cons,List.length_nil]at hi;refine wA 6 I ?_;refine QP I (λhc=>?_) λhc=>?_
 ·have hlt:i.i<[p,q].length:=by have:=QGx hc;simp only[List.length_cons,List.length_nil];omega
  have hem:=JK hlt;have hpe:=hpw _ hem;have hln:=hpe.2.2;have hln2:=hpe.2.1;refine QHC 6 I<|QA (Q2 (n:=2) i.i (λF h9=>Qy.of (n:=2) (sz:=1) (cs:=[p,q].map λe=>e.1.v) h9.1.2 I) rfl rfl KS Vg (by simpa using hlt))<|QA (Qz (n:=2) (i.i*1) (λF h9=>Qy.of (n:=2) (sz:=1) (cs:=[p,q].map λe=>e.1.v) h9.1.2 I) wu rfl Vg (ZD (f:=λe:VO=>e.1.v) (l:=[p,q]) hlt))<|QHB 6 I<|QA (Qf I ZA)<|QHB 4 I<|Jo (ι:=D5 (Dv ([p,q].take i.i)) (el [p,q] i.i).2) [(5,_),(13,_),(14,_),(15,_),(19,_),(20,_)] (λi2=>[(21,.int .i64 ((i2.j:Nat):Int))]) (λi2=>[(m,ZF tx (GV i2.ts))]) (λi2 F=>WW F i2.ts) (λi2=>(el [p,q] i.i).2.length-i2.j) (⟨0,i.ts,Nat.zero_le _,by simpa[JQ]using i.hI⟩) wX wS QGJ tB λi2=>?_
  simp only[List.cons_append,List.nil_append];have hj:=i2.le;refine wA 6 I ?_;refine QP I (λhc=>?_) λhc=>?_
  ·have hlt2:i2.j<(el [p,q] i.i).2.length:=wk<|QGx hc
   have htm:=JK hlt2;have hz1:=vQ (j:=i2.j) hlt;have hz2:Jn (el (el [p,q] i.i).2 i2.j).t.1<=Z3 (Dv [p,q]):=Mo (List.mem_flatMap.2 ⟨_,hem,List.mem_map_of_mem htm⟩);refine QHC 6 I<|QA (Q2 (n:=(el [p,q] i.i).1.n) (i2.j) (λF h9=>(h9.1.1.1.2 _ hem).1) rfl rfl ZA Ju O)<|QA (XZ (n:=(el [p,q] i.i).1.n) (vs:=[.int .i64 (el (el [p,q] i.i).2 (i2.j)).x.n.s,.slice (el (el [p,q] i.i).2 (i2.j)).x.n.q (el (el [p,q] i.i).2 (i2.j)).x.n.n (el (el [p,q] i.i).2 (i2.j)).x.n.cap,.int .i64 (el (el [p,q] i.i).2 (i2.j)).x.d.s,.slice (el (el [p,q] i.i).2 (i2.j)).x.d.q (el (el [p,q] i.i).2 (i2.j)).x.d.n (el (el [p,q] i.i).2 (i2.j)).x.d.cap,.slice (el (el [p,q] i.i).2 (i2.j)).r.q (el (el [p,q] i.i).2 (i2.j)).r.n (el (el [p,q] i.i).2 (i2.j)).r.cap]) ((i2.j)*5) (λF h9=>(h9.1.1.1.2 _ hem).1) O I Ju I λj v hv=>Jg (f:=Y2) (l:=(el [p,q] i.i).2) Yx O hv)<|Qg Ye λb9=>QZ (vs:=[_,_,_,_,_]) I I I Ju I .here .h5 wW<|QHB 4 I<|QA (QH I Ya Ql)<|QA (wJ I Ql .here)<|QA (QH I ZK Q5)<|QA (Qh I Q5 .here (.skip (.skip (.skip (.skip .h1)))))<|XA I (List.Perm.swap _ _ _) (DH (r:=(el (el [p,q] i.i).2 i2.j).r) (x:=(el (el [p,q] i.i).2 i2.j).x) i2.hI (hpe.1 _ htm) O O λF h9=>⟨h9.1.1.1.1,h9.2,((h9.1.1.1.2 _ hem).2.1 _ htm).1,((h9.1.1.1.2 _ hem).2.1 _ htm).2⟩) λn30=>JN _ (λ_ _ f h=>h.2.2) λh30=>QE<|Qi<|QD<|QB<|QA (Qm I I O) ?_
   refine wB 2 I ?_;exact Qj (⟨i2.j+1,addN i2.ts n30,hlt2,by rw[Zq hlt2,<-List.append_assoc];exact i2.hI.add (hpe.1 _ htm) h30⟩) (by show _-(i2.j+1)<_-i2.j;omega) wY (.cons_cons _ (.cons _ .slnil)) λF h=>⟨h.1.1,h.2.1⟩
  have hge2:i2.j=(el [p,q] i.i).2.length:=wk<|QGy hc
  refine Qv ?_
  repeat first|refine QV ?_|refine QQ wy ?_
  refine QW<|Qi<|QD<|QB<|QA (Qm I I O)<|wB 2 I ?_
  exact Qj (⟨i.i+1,i2.ts,hlt,by rw[CU hlt];have:=i2.hI;rw[hge2,List.take_length]at this;exact this⟩) (by show 2-(i.i+1)<2-i.i;simp only[List.length_cons,List.length_nil]at hlt;omega) wV QGJ λF h=>⟨h.1.1,h.2⟩
 have hge:i.i=[p,q].length:=by have:=QGy hc;simp only[List.length_cons,List.length_nil];omega
 refine Qv ?_
 repeat first|refine QV ?_|refine QQ wy ?_
 refine QW<|QHD 4 I ?_
 have hI:=i.hI;rw[hge,List.take_length]at hI;refine XA I (List.Perm.refl _) (Hh hI (by have:=hI.ln;rw[hall,List.length_append]at this;simp only[JQ,List.length_map]at this;omega) tB) (λc34=>wQ I<|QT ?_);exact QO (c34) rfl (wN I) (rfl) tB
section
variable{P:Program}{Q:Exit->Act->World->Prop}{N:Nat}{m:Sl}{E0:Env}{ops:Array Oper}{l:List Oper}{w0:World}{F0:Gs}{bs:List (Nat×Obj)}{G:Gs->Prop}
theorem Na[Dr]{bs':List (Nat×Obj)}(hp:bs.Perm bs')(k:JD P ops Q E0 l N m ⟨w0,F0,bs',G⟩):JD P ops Q E0 l N m ⟨w0,F0,bs,G⟩:=λhE a w ha hw=>k (λw h=>hE w (h.perm hp.symm)) a w ha (hw.perm hp)
end
abbrev Pt:=List (List UInt8×List Int)
def J0(ts:List Gn):Pt:=ts.map λt=>(t.f,t.k)
def X9(l:List Tm):Pt:=l.map λt=>(JO t.1,t.2)
def Ka(F:Gs)(s:Sr)(ts:List Gn)(p:Pt):Prop:=Qy F s.q s.n 2 (ts.flatMap KI)/\Zz F ts/\J0 ts=p/\s.n<=s.cap/\ts.length=s.n
def Ka.le{ts:List Gn}{p:Pt}(h:Ka F s ts p)(k:Gs.le F F'):Ka F' s ts p:=⟨h.1.le k,h.2.1.le k,h.2.2⟩
abbrev K8:=Sr×List Gn
variable{ls:List K8}
def vN(t:Gn):∀v∈KI t,v.oneCell'=true:=by
 intro v hv;unfold KI at hv;simp only[List.mem_cons,List.not_mem_nil,or_false]at hv;rcases hv with rfl | rfl<;>rfl
structure QFF(ts:List Xa) where
 i:Nat
 v:Value
 ob:List (Nat×Obj)
 out:List Gn
 le:i<=ts.length
 hr:Q6 54 2 v i (out.flatMap KI) ob
 ho:J0 out=X9 (JQ (ts.take i))
def ub{out:List Gn}(hi:i<=ts.length)(h:J0 out=X9 (JQ (ts.take i))):out.length=i:=by
 have:=congrArg List.length h;simp only[J0,X9,JQ,List.length_map,List.length_take]at this;omega
theorem LX{p:VO}(hF:Fits F w)(hGl:JG F)(hP:Jl F p.1 p.2 (JQ p.2))(hp:∀t∈p.2,PW t.t.2)(hl:p.2.length<=1000000)(hz:∀t∈p.2,Jn t.t.1<=100000000):
  QU prog 151 [p.1.v] w F (λ(c:K8)=>c.1.v) (λc F=>Ka F c.1 c.2 (X9 (JQ p.2))):=by
 obtain⟨⟨q,n,cap⟩,ts⟩:=p;have hln:ts.length=n:=hP.2.2.2.2;dsimp only[Sr.v]at hP hl hz ⊢;refine QU.intro (G:=λF=>JG F/\Jl F ⟨q,n,cap⟩ ts (JQ ts)) func151 rfl wy rfl rfl hF (λF' hF'=>⟨hGl.le hF',hP.le hF'⟩)<|QGi<|wQ rfl<|QGi<|wQ rfl<|QG<|wR rfl<|QA (Qf rfl ZA)<|QF5 rfl<|QF4<|QS<|Jo (ι:=QFF ts) [(6,_),(7,_)] (λi=>[(3,i.v),(8,.int .i64 ((i.i:Nat):Int))]) (λi=>i.ob) (λi F=>Zz F i.out) (λi=>ts.length-i.i) (⟨0,_,[],[],Nat.zero_le _,.nil,by simp[JQ,J0,X9]⟩) wT wT QGJ (λ_ _ _ h=>by cases h) λi=>?_
 simp only[List.cons_append,List.nil_append];have hi:=i.le;refine wA 6 I ?_;refine QP I (λhc=>?_) λhc=>?_
 ·have hlt:i.i<ts.length:=wk<|QGx hc
  have htm:=JK hlt;refine QHC 6 I<|QA (Q2 (n:=n) i.i (λF h9=>(h9.1.2).1) rfl rfl ZA Ju O)<|QA (XZ (n:=n) (vs:=[.int .i64 (el ts i.i).x.n.s,.slice (el ts i.i).x.n.q (el ts i.i).x.n.n (el ts i.i).x.n.cap,.int .i64 (el ts i.i).x.d.s,.slice (el ts i.i).x.d.q (el ts i.i).x.d.n (el ts i.i).x.d.cap,.slice (el ts i.i).r.q (el ts i.i).r.n (el ts i.i).r.cap]) ((i.i)*5) (λF h9=>(h9.1.2).1) O I Ju I λj v hv=>Jg (f:=Y2) (l:=ts) Yx O hv)<|Qg Ye λb5=>QZ (vs:=[_,_,_,_,_]) I I I Ju I .here .h5 wW<|QF4<|JL tE mixed wm<|QL (QC I)<|QL (QH I Ya Ql)<|QL (wJ I Ql .here)<|Qc I (λ_ _ f k=>Mz f k.1.1 (k.1.2.2.1 _ htm |>.1) (hz _ htm)) λ_=>QL (QH I ZK Q5)<|QL (Qh I Q5 .here (.skip (.skip (.skip (.skip .h1)))))<|Qc I (λ_ _ f k=>Ts f (r:=(el ts i.i).r) (k.1.1.2.2.1 _ htm).2 (wk<|(hp _ htm).2)) λc18=>QL (XL I cK Ro (wP I I I)) ?_
  refine Jd I (JU ZI) Zl Ro I I (λb20=>?_) (λw h=>h.imp tE λF h=>h.1.1);refine Na (List.perm_append_comm (l₁:=[_])) ?_;refine B4 (n:=i.i) (k:=1) (sz:=2) (news:=KI ⟨JO (el ts i.i).t.1,c18,(el ts i.i).t.2⟩) I I ZI Zl Ro I QBz i.hr (Src.row (off:=0) tB (λj v hv=>by rw[Nat.zero_add];show((KI ⟨JO (el ts i.i).t.1,c18,(el ts i.i).t.2⟩).toArray)[j]?=some v;rw[List.getElem?_toArray];exact hv) rfl) O O (vN _) QGJ (λ_ h=>h.1.1.1) (λv21 ob21 hr21=>?_);refine Na (List.perm_append_comm (l₂:=[_]))<|QL (QF I)<|Q3<|Qi<|QD<|QB<|QA (Qm I I O)<|wB 2 I ?_
  exact Qj (⟨i.i+1,v21,ob21,i.out++[⟨JO (el ts i.i).t.1,c18,(el ts i.i).t.2⟩],hlt,by rw[List.flatMap_append];simpa using hr21,by unfold J0 X9;rw[Zq hlt,List.map_append,List.map_append];have:=i.ho;unfold J0 X9 at this;rw[this];rfl⟩) (by show ts.length-(i.i+1)<ts.length-i.i;omega) wV (.cons _ QGJ) (λF ⟨⟨⟨⟨hB,hT⟩,_⟩,h18⟩,_⟩=>⟨hB,λt ht=>by
   rcases List.mem_append.1 ht with ht | ht
   ·exact hT t ht
   rw[List.mem_singleton.1 ht];exact h18⟩)
 have hge:i.i=ts.length:=wk<|QGy hc
 refine Qv ?_
 repeat first|refine QV ?_|refine QQ wy ?_
 refine QW<|QHD 3 I ?_
 obtain⟨r,hv,hrn,hrc,hfix⟩:=Q6.fix (w0:=w) (F0:=F) (bs1:=[]) (G:=_) i.hr;refine H6 hfix ?_;rw[hv];refine QHB 5 I ?_;exact QO ((r,i.out)) I (wN I) (rfl) λF h9=>⟨by rw[hrn];exact h9.2,h9.1.2,by rw[i.ho,hge,List.take_length],by rw[hrn];exact hrc,by rw[hrn];exact ub hi i.ho⟩
def Q6.pos{T:TypeId}{sz:Nat}{v:Value}{cs:List Value}{ob:List (Nat×Obj)}(h:Q6 T sz v n cs ob)(hn:0<n):∃b cap rest,v = .slice (Option.some ⟨b,0,Option.none⟩) n cap/\ob=[(b,.cells (cs++rest).toArray T (0,0))]/\cs.length=n*sz/\cs.length+rest.length=cap*sz/\n<=cap/\cap<=maxLen:=by
 cases h with
 |nil=>omega
 |some h1 h2 h3 h4=>exact⟨_,_,_,rfl,rfl,h1,h2,h3,h4⟩
structure PmO(p q:List Xa) where
 i:Nat
 ts:List Xa
 le:i<=p.length
 hI:Va ts (JC (JQ (p.take i)) (JQ q))
structure PmJ(l0:List Tm)(s:Tm)(q:List Xa) where
 j:Nat
 ts:List Xa
 le:j<=q.length
 hI:Va ts (l0++Jf s (JQ (q.take j)))
structure PmK(n:Nat)(a b:List Int) where
 k:Nat
 L:List Int
 v:Value
 ob:List (Nat×Obj)
 le:k<=b.length
 hr:Q6 3 1 v n (L.map Q7) ob
 hL:L=Jq (a.take k) (b.take k)++a.drop k
def CY(h1:k<a.length)(h2:k<b.length):(Jq (a.take k) (b.take k)++a.drop k).set k (Qd a k+Qd b k)=Jq (a.take (k+1)) (b.take (k+1))++a.drop (k+1):=by
 have hl:(Jq (a.take k) (b.take k)).length=k:=by unfold Jq;rw[List.length_zipWith,List.length_take,List.length_take];omega
 have hs:Jq (a.take (k+1)) (b.take (k+1))=Jq (a.take k) (b.take k)++[Qd a k+Qd b k]:=by
  rw[Xg h1,Xg h2,Zk h1,Zk h2];unfold Jq;rw[List.zipWith_append (by rw[List.length_take,List.length_take];omega)];rfl
 rw[hs,Dk h1,List.set_append_right _ _ O,hl,Nat.sub_self];simp
def FL(h1:k<a.length)(h2:k<b.length):Qd (Jq (a.take k) (b.take k)++a.drop k) k=Qd a k:=by
 have hl:(Jq (a.take k) (b.take k)).length=k:=by unfold Jq;rw[List.length_zipWith,List.length_take,List.length_take];omega
 have h3:k<(Jq (a.take k) (b.take k)++a.drop k).length:=by rw[List.length_append,hl,List.length_drop];omega
 rw[Zk h3,Zk h1,J4 h3,J4 h1,List.getElem_append_right O];simp[hl]
def PD{p q:List Xa}(h:i<p.length):JC (JQ (p.take (i+1))) (JQ q)=JC (JQ (p.take i)) (JQ q)++Jf (el p i).t (JQ q):=by
 rw[Zq h,VP];congr 1;simp[JC]
def jQ{p q:List Xa}(h:i<p.length):Z3 (JC (JQ (p.take i)) (JQ q)++Jf (el p i).t (JQ (q.take j)))<=Z3 (JC (JQ p) (JQ q)):=by
 have e1:JQ p=JQ (p.take (i+1))++JQ (p.drop (i+1)):=by unfold JQ;rw[<-List.map_append,List.take_append_drop]
 have e2:JQ q=JQ (q.take j)++JQ (q.drop j):=by unfold JQ;rw[<-List.map_append,List.take_append_drop]
 have h1:Z3 (JC (JQ p) (JQ q))=Z3 (JC (JQ (p.take (i+1))++JQ (p.drop (i+1))) (JQ q)):=by rw[<-e1]
 rw[VP,PD h,Xq,Xq]at h1;have h2:Z3 (Jf (el p i).t (JQ q))=Z3 (Jf (el p i).t (JQ (q.take j)++JQ (q.drop j))):=by rw[<-e2]
 rw[Wb,Xq]at h2;rw[Xq];omega
theorem Nd(p q:List Tm):(JC p q).length=p.length*q.length:=by
 induction p with
 |nil=>simp[JC]
 |cons s p ih=>rw[XK,List.length_append,ih,List.length_cons,Nat.add_mul];simp[Jf];omega
def uF{a b:Nat}(h:a<=10000)(k:b<=10000):a*b<=100000000:=Nat.mul_le_mul h k
theorem pk{p q:VO}(hF:Fits F w)(hGl:JG F)(hP:Jl F p.1 p.2 (JQ p.2))(hQ:Jl F q.1 q.2 (JQ q.2))(hw:(∀t∈p.2,t.t.2.length=N)/\∀t∈q.2,t.t.2.length=N)(hN:N<=1000)(hl:p.2.length<=10000/\q.2.length<=10000)
  (hpw:(∀t∈p.2,PW t.t.2)/\(∀t∈q.2,PW t.t.2)/\∀s∈p.2,∀t∈q.2,PW (Jq s.t.2 t.t.2)) (hz1:Z3 (JQ p.2)<=20000000/\Z3 (JQ q.2)<=20000000) (hz:Z3 (JC (JQ p.2) (JQ q.2))<=40000000) :
  QU prog 153 [p.1.v,q.1.v] w F (λ(c:VO)=>c.1.v) (λc F=>Jl F c.1 c.2 (JX (JC (JQ p.2) (JQ q.2)))):=by
 have hpn:=hP.2.2.2.2;have hqn:=hQ.2.2.2.2;dsimp only[Sr.v];refine QU.intro (G:=λF=>JG F/\Jl F p.1 p.2 (JQ p.2)/\Jl F q.1 q.2 (JQ q.2)) func153 rfl wy rfl rfl hF (λF' hF'=>⟨hGl.le hF',hP.le hF',hQ.le hF'⟩)<|QGi<|wQ rfl<|QGi<|V3 tx λm=>wQ rfl<|QG<|wR rfl<|QA (Qf rfl ZA)<|QF5 rfl<|QF4<|QS<|Jo (ι:=PmO p.2 q.2) [(1,_),(5,_),(14,_),(15,_)] (λi=>[(16,.int .i64 ((i.i:Nat):Int))]) (λi=>[(m,ZF tx (GV i.ts))]) (λi F=>WW F i.ts) (λi=>p.2.length-i.i) (⟨0,[],Nat.zero_le _,Va.nil⟩) wV wS QGJ (λ_ _ _ h=>by cases h) λi=>?_
 simp only[List.cons_append,List.nil_append];have hi:=i.le;refine wA 6 I ?_;refine QP I (λhc=>?_) λhc=>?_
 ·have hlt:i.i<p.2.length:=wk<|QGx hc
  have hta:=JK hlt;have hna:=hw.1 _ hta;have hra:=(hP.2.1 _ hta).2.2.1;refine QHC 6 I<|QA (Q2 (n:=p.1.n) i.i (λF h9=>(h9.1.2.1).1) rfl rfl ZA Ju O)<|QA (XZ (n:=p.1.n) (vs:=[.int .i64 (el p.2 i.i).x.n.s,.slice (el p.2 i.i).x.n.q (el p.2 i.i).x.n.n (el p.2 i.i).x.n.cap,.int .i64 (el p.2 i.i).x.d.s,.slice (el p.2 i.i).x.d.q (el p.2 i.i).x.d.n (el p.2 i.i).x.d.cap,.slice (el p.2 i.i).r.q (el p.2 i.i).r.n (el p.2 i.i).r.cap]) ((i.i)*5) (λF h9=>(h9.1.2.1).1) O I Ju I λj v hv=>Jg (f:=Y2) (l:=p.2) Yx O hv)<|Qg Ye λb7=>QZ (vs:=[_,_,_,_,_]) I I I Ju I .here .h5 wW<|QHB 5 I<|QA (Qf I ZA)<|QHB 4 I<|Jo (ι:=PmJ (JC (JQ (p.2.take i.i)) (JQ q.2)) (el p.2 i.i).t q.2) [(1,_),(5,_),(7,_),(14,_),(15,_),(16,_),(20,_),(21,_)] (λi2=>[(22,.int .i64 ((i2.j:Nat):Int))]) (λi2=>[(b7,.cells (Y2 (el p.2 i.i)).toArray 101 (0,0)),(m,ZF tx (GV i2.ts))]) (λi2 F=>WW F i2.ts) (λi2=>q.2.length-i2.j) (⟨0,i.ts,Nat.zero_le _,by simpa[JQ,Jf]using i.hI⟩) wZ wS QGJ tB λi2=>?_
  simp only[List.cons_append,List.nil_append];have hj:=i2.le;refine wA 6 I ?_;refine QP I (λhc=>?_) λhc=>?_
  ·have hlt2:i2.j<q.2.length:=wk<|QGx hc
   have htb:=JK hlt2;have hnb:=hw.2 _ htb;have hrb:=(hQ.2.1 _ htb).2.2.1;have hzz:=jQ (q:=q.2) (j:=i2.j) hlt;have hza:Jn (el p.2 i.i).t.1<=Z3 (JQ p.2):=Mo (List.mem_map_of_mem hta);have hzb:Jn (el q.2 i2.j).t.1<=Z3 (JQ q.2):=Mo (List.mem_map_of_mem htb);refine QHC 6 I<|QA (Q2 (n:=q.1.n) (i2.j) (λF h9=>(h9.1.1.2.2).1) rfl rfl ZA Ju O)<|QA (XZ (n:=q.1.n) (vs:=[.int .i64 (el q.2 (i2.j)).x.n.s,.slice (el q.2 (i2.j)).x.n.q (el q.2 (i2.j)).x.n.n (el q.2 (i2.j)).x.n.cap,.int .i64 (el q.2 (i2.j)).x.d.s,.slice (el q.2 (i2.j)).x.d.q (el q.2 (i2.j)).x.d.n (el q.2 (i2.j)).x.d.cap,.slice (el q.2 (i2.j)).r.q (el q.2 (i2.j)).r.n (el q.2 (i2.j)).r.cap]) ((i2.j)*5) (λF h9=>(h9.1.1.2.2).1) O I Ju I λj v hv=>Jg (f:=Y2) (l:=q.2) Yx O hv)<|Qg Ye λb9=>QZ (vs:=[_,_,_,_,_]) I I I Ju I .here .h5 wW<|QF4<|QGi<|QA (QH I ZK Q5)<|QA (Qh I Q5 .u1 (.skip (.skip (.skip (.skip .h1)))))<|XA I (List.Perm.refl _) (Tt (r:=(el p.2 i.i).r) (l:=(el p.2 i.i).t.2) (λF h9=>(h9.1.1.2.1.2.1 _ hta).2) hra O) λc28=>JN _ (λ_ _ f h=>h.2) λh28=>QHB 6 I<|QA (QH I ZK Q5) ?_
   refine QA (Qh I Q5 .here (.skip (.skip (.skip (.skip .h1)))))<|QA (Qf I Qk)<|QHB 4 I<|Jo (ι:=PmK (el p.2 i.i).r.n (el p.2 i.i).t.2 (el q.2 i2.j).t.2) [(1,_),(5,_),(7,_),(9,_),(14,_),(15,_),(16,_),(20,_),(21,_),(22,_),(30,_),(31,_)] (λi3=>[(10,i3.v),(32,.int .i64 ((i3.k:Nat):Int))]) (λi3=>[(b9,.cells (Y2 (el q.2 i2.j)).toArray 101 (0,0)),(b7,.cells (Y2 (el p.2 i.i)).toArray 101 (0,0)),(m,ZF tx (GV i2.ts))]++i3.ob) (λi3 F=>True) (λi3=>(el q.2 i2.j).t.2.length-i3.k) (⟨0,(el p.2 i.i).t.2,c28.1,c28.2,Nat.zero_le _,h28,by simp[Jq]⟩) wj wT QGJ w8 λi3=>?_
   simp only[List.cons_append,List.nil_append];have hk:=i3.le;refine wA 6 I ?_;refine QP I (λhc=>?_) λhc=>?_
   ·obtain⟨k,L,v,ob,hk0,hr,hL⟩:=i3;dsimp only at hk hc ⊢;have hlt3:k<(el q.2 i2.j).t.2.length:=wk<|QGx hc
    have hka:k<(el p.2 i.i).t.2.length:=O;have hLn:L.length=(el p.2 i.i).t.2.length:=by rw[hL];unfold Jq;simp;omega
    have hb1:=(hpw.1 _ hta).el hka;have hb2:=(hpw.2.1 _ htb).el hlt3;obtain⟨b,cap,rest,rfl,rfl,e1,e2,e3,e4⟩:=Q6.pos hr O;have hdL:Qd L k=Qd (el p.2 i.i).t.2 k:=by rw[hL];exact FL hka hlt3
    refine QHC 7 I<|QA (Q2 (n:=(el q.2 i2.j).r.n) k (λF h9=>(h9.1.1.1.1.2.2.2.1 _ htb).2.1) rfl rfl Qk Qu O)<|QA (Qz (n:=(el q.2 i2.j).r.n) (k*1) (λF h9=>(h9.1.1.1.1.2.2.2.1 _ htb).2.1) O I Qu (JH (o:=(el q.2 i2.j).t.2) O))<|QHB 7 I<|QA (Qx (i:=k) rfl rfl Qk Qu O)<|QA (YY (c:=(L).map Q7++rest) (T':=3) rfl Qu .u3 (Zu (by first | omega | (simp only[List.length_set];omega))))<|QF5 I<|QA (Qm I I O)<|QA (Qx (i:=k) rfl rfl Qk Qu O)<|QZ (vs:=[_]) I I I Qu I .u3 (Vn (by first | omega | (simp only[List.length_set];omega)) ((Qd (L) (k)+Qd (el q.2 i2.j).t.2 k))) wS<|QE<|Qi<|QD ?_
    refine QB<|QA (Qm I I O)<|wB 2 I ?_
    exact Qj (⟨k+1,_,_,_,hlt3,Q6.some (by simpa using e1) (by simpa using e2) e3 e4,by rw[hL,FL hka hlt3];exact CY hka hlt3⟩) (by show(el q.2 i2.j).t.2.length-(k+1)<(el q.2 i2.j).t.2.length-k;omega) ⟨rfl,rfl,rfl,rfl,rfl,rfl,rfl,rfl,rfl,rfl,rfl,rfl,rfl,rfl,trivial⟩ QGJ λF h=>⟨h.1,trivial⟩
   have hge3:i3.k=(el q.2 i2.j).t.2.length:=wk<|QGy hc
   have hLe:i3.L=Jq (el p.2 i.i).t.2 (el q.2 i2.j).t.2:=by
    have h1:=i3.hL;rw[hge3,List.take_length]at h1;rw[h1,List.take_of_length_le O,List.drop_of_length_le O,List.append_nil]
   have hLn:(Jq (el p.2 i.i).t.2 (el q.2 i2.j).t.2).length=(el p.2 i.i).r.n:=by rw[WT O];exact hra
   refine Qv ?_
   repeat first|refine QV ?_|refine QQ wy ?_
   refine QW<|QHD 3 I<|QA (QH I Ya Ql)<|QA (wJ I Ql .u1)<|QA (QH I Ya Ql)<|QA (wJ I Ql .here)<|QJ I (λ_ _ f k=>Gc f ((k.1.1.1.1.2.1.2.1 _ hta).1) ((k.1.1.1.1.2.2.2.1 _ htb).1) O O) λx50=>QF5 I ?_
   obtain⟨r,hv,hrn,hrc,hfix⟩:=Q6.fix (w0:=w) (F0:=F) (bs1:=[(b9,.cells (Y2 (el q.2 i2.j)).toArray 101 (0,0)),(b7,.cells (Y2 (el p.2 i.i)).toArray 101 (0,0)),(m,ZF tx (GV i2.ts))]) (G:=_) i3.hr;refine H6 hfix ?_;rw[hv];refine X1 (List.perm_middle (l₁:=[_,_]) (l₂:=[]))<|XA I (List.Perm.refl _) (DH (r:=r) (x:=x50) i2.hI (hpw.2.2 _ hta _ htb) (wk<|KO (el p.2 i.i).t.1 (el q.2 i2.j).t.1) O λF h9=>⟨h9.1.1.1.1.1.1.1,h9.1.1.1.1.2,⟨h9.1.2.1,h9.1.2.2⟩,by rw[hrn,<-hLe];exact h9.2,by rw[hrn];exact hLn,by rw[hrn];exact hrc⟩) λn52=>JN _ (λ_ _ f h=>h.2.2) λh52=>X1 (bs':=[_,_,_]) (List.perm_middle (l₁:=[_,_]) (l₂:=[])).symm<|QE<|Qi<|QD<|QB<|QA (Qm I I O)<|wB 2 I ?_
   exact Qj (⟨i2.j+1,addN i2.ts n52,hlt2,by rw[Zq hlt2,Wb,<-List.append_assoc];exact i2.hI.add (hpw.2.2 _ hta _ htb) h52⟩) (by show q.2.length-(i2.j+1)<q.2.length-i2.j;omega) we (.cons _ QGJ) λF h=>⟨h.1.1.1.1.1.1,h.2.1⟩
  have hge2:i2.j=q.2.length:=wk<|QGy hc
  refine Qv ?_
  repeat first|refine QV ?_|refine QQ wy ?_
  refine QW<|Qi<|QD<|QB<|QA (Qm I I O)<|wB 2 I ?_
  exact Qj (⟨i.i+1,i2.ts,hlt,by rw[PD hlt];have:=i2.hI;rw[hge2,List.take_length]at this;exact this⟩) (by show p.2.length-(i.i+1)<p.2.length-i.i;omega) wW (.cons _ QGJ) λF h=>⟨h.1.1,h.2⟩
 have hge:i.i=p.2.length:=wk<|QGy hc
 refine Qv ?_
 repeat first|refine QV ?_|refine QQ wy ?_
 refine QW<|QHD 4 I ?_
 have hI:=i.hI;rw[hge,List.take_length]at hI;refine XA I (List.Perm.refl _) (Hh hI (by have h1:=hI.ln;rw[Nd]at h1;simp only[JQ,List.length_map]at h1;have h2:=uF hl.1 hl.2;omega) tB) (λc56=>wQ I<|QT ?_);exact QO (c56) rfl (wN I) (rfl) tB
def Cw:List Tm->Int
 |[]=>0
 |t::_=>t.2.sum
def GJ(l:List Tm):Bool:=l.any λt=>XQ t.1
def PY:List Bool->Int->Int
 |[],_=>-1
 |b::l,i=>if b then i else PY l (i+1)
def Ai:∀(l:List Bool) (i:Int),0<=i->(decide (0<=PY l i)=l.any id)
 |[],i,_=>rfl
 |true::l,i,h=>by simp[PY,h]
 |false::l,i,h=>by simpa[PY]using Ai l (i+1) O
structure I3(bl:List Bool) where
 i:Nat
 le:i<=bl.length
 h:PY bl 0=PY (bl.drop i) i
def I3.hit(s:I3 bl)(h:s.i<bl.length)(e:bl[s.i]=true):PY bl 0=s.i:=by
 rw[s.h,List.drop_eq_getElem_cons h,e];rfl
def I3.QEj(s:I3 bl)(h:s.i<bl.length)(e:bl[s.i]=false):PY bl 0=PY (bl.drop (s.i+1)) ((s.i+1:Nat):Int):=by
 rw[s.h,List.drop_eq_getElem_cons h,e];rfl
def I3.stop(s:I3 bl)(h:bl.length<=s.i):PY bl 0 = -1:=by
 rw[s.h,List.drop_of_length_le h];rfl
def ZC(ts:List Xa):(JQ ts).length=ts.length:=by simp[JQ]
def I7(h:i<ts.length)(hb:i<((JQ ts).map λt=>XQ t.1).length):((JQ ts).map λt=>XQ t.1)[i]=XQ (el ts i).t.1:=by
 simp[JQ,J4 h]
theorem p5(hF:Fits F w)(hP:Jl F ⟨q,n,cap⟩ ts (JQ ts))(hp:∀t∈ts,PW t.t.2)(hl:ts.length<=1000000):Qb prog 149 [.slice q n cap] w F (.int .i64 (Cw (JQ ts))):=by
 have hln:ts.length=n:=hP.2.2.2.2;refine QU.intro (G:=λF=>Jl F ⟨q,n,cap⟩ ts (JQ ts)) func149 rfl wy rfl rfl hF (λF' hF'=>hP.le hF')<|QGi<|wQ rfl<|QG<|wR rfl<|QA (Qf rfl ZA)<|QA (QN rfl rfl rfl)<|QE<|QD ?_
 refine QP I (λhc=>?_) λhc=>?_
 ·have h0:ts=[]:=by have:=QGx hc;exact List.length_eq_zero_iff.1 O
  refine wA 6 I ?_;exact QHT I I (by rw[h0];rfl) w8
 have h0:0<ts.length:=wk<|QGy hc
 have htm:=JK h0;refine QHC 5 I<|QA (Q2 (n:=n) (0) (λF hP=>(hP).1) rfl wM ZA Ju O)<|QA (QH I ZK Q5)<|QA (Qz (n:=n) ((0)*5+4) (λF hP=>(hP).1) O I Q5 (Jg (f:=Y2) (l:=ts) Yx O I))<|QJ I (λ_ _ f k=>By f (r:=(el ts 0).r) (k.2.1 _ htm).2 (hp _ htm)) λ_=>wQ I<|QT ?_
 exact QHT rfl rfl (congrArg (Value.int .i64) (by cases ts with | nil=>cases h0 | cons t l=>rfl)) w8
theorem Od{t:Xa}(hF:Fits F w)(hGl:JG F)(hT:UI F t)(hz:Jn t.t.1<=100000000):Qb prog 253 [IJ t] w F (.bool (XQ t.t.1)):=by
 refine QU.intro (G:=λF=>JG F/\UI F t) func253 rfl wy rfl rfl hF (λF' hF'=>⟨hGl.le hF',hT.le hF'⟩)<|QGi<|JE rfl (vs:=[_,_,_,_,_]) rfl λb1=>wQ rfl<|QGi<|QA (QH rfl Ya Ql)<|QA (wJ I Ql .here)<|QJ rfl (λ_ _ f k=>MA f k.1 (k.2.1) (hz)) λ_=>wQ rfl<|QT ?_
 exact QHT I I (rfl) w8
theorem jX(hF:Fits F w)(hP:Jl F ⟨q,n,cap⟩ ts (JQ ts))(hGl:JG F)(hz:∀t∈ts,Jn t.t.1<=100000000)(hl:ts.length<=1000000):Qb prog 314 [.slice q n cap,.func (.func 253) #[] #[]] w F (.int .i64 (PY ((JQ ts).map λt=>XQ t.1) 0)):=by
 have hln:ts.length=n:=hP.2.2.2.2;have hbl:((JQ ts).map λt=>XQ t.1).length=ts.length:=by simp[JQ]
 refine QU.intro (G:=λF=>JG F/\Jl F ⟨q,n,cap⟩ ts (JQ ts)) func314 rfl wy rfl rfl hF (λF' hF'=>⟨hGl.le hF',hP.le hF'⟩)<|QGi<|wQ rfl<|QG<|wR rfl<|QA (Qf rfl ZA)<|QF5 rfl<|QF4<|QS<|J2 (ι:=I3 ((JQ ts).map λt=>XQ t.1)) [(0,_),(1,_),(7,_)] (λi=>[(8,.int .i64 ((i.i:Nat):Int))]) (λi=>ts.length-i.i) (⟨0,Nat.zero_le _,rfl⟩) wU wS λi=>?_
 simp only[List.cons_append,List.nil_append];have hi:=i.le;refine wA 6 I ?_;refine QP I (λhc=>?_) λhc=>?_
 ·have hlt:i.i<ts.length:=wk<|QGx hc
  have htm:=JK hlt;refine QHC 15 I<|QA (Q2 (n:=n) i.i (λF h9=>(h9.2).1) rfl rfl ZA Ju O)<|QA (XZ (n:=n) (vs:=[.int .i64 (el ts i.i).x.n.s,.slice (el ts i.i).x.n.q (el ts i.i).x.n.n (el ts i.i).x.n.cap,.int .i64 (el ts i.i).x.d.s,.slice (el ts i.i).x.d.q (el ts i.i).x.d.n (el ts i.i).x.d.cap,.slice (el ts i.i).r.q (el ts i.i).r.n (el ts i.i).r.cap]) ((i.i)*5) (λF h9=>(h9.2).1) O I Ju I λj v hv=>Jg (f:=Y2) (l:=ts) Yx O hv)<|KG (c1:=[]) (c2:=[]) I I (λ_ _ f k=>Od f k.1 (t:=el ts i.i) (k.2.2.1 _ htm) (hz _ htm)) λ_=>QE<|QD ?_
  refine QP I (λhc=>?_) λhc=>?_
  ·refine wA 7 I ?_
   repeat first|refine Qw ?_|refine Qp ?_
   exact QHT I I (congrArg (Value.int .i64) (i.hit O (by rw[I7 hlt];exact hc))) w8
  refine QM<|Qi<|QD<|QB<|QA (Qm I I O)<|wB 2 I ?_
  exact Qj (⟨i.i+1,O,i.QEj O (by rw[I7 hlt];exact hc)⟩) (by show ts.length-(i.i+1)<ts.length-i.i;omega) wV QGJ tA
 have hge:ts.length<=i.i:=wk<|QGy hc
 refine Qv ?_
 repeat first|refine QV ?_|refine QQ wy ?_
 refine QW<|QHD 7 I ?_
 exact QHT I I (congrArg (Value.int .i64) (i.stop O)) w8
theorem U5(hF:Fits F w)(hP:Jl F ⟨q,n,cap⟩ ts (JQ ts))(hGl:JG F)(hz:∀t∈ts,Jn t.t.1<=100000000)(hl:ts.length<=1000000):Qb prog 252 [.slice q n cap,.func (.func 253) #[] #[]] w F (.bool (GJ (JQ ts))):=by
 refine QU.intro (G:=λF=>JG F/\Jl F ⟨q,n,cap⟩ ts (JQ ts)) func252 rfl wy rfl rfl hF (λF' hF'=>⟨hGl.le hF',hP.le hF'⟩)<|QGi<|wQ rfl<|wR rfl<|QF5 rfl<|QJ rfl (λ_ _ f k=>jX f (k.2) (k.1) (hz) (hl)) λ_=>QA (QN rfl rfl rfl)<|wQ rfl<|QT ?_
 exact QHT I I (congrArg Value.bool (by rw[show GJ (JQ ts)=((JQ ts).map λt=>XQ t.1).any id by simp[GJ,List.any_map],<-Ai _ 0 (Int.le_refl _)])) w8
theorem LY(hF:Fits F w)(hP:Jl F ⟨q,n,cap⟩ ts (JQ ts))(hGl:JG F)(hz:∀t∈ts,Jn t.t.1<=100000000)(hl:ts.length<=1000000):Qb prog 150 [.slice q n cap] w F (.bool (GJ (JQ ts))):=by
 refine QU.intro (G:=λF=>JG F/\Jl F ⟨q,n,cap⟩ ts (JQ ts)) func150 rfl wy rfl rfl hF (λF' hF'=>⟨hGl.le hF',hP.le hF'⟩)<|QGi<|wQ rfl<|wR rfl<|QJ rfl (λ_ _ f k=>U5 f (k.2) (k.1) (hz) (hl)) λ_=>wQ rfl<|QT ?_
 exact QHT I I (rfl) w8
def RH(l:List Tm):Int:=Qn [if decide (Cw l>12)=true then 4 else 0,if decide ((l.length:Int)>64)=true then 5 else 0,if GJ l=true then 4 else 0]
def F7(l:List Tm):Pt:=if RH l=0 then X9 l else[]
def Ka.nil(F:Gs):Ka F ⟨none,0,0⟩ [] []:=⟨Qy.nil F none 2,(λ_ h=>by cases h),rfl,Nat.le_refl _,rfl⟩
theorem Uq(hF:Fits F w)(hP:Jl F ⟨q,n,cap⟩ ts (JQ ts))(hGl:JG F)(hp:∀t∈ts,PW t.t.2)(hz:∀t∈ts,Jn t.t.1<=100000000)(hl:ts.length<=1000000):
  QU prog 52 [.slice q n cap] w F (λ(c:K8)=>.tuple #[c.1.v,.int .i64 (RH (JQ ts))]) (λc F=>Ka F c.1 c.2 (F7 (JQ ts))):=by
 have hln:ts.length=n:=hP.2.2.2.2;have hlen:(JQ ts).length=n:=by rw[ZC];exact hln
 have hre:RH (JQ ts)=Qn [if decide (Cw (JQ ts)>12)=true then 4 else 0,if decide ((n:Int)>64)=true then 5 else 0,if GJ (JQ ts)=true then 4 else 0]:=by unfold RH;rw[hlen]
 refine QU.intro (G:=λF=>JG F/\Jl F ⟨q,n,cap⟩ ts (JQ ts)) func52 rfl wy rfl rfl hF (λF' hF'=>⟨hGl.le hF',hP.le hF'⟩)<|QGi<|QF6 rfl<|wQ rfl<|QG<|wR rfl<|QJ rfl (λ_ _ f k=>p5 f (k.2) (hp) (hl)) λ_=>QA (QN rfl rfl rfl)<|QJ rfl (λ_ _ f k=>Wa f ) λ_=>QF5 rfl<|QA (Qf rfl ZA)<|QA (QN rfl rfl rfl)<|QJ rfl (λ_ _ f k=>Wa f ) λ_=>QF5 rfl<|QJ rfl (λ_ _ f k=>LY f (k.1.1.1.2) (k.1.1.1.1) (hz) (hl)) λ_=>QJ rfl (λ_ _ f k=>Wa f ) λ_=>Qs rfl (JU Y4) WE RQ rfl rfl λb16=>QJ rfl (λ_ _ f k=>M0 f (Qy.of (cs:=List.map Q7 [if decide (Cw (JQ ts)>12)=true then 4 else 0,if decide ((n:Int)>64)=true then 5 else 0,if GJ (JQ ts)=true then 4 else 0]) k.2 rfl) wu) λ_=>QF6 rfl<|QE ?_
 refine QHD 7 I ?_;refine QP I (λhc=>?_) λhc=>?_
 ·have he:RH (JQ ts)≠0:=by rw[hre];exact bne_iff_ne.1 hc
  refine wA 8 I ?_;exact J9 ((⟨none,0,0⟩,[])) I (wO I I) (by rw[hre]) λF h9=>by unfold F7;rw[if_neg he];exact Ka.nil F
 have he:RH (JQ ts)=0:=by rw[hre];exact bne_eq_false_iff_eq.1 hc
 refine QHC 5 I<|QJ I (λ_ _ f k=>LX f k.1.1.1.1.1.1.1.1 (p:=(⟨q,n,cap⟩,ts)) k.1.1.1.1.1.1.1.2 hp hl hz) λc22=>QHB 5 I ?_
 exact J9 (c22) rfl (wO I I) (by rw[he]) λF h9=>by unfold F7;rw[if_pos he];exact h9.2
def VC(v:Int):Int:=if decide (v<0)=true\/decide (v>24)=true then 3 else 0
def K5(v:Int):VC v=0↔0<=v/\v<=24:=by unfold VC;simp only[decide_eq_true_eq];split<;>omega
def CK{v:Int}(h:¬v<0):VC v=if decide (v>24)=true then 3 else 0:=by unfold VC;simp[h]
def Vw(l:List Int):Int:=(l.map λk=>if 13<k then 13 else k).sum
def ZL(f:List UInt8)(l:List Int)(v:Int):Int :=
 if(l.length:Int)≠v+1 then 2 else if l.any (λk=>decide (k<0))=true then 3 else Qn [if decide (Vw l>12)=true then 4 else 0,Jy f]
def Sq(h:i<l.length):Vw (l.take (i+1))=Vw (l.take i)+(if 13<Qd l i then 13 else Qd l i):=by
 unfold Vw;rw[Xg h,List.map_append,List.sum_append,Zk h];simp
theorem Bs(l:List Int)(h:∀k∈l,0<=k):0<=Vw l/\Vw l<=13*l.length:=by
 induction l with
 |nil=>simp[Vw]
 |cons x l ih =>
  have h1:=ih λk hk=>h k (by simp[hk]);have h2:=h x wz;have e:Vw (x::l)=(if 13<x then 13 else x)+Vw l:=by unfold Vw;rw[List.map_cons,List.sum_cons]
  rw[e,List.length_cons];split<;>omega
structure QB8(l:List Int) where
 i:Nat
 le:i<=l.length
 nn:∀k∈l.take i,0<=k
def L5(h:i<l.length)(hn:Qd l i<0):l.any (λk=>decide (k<0))=true:=by
 rw[List.any_eq_true];exact⟨el l i,JK h,by rw[<-Zk h];exact decide_eq_true hn⟩
def xu(h:∀k∈l,0<=k):¬l.any (λk=>decide (k<0))=true:=by
 rw[List.any_eq_true];rintro⟨k,hk,e⟩;have:=QGx e;have:=h k hk;omega
theorem Sk{v:Int}(hF:Fits F w):Qb prog 128 [.int .i64 v] w F (.int .i64 (VC v)):=by
 refine QU.intro (G:=λF=>True) func128 rfl wy rfl rfl hF w8<|QGi<|wQ rfl<|wR rfl<|QA (QN rfl rfl rfl)<|QF5 rfl ?_
 refine Qe (t:=5) rfl (λhb5=>?_) λhb5=>?_
 ·refine wB 3 I<|QJ I (λ_ _ f _=>Wa f ) λ_=>wQ I<|QT ?_
  exact QHT I I (congrArg (Value.int .i64) (by unfold VC;simp_all)) w8
 refine wB 5 I<|QJ I (λ_ _ f _=>Wa f ) λ_=>wQ I<|QT ?_
 exact QHT I I (congrArg (Value.int .i64) (CK (QGy hb5))) w8
theorem ku{v:Int}(hF:Fits F w)(hGl:JG F)(hR:JP F ⟨q,n,cap⟩ l)(hf:f.length<=1000000)(hl:l.length<=1000000)(hv : -1000000<=v/\v<=1000000):Qb prog 228 [.agg #[tx f,.slice q n cap],.int .i64 v] w F (.int .i64 (ZL f l v)):=by
 have hln:l.length=n:=hR.2.1;refine QU.intro (G:=λF=>JG F/\JP F ⟨q,n,cap⟩ l) func228 rfl wy rfl rfl hF (λF' hF'=>⟨hGl.le hF',hR.le hF'⟩)<|QGi<|JE rfl (vs:=[_,_]) rfl λb2=>wQ rfl<|QG<|QGi<|QA (QH rfl KB Q5)<|QA (Qh rfl Q5 .here (.skip .h1))<|QA (Qf rfl Qk)<|QF5 rfl<|QA (Qm rfl rfl O)<|QA (QN rfl rfl rfl)<|QE<|QD ?_
 refine QP I (λhc=>?_) λhc=>?_
 ·have hne:=bne_iff_ne.1 hc;refine wA 6 I ?_;exact QHT I I (congrArg (Value.int .i64) (by unfold ZL;rw[if_pos (by rw[hln];exact hne)])) w8
 have heq:=bne_eq_false_iff_eq.1 hc;refine QHC 10 I<|QA (QH I KB Q5)<|QA (Qh I Q5 .here (.skip .h1))<|QA (Qf I Qk)<|QHB 4 I<|J2 (ι:=QB8 l) [(2,_),(15,_),(16,_)] (λi=>[(5,.int .i64 (Vw (l.take i.i))),(17,.int .i64 ((i.i:Nat):Int))]) (λi=>l.length-i.i) (⟨0,Nat.zero_le _,wz⟩) wU wT λi=>?_
 simp only[List.cons_append,List.nil_append];have hi:=i.le;have hb:=Bs _ i.nn;rw[List.length_take]at hb;refine wA 6 I ?_;refine QP I (λhc=>?_) λhc=>?_
 ·have hlt:i.i<l.length:=wk<|QGx hc
  refine QHC 6 I<|QA (Q2 (n:=n) i.i (λF h9=>(h9.2).1) rfl rfl Qk Qu O)<|QA (Qz (n:=n) ((i.i)*1) (λF h9=>(h9.2).1) O I Qu (JH (o:=l) O))<|QHB 10 I ?_
  refine QP I (λhc=>?_) λhc=>?_
  ·have hng:=QGx hc;refine wA 6 I ?_
   repeat first|refine Qw ?_|refine Qp ?_
   exact QHT I I (congrArg (Value.int .i64) (by unfold ZL;rw[if_neg (by rw[hln];exact λh=>h heq),if_pos (L5 hlt hng)])) w8
  have hng:=QGy hc;refine QHC 5 I<|QA (jK I I)<|QA (Qm I I O)<|wB 2 I<|Qi<|QD<|QB<|QA (Qm I I O)<|wB 2 I ?_
  exact Qj (⟨i.i+1,hlt,by intro k hk;rw[Xg hlt]at hk;rcases List.mem_append.1 hk with hk | hk;exact i.nn k hk;rw[List.mem_singleton.1 hk,<-Zk hlt];omega⟩) (by show l.length-(i.i+1)<l.length-i.i;omega) ⟨rfl,rfl,rfl,(congrArg (λz:Int=>some (Value.int .i64 z)) (Sq hlt).symm),rfl,trivial⟩ QGJ w9
 have hge:i.i=l.length:=wk<|QGy hc
 refine Qv ?_
 repeat first|refine QV ?_|refine QQ wy ?_
 refine QW<|QD<|QG<|JL QGJ mixed wm ?_
 rw[hge,List.take_length];have hnn:=i.nn;rw[hge,List.take_length]at hnn;refine QL (QC I)<|QL (QN I I I)<|Qc I (λ_ _ f k=>Wa f ) λ_=>QL (QH I G5 Jk)<|QL (Qh I Jk .here .h1)<|Qc I (λ_ _ f k=>L2 f k.1.1 (hf)) λ_=>?_
 refine Jd I (JU Y4) WE RQ I I (λb34=>?_) (λw h=>h.imp tC λF h=>h.1.1);refine Qc I (λ_ _ g k=>M0 g (Qy.of (cs:=List.map Q7 [if decide (Vw l>12)=true then 4 else 0,Jy f]) k.2 I) wu) (λ_=>QL (QF I)<|Q3<|QD<|QT ?_);exact QHT I I (congrArg (Value.int .i64) (by unfold ZL;rw[if_neg (by rw[hln];exact λh=>h heq),if_neg (xu hnn)])) w8
theorem Di{a b:Int}(h:Qn [a,b]=0):a=0/\b=0:=by
 unfold Qn at h;by_cases g:a=0
 ·rw[if_pos g]at h;unfold Qn at h;by_cases k:b=0
  ·exact⟨g,k⟩
  rw[if_neg k]at h;exact⟨g,h⟩
 rw[if_neg g]at h;exact absurd h g
def VK(p:Pt)(v:Int)(i:Nat):Int :=
 let e:=Qn [ZL (el p i).1 (el p i).2 v,if((el p i).1==[48])=true then 6 else 0]
 if e=0/\0<i/\0<=WR (el p (i-1)).2 (el p i).2 then 11 else e
def XB(p:Pt)(v:Int):Int:=if decide ((p.length:Int)>64)=true then 5 else Qn ((List.range p.length).map (VK p v))
def VN(h:i<n):el (List.range n) i=i:=by rw[J4 (by simpa using h)];simp
def HK{ts:List Gn}(h:i<ts.length):el (J0 ts) i=((el ts i).f,(el ts i).k):=by rw[J4 (by simpa[J0]using h),J4 h];simp[J0]
theorem Iv(h:∀k∈l,0<=k)(hc:Vw l<=12):∀k∈l,k<=12:=by
 induction l with
 |nil=>intro k hk;cases hk
 |cons x l ih =>
  have hl:∀k∈l,0<=k:=λk hk=>h k (by simp[hk]);have h1:=(Bs l hl).1;have h2:=h x wz;have e:Vw (x::l)=(if 13<x then 13 else x)+Vw l:=by unfold Vw;rw[List.map_cons,List.sum_cons]
  rw[e]at hc;intro k hk;rcases List.mem_cons.1 hk with rfl | hk
  ·split at hc<;>omega
  refine ih hl ?_ k hk;split at hc<;>omega
theorem Zn{v:Int}(h:ZL f l v=0):(l.length:Int)=v+1/\(∀k∈l,0<=k/\k<=12)/\Vw l<=12/\Jy f=0:=by
 unfold ZL at h;split at h
 ·omega
 rename_i h1;split at h
 ·omega
 rename_i h2;have hn:∀k∈l,0<=k:=λk hk=>by
  rcases Int.lt_or_le k 0 with g | g
  ·exact absurd (List.any_eq_true.2 ⟨k,hk,decide_eq_true g⟩) h2
  exact g
 obtain⟨g1,g2⟩:=Di h;have hc:Vw l<=12:=by
  rcases Int.lt_or_le 12 (Vw l)with g | g
  ·rw[if_pos (decide_eq_true g)]at g1;omega
  exact g
 exact⟨O,λk hk=>⟨hn k hk,Iv hn hc k hk⟩,hc,g2⟩
theorem Yg{v:Int}(h:ZL f l v=0)(hv:v<=24):PW l:=by
 obtain⟨h1,h2,_⟩:=Zn h;exact⟨λk hk=>wk<|h2 k hk,O⟩
theorem EE{p:Pt}{v:Int}(h:VK p v i=0):ZL (el p i).1 (el p i).2 v=0/\(el p i).1≠[48]/\(0<i->WR (el p (i-1)).2 (el p i).2<0):=by
 unfold VK at h;dsimp only at h;by_cases g:Qn [ZL (el p i).1 (el p i).2 v,if((el p i).1==[48])=true then 6 else 0]=0/\0<i/\0<=WR (el p (i-1)).2 (el p i).2
 ·rw[if_pos g]at h;omega
 rw[if_neg g]at h;obtain⟨h1,h2'⟩:=Di h;have h2:(el p i).1≠[48]:=by
  intro q;rw[if_pos (by rw[q];rfl)]at h2';omega
 refine⟨h1,h2,λhi=>?_⟩;rcases Int.lt_or_le (WR (el p (i-1)).2 (el p i).2) 0 with q | q
 ·exact q
 exact absurd ⟨h,hi,q⟩ g
structure Ce(p:Pt)(v:Int)(n:Nat) where
 i:Nat
 le:i<=n
 z:∀j,j<i->VK p v j=0
def Ce.scan{p:Pt}{v:Int}{n:Nat}(s:Ce p v n):Zc (List.range n) (VK p v):=⟨s.i,by rw[List.length_range];exact s.le,by
 have key:∀i,i<=n->(∀j,j<i->VK p v j=0)->Qn ((List.range n).map (VK p v))=Qn (((List.range n).map (VK p v)).drop i):=by
  intro i
  induction i with
  |zero=>intro _ _;rfl
  |succ i ih =>
   intro hi hz;rw[ih O (λj hj=>hz j O),Kr w6 (by simp;exact hz i O)]
 exact key s.i s.le s.z⟩
def W5{p:Pt}{v x:Int}{n:Nat}(hn:p.length=n)(hp:¬(n:Int)>64)(s:Ce p v n)(h:s.i<n)(hs:VK p v s.i=x)(hx:x≠0):XB p v=x:=by
 unfold XB;rw[hn,if_neg (by rw[decide_eq_true_eq];exact hp),s.scan.hit (by rw[List.length_range];exact h) (by rw[show s.scan.i=s.i from rfl,VN h,hs];exact hx),show s.scan.i=s.i from rfl,VN h,hs]
def UY{p:Pt}{v:Int}{n:Nat}(hn:p.length=n)(hp:¬(n:Int)>64)(s:Ce p v n)(h:n<=s.i):XB p v=0:=by
 unfold XB;rw[hn,if_neg (by rw[decide_eq_true_eq];exact hp),s.scan.stop (by rw[List.length_range];exact h)]
def step_eq{v E:Int}(h:i<ps.length)(hE:Qn [ZL (el ps i).f (el ps i).k v,if((el ps i).f==[48])=true then 6 else 0]=E):VK (J0 ps) v i=if E=0/\0<i/\0<=WR (el ps (i-1)).k (el ps i).k then 11 else E:=by
 unfold VK;rw[HK h,HK (show i-1<ps.length by omega)];dsimp only;rw[hE]
theorem Pn{v:Int}(hF:Fits F w)(hGl:JG F)(hR:Qy F q n 2 (ps.flatMap KI))(hP:Zz F ps)(hln:ps.length=n)(hf:∀t∈ps,t.f.length<=1000000/\t.k.length<=1000000)(hl:ps.length<=1000000)(hv:0<=v/\v<=24):Qb prog 131 [.slice q n cap,.int .i64 v] w F (.int .i64 (XB (J0 ps) v)):=by
 have hal:(J0 ps).length=n:=by unfold J0;rw[List.length_map];exact hln
 refine QU.intro (G:=λF=>JG F/\Qy F q n 2 (ps.flatMap KI)/\Zz F ps) func131 rfl wy rfl rfl hF (λF' hF'=>⟨hGl.le hF',hR.le hF',hP.le hF'⟩)<|QGi<|wQ rfl<|QG<|wR rfl<|QA (Qf rfl ZI)<|QA (QN rfl rfl rfl)<|QE<|QD ?_
 refine QP I (λhc=>?_) λhc=>?_
 ·have hbig:=hc;refine wA 6 I ?_;exact QHT I I (congrArg (Value.int .i64) (by unfold XB;rw[hal,if_pos hbig])) w8
 have hbig:=QGy hc;refine QHC 6 I<|QA (Qf I ZI)<|QHB 4 I<|J2 (ι:=Ce (J0 ps) v n) [(0,_),(1,_),(11,_),(12,_)] (λi=>[(13,.int .i64 ((i.i:Nat):Int))]) (λi=>n-i.i) (⟨0,Nat.zero_le _,λj hj=>absurd hj (Nat.not_lt_zero _)⟩) wV wS λi=>?_
 simp only[List.cons_append,List.nil_append];have hi:=i.le;refine wA 6 I ?_;refine QP I (λhc=>?_) λhc=>?_
 ·have hlt:i.i<n:=wk<|QGx hc
  have htm:el ps i.i∈ps:=JK O;refine QHC 7 I<|QA (Q2 (n:=n) i.i (λF h9=>h9.2.1) rfl rfl ZI Zl O)<|QA (XZ (n:=n) (vs:=[tx (el ps i.i).f,.slice (el ps i.i).r.q (el ps i.i).r.n (el ps i.i).r.cap]) ((i.i)*2) (λF h9=>h9.2.1) O I Zl I λj v hv=>Jg (f:=KI) (l:=ps) Z4 O hv)<|Qg Ro λb6=>QF6 I<|QZ (vs:=[_,_]) I I I Zl I .here .h2 wT<|QF4<|QG<|JL QGJ mixed wm<|QL (wH I Zl .here)<|QL (QC I)<|Qc I (λ_ _ g h=>ku g (h.1) (f:=(el ps i.i).f) (l:=(el ps i.i).k) (h.2.2 _ htm) ((hf _ htm).1) ((hf _ htm).2) O) λ_=>QL (QH I G5 Jk)<|QL (Qh I Jk .here .h1)<|QL (Y6 I I)<|Qc I (λ_ _ f k=>Wa f ) λ_=>?_
  refine Jd I (JU Y4) WE RQ I I (λb25=>?_) (λw h=>h.imp tC λF h=>h.1.1);refine Qc I (λ_ _ g h=>M0 g (Qy.of (cs:=List.map Q7 [ZL (el ps i.i).f (el ps i.i).k v,if((el ps i.i).f==[48])=true then 6 else 0]) h.2 I) wu) (λ_=>QL (QF I)<|Q3<|QHD 3 I<|JL QGJ mixed wm ?_);generalize hE:Qn [ZL (el ps i.i).f (el ps i.i).k v,if((el ps i.i).f==[48])=true then 6 else 0]=E;have hst:=step_eq (v:=v) (show i.i<ps.length by omega) hE;refine QL (QC I)<|QL (QN I I I)<|QL (QC I) ?_
  refine Kz (t:=29) rfl (λhb29=>?_) λhb29=>?_
  ·refine JM I I<|QL (QC I)<|JM I I<|QL (QN I I I)<|QL (Qa I I I)<|QL (QC I) ?_
   refine Kz (t:=33) rfl (λhb33=>?_) λhb33=>?_
   ·refine JM I I<|QL (QC I)<|JM I I<|QL (QC I)<|JM I I<|QL (J1 I I O)<|JM I I ?_
    have hi0:0<i.i:=wk<|QGx hb33
    refine QL (Q2 (n:=n) ((i.i-1)) (λF h9=>h9.1.1.1.1.2.1) rfl wM ZI Zl O)<|JM I I<|QL (QH I KB Q5)<|JM I I<|QL (Qz (n:=n) (((i.i-1))*2+1) (λF h9=>h9.1.1.1.1.2.1) O I Q5 (Jg (f:=KI) (l:=ps) Z4 O I))<|JM I I<|QL (QH I KB Q5)<|JM I I<|QL (Qh I Q5 .here (.skip .h1))<|JM I I ?_
    have hz0:=(EE (i.z (i.i-1) O)).1;rw[HK (show i.i-1<ps.length by omega)]at hz0;have hE0:E=0:=eq_of_beq hb29;obtain⟨hz1,_⟩:=Di (hE.trans hE0);have htm0:el ps (i.i-1)∈ps:=JK O;refine Qc I (λ_ _ f k=>Bi f (ra:=(el ps (i.i-1)).r) (rb:=(el ps i.i).r) (k.1.1.1.1.2.2 _ htm0) (k.1.1.1.1.2.2 _ htm) (Yg hz0 hv.2) (Yg hz1 hv.2)) (λ_=>JM I I<|QL (QN I I I)<|QL (Qa I I I)<|Q3<|QD ?_);refine QP I (λhc=>?_) λhc=>?_
    ·have h44:=QGx hc;refine QHC 10 I ?_;refine QP I (λhc=>?_) λhc=>?_
     ·refine wA 7 I ?_
      repeat first|refine Qw ?_|refine Qp ?_
      exact QHT I I (congrArg (Value.int .i64) (W5 hal hbig i hlt (by first | (rw[hst];exact if_pos ⟨eq_of_beq hb29,wk<|QGx hb33,h44⟩) | (rw[hst];exact if_neg λh=>h44 h.2.2) | (rw[hst];exact if_neg λh=>wk<|QGy hb33) | (rw[hst];exact if_neg λh=>by rw[h.1]at hb29;cases hb29)) (bne_iff_ne.1 hc))) w8
     refine QM<|Qi<|QD<|QB<|QA (Qm I I O)<|wB 2 I ?_
     exact Qj (⟨i.i+1,hlt,λj hj=>by
      rcases Nat.lt_or_ge j i.i with g | g
      ·exact i.z j g
      rw[show j=i.i from by omega];first | exact absurd hc wu | (rw[hst,if_neg (λh=>h44 h.2.2)];exact bne_eq_false_iff_eq.1 hc) | (rw[hst,if_neg (λh=>wk<|QGy hb33)];exact bne_eq_false_iff_eq.1 hc) | (rw[hst,if_neg (λh=>by rw[h.1]at hb29;cases hb29)];exact bne_eq_false_iff_eq.1 hc)⟩) (by show n-(i.i+1)<n-i.i;omega) wW (.cons _ .slnil) λF h=>h.1.1.1.1.1
    have h44:=QGy hc;refine QHC 8 I ?_;refine QP I (λhc=>?_) λhc=>?_
    ·refine wA 7 I ?_
     repeat first|refine Qw ?_|refine Qp ?_
     exact QHT I I (congrArg (Value.int .i64) (W5 hal hbig i hlt (by first | (rw[hst];exact if_pos ⟨eq_of_beq hb29,wk<|QGx hb33,h44⟩) | (rw[hst];exact if_neg λh=>h44 h.2.2) | (rw[hst];exact if_neg λh=>wk<|QGy hb33) | (rw[hst];exact if_neg λh=>by rw[h.1]at hb29;cases hb29)) (bne_iff_ne.1 hc))) w8
    refine QM<|Qi<|QD<|QB<|QA (Qm I I O)<|wB 2 I ?_
    exact Qj (⟨i.i+1,hlt,λj hj=>by
     rcases Nat.lt_or_ge j i.i with g | g
     ·exact i.z j g
     rw[show j=i.i from by omega];first | exact absurd hc wu | (rw[hst,if_neg (λh=>h44 h.2.2)];exact bne_eq_false_iff_eq.1 hc) | (rw[hst,if_neg (λh=>wk<|QGy hb33)];exact bne_eq_false_iff_eq.1 hc) | (rw[hst,if_neg (λh=>by rw[h.1]at hb29;cases hb29)];exact bne_eq_false_iff_eq.1 hc)⟩) (by show n-(i.i+1)<n-i.i;omega) wW (.cons _ .slnil) λF h=>h.1.1.1.1.1
   refine Q8 I I I<|Q8 I I I<|Q8 I I I<|Q8 I I I<|Q8 I I I<|Q8 I I I<|Q8 I I I<|Q8 I I I<|Q8 I I I<|Q8 I I I<|QL (QY I I I)<|Q3<|QD<|Xo I<|QHC 8 I ?_
   refine QP I (λhc=>?_) λhc=>?_
   ·refine wA 7 I ?_
    repeat first|refine Qw ?_|refine Qp ?_
    exact QHT I I (congrArg (Value.int .i64) (W5 hal hbig i hlt (by first | (rw[hst];exact if_pos ⟨eq_of_beq hb29,wk<|QGx hb33,h44⟩) | (rw[hst];exact if_neg λh=>h44 h.2.2) | (rw[hst];exact if_neg λh=>wk<|QGy hb33) | (rw[hst];exact if_neg λh=>by rw[h.1]at hb29;cases hb29)) (bne_iff_ne.1 hc))) w8
   refine QM<|Qi<|QD<|QB<|QA (Qm I I O)<|wB 2 I ?_
   exact Qj (⟨i.i+1,hlt,λj hj=>by
     rcases Nat.lt_or_ge j i.i with g | g
     ·exact i.z j g
     rw[show j=i.i from by omega];first | exact absurd hc wu | (rw[hst,if_neg (λh=>h44 h.2.2)];exact bne_eq_false_iff_eq.1 hc) | (rw[hst,if_neg (λh=>wk<|QGy hb33)];exact bne_eq_false_iff_eq.1 hc) | (rw[hst,if_neg (λh=>by rw[h.1]at hb29;cases hb29)];exact bne_eq_false_iff_eq.1 hc)⟩) (by show n-(i.i+1)<n-i.i;omega) wW (.cons _ .slnil) λF h=>h.1.1.1.1
  refine Q8 I I I<|Q8 I I I<|QL (QY I I I)<|QL (QC I)<|Q8 I I I<|Q8 I I I<|Q8 I I I<|Q8 I I I<|Q8 I I I<|Q8 I I I<|Q8 I I I<|Q8 I I I<|Q8 I I I<|Q8 I I I<|QL (QY I I I)<|Q3<|QD<|Xo I<|QHC 7 I ?_
  refine QD ?_;refine QP I (λhc=>?_) λhc=>?_
  ·refine wA 7 I ?_
   repeat first|refine Qw ?_|refine Qp ?_
   exact QHT I I (congrArg (Value.int .i64) (W5 hal hbig i hlt (by first | (rw[hst];exact if_pos ⟨eq_of_beq hb29,wk<|QGx hb33,h44⟩) | (rw[hst];exact if_neg λh=>h44 h.2.2) | (rw[hst];exact if_neg λh=>wk<|QGy hb33) | (rw[hst];exact if_neg λh=>by rw[h.1]at hb29;cases hb29)) (bne_iff_ne.1 hc))) w8
  refine QM<|Qi<|QD<|QB<|QA (Qm I I O)<|wB 2 I ?_
  exact Qj (⟨i.i+1,hlt,λj hj=>by
     rcases Nat.lt_or_ge j i.i with g | g
     ·exact i.z j g
     rw[show j=i.i from by omega];first | exact absurd hc wu | (rw[hst,if_neg (λh=>h44 h.2.2)];exact bne_eq_false_iff_eq.1 hc) | (rw[hst,if_neg (λh=>wk<|QGy hb33)];exact bne_eq_false_iff_eq.1 hc) | (rw[hst,if_neg (λh=>by rw[h.1]at hb29;cases hb29)];exact bne_eq_false_iff_eq.1 hc)⟩) (by show n-(i.i+1)<n-i.i;omega) wW (.cons _ .slnil) λF h=>h.1.1.1.1
 have hge:n<=i.i:=wk<|QGy hc
 refine Qv ?_
 repeat first|refine QV ?_|refine QQ wy ?_
 refine QW<|QHD 7 I ?_
 exact QHT I I (congrArg (Value.int .i64) (UY hal hbig i hge)) w8
def Mm(p:Pt)(v:Int):Int:=if VC v=0 then XB p v else VC v
theorem Ho{v:Int}(hF:Fits F w)(hGl:JG F)(hR:Qy F q n 2 (ps.flatMap KI))(hP:Zz F ps)(hln:ps.length=n)(hf:∀t∈ps,t.f.length<=1000000/\t.k.length<=1000000)(hl:ps.length<=1000000):Qb prog 71 [.slice q n cap,.int .i64 v] w F (.int .i64 (Mm (J0 ps) v)):=by
 refine QU.intro (G:=λF=>JG F/\Qy F q n 2 (ps.flatMap KI)/\Zz F ps) func71 rfl wy rfl rfl hF (λF' hF'=>⟨hGl.le hF',hR.le hF',hP.le hF'⟩)<|QGi<|wQ rfl<|QG<|wR rfl<|QJ rfl (λ_ _ f k=>Sk f ) λ_=>wQ rfl<|wR rfl<|QA (QN rfl rfl rfl)<|QE<|QD ?_
 refine QP I (λhc=>?_) λhc=>?_
 ·have hc0:=bne_iff_ne.1 hc;refine wA 7 I ?_;exact QHT I I (congrArg (Value.int .i64) (by unfold Mm;rw[if_neg hc0])) w8
 have hc0:=bne_eq_false_iff_eq.1 hc;have hv:=(K5 v).1 hc0;refine QHC 6 I<|QJ I (λ_ _ f k=>Pn f (k.1.1) (k.1.2.1) (k.1.2.2) (hln) (hf) (hl) (hv)) λ_=>wQ I<|QT ?_
 exact QHT I I (congrArg (Value.int .i64) (by unfold Mm;rw[if_pos hc0])) w8
theorem Tn{b:Nat}{v:Int}(hF:Fits F w)(hGl:JG F)(hB:F b=some (#[.int .i64 v],3))(hR:Qy F q n 2 (ps.flatMap KI))(hP:Zz F ps)(hln:ps.length=n)(hf:∀t∈ps,t.f.length<=1000000/\t.k.length<=1000000)(hl:ps.length<=1000000)(hv:0<=v/\v<=24):Qb prog 130 [.slice q n cap,.pointer (some ⟨b,0,none⟩)] w F (.int .i64 (XB (J0 ps) v)):=by
 refine QU.intro (G:=λF=>JG F/\F b=some (#[.int .i64 v],3)/\Qy F q n 2 (ps.flatMap KI)/\Zz F ps) func130 rfl wy rfl rfl hF (λF' hF'=>⟨hGl.le hF',hF' _ _ hB,hR.le hF',hP.le hF'⟩)<|QGi<|wQ rfl<|wR rfl<|QA (PC (c:=#[.int .i64 v]) (T':=3) rfl Qu (λF h9=>h9.2.1) rfl)<|QJ rfl (λ_ _ f k=>Pn f (k.1) (k.2.2.1) (k.2.2.2) (hln) (hf) (hl) (hv)) λ_=>wQ rfl<|QT ?_
 exact QHT I I (rfl) w8
instance :Inhabited K8:=⟨(⟨none,0,0⟩,[])⟩
section
variable[Dr][df:Df]{P:Program}{N:Nat}{m:Sl}{S:World->Prop}{ty:TypeId}
theorem Bb{cap:Array Operand}{vs:List Value}(hv:MW m cap.toList=some vs):Qt P N m S (.makeFunc (.func g) #[] cap) ty (.func (.func g) #[] vs.toArray):=λa w _ _ _ _ ha _=>by
 have:=ha.MW hv;have e:cap.map a.eval=vs.toArray:=by rw[<-this];apply Array.ext';simp
 simp[execOp,Instr.makeFunc,e]
end
def KL(F:Gs)(ls:List K8):Prop:=∀e∈ls,Qy F e.1.q e.1.n 2 (e.2.flatMap KI)/\Zz F e.2
def KL.le(h:KL F ls)(k:Gs.le F F'):KL F' ls:=λe he=>⟨(h e he).1.le k,(h e he).2.le k⟩
def BP(e:K8):Prop:=e.2.length=e.1.n/\(∀t∈e.2,t.f.length<=1000000/\t.k.length<=1000000)/\e.2.length<=1000000
def P9(ls:List K8)(v:Int):Int:=if VC v=0 then Qn (ls.map λe=>XB (J0 e.2) v)else VC v
theorem Ij{f:Nat}{fE:K8->Int}{c1 c2:List Value}{G0:Gs->Prop}(hF:Fits F w)(hg:∀F F',Gs.le F F'->G0 F->G0 F')(h0:G0 F)(hR:Qy F q n 1 (ls.map λe=>e.1.v))(hn:ls.length=n)(hb:n<=1000000)(hc:∀e∈ls,∀w F,Fits F w->G0 F->Qb prog f (c1++[e.1.v]++c2) w F (.int .i64 (fE e))):
  Qb prog 129 [.slice q n c,.func (.func f) c1.toArray c2.toArray] w F (.int .i64 (Qn (ls.map fE))):=by
 refine QU.intro (G:=λF=>G0 F/\Qy F q n 1 (ls.map λe=>e.1.v)) func129 rfl wy rfl rfl hF (λF' hF'=>⟨hg F F' hF' h0,hR.le hF'⟩)<|QGi<|wQ rfl<|QG<|wR rfl<|QA (Qf rfl W1)<|QF5 rfl<|QF4<|QS<|J2 (ι:=Zc ls fE) [(1,_),(8,_),(9,_)] (λi=>[(10,.int .i64 ((i.i:Nat):Int))]) (λi=>ls.length-i.i) (Zc.start _ _) wU wS λi=>?_
 simp only[List.cons_append,List.nil_append];have hi:=i.le;refine wA 6 I ?_;refine QP I (λhc2=>?_) λhc2=>?_
 ·have hlt:i.i<ls.length:=wk<|QGx hc2
  have hem:=JK hlt;refine QHC 6 I<|QA (Q2 (n:=n) i.i tB rfl rfl W1 Gh O)<|QA (Qz (n:=n) ((i.i)*1) tB O I Gh (ZD (f:=λe:K8=>e.1.v) (l:=ls) O))<|QHB 7 I<|KG (c1:=c1) (c2:=c2) rfl rfl (λw F f k=>hc _ hem w F f k.1) λ_=>QHB 9 I ?_
  refine QP I (λhc2=>?_) λhc2=>?_
  ·have h18:=bne_iff_ne.1 hc2;refine wA 7 I ?_
   repeat first|refine Qw ?_|refine Qp ?_
   exact QHT I I (congrArg (Value.int .i64) (i.hit hlt h18)) w8
  have h18:=bne_eq_false_iff_eq.1 hc2;refine QM<|Qi<|QD<|QB<|QA (Qm I I O)<|wB 2 I ?_
  exact Qj (i.next hlt h18) (by show ls.length-(i.i+1)<ls.length-i.i;omega) wV QGJ tA
 have hge:ls.length<=i.i:=wk<|QGy hc2
 refine Qv ?_
 repeat first|refine QV ?_|refine QQ wy ?_
 refine QW<|QHD 7 I ?_
 exact QHT I I (congrArg (Value.int .i64) (i.stop hge)) w8
theorem P5{v:Int}(hF:Fits F w)(hGl:JG F)(hR:Qy F q n 1 (ls.map λe=>e.1.v))(hA:KL F ls)(hn:ls.length=n)(hb:n<=1000000)(ht:∀e∈ls,BP e):
  Qb prog 43 [.int .i64 v,.slice q n c] w F (.int .i64 (P9 ls v)):=by
 refine QU.intro (G:=λF=>JG F/\Qy F q n 1 (ls.map λe=>e.1.v)/\KL F ls) func43 rfl wy rfl rfl hF (λF' hF'=>⟨hGl.le hF',hR.le hF',hA.le hF'⟩)<|QGi<|JE rfl (vs:=[_]) rfl λb2=>wQ rfl<|QG<|QGi<|QA (Qh rfl Qu .here .h1)<|QJ rfl (λ_ _ f k=>Sk f ) λ_=>wQ rfl<|wR rfl<|QA (QN rfl rfl rfl)<|QE<|QD ?_
 refine QP I (λhc=>?_) λhc=>?_
 ·have hc0:=bne_iff_ne.1 hc;refine wA 7 I ?_;exact QHT I I (congrArg (Value.int .i64) (by unfold P9;rw[if_neg hc0])) w8
 have hc0:=bne_eq_false_iff_eq.1 hc;have hv:=(K5 v).1 hc0;refine QHC 5 I<|GW (b:=b2) .here<|QA (Bb I)<|QJ I (λw F hF ⟨⟨⟨hGl,hR,hA⟩,_⟩,hB⟩=>Ij (f:=130) (fE:=λe=>XB (J0 e.2) v) (c1:=[]) (c2:=[.pointer (some ⟨b2,0,none⟩)]) (G0:=λF=>JG F/\KL F ls/\F b2=some (#[.int .i64 v],3)) hF (λF F' hle h=>⟨h.1.le hle,h.2.1.le hle,hle _ _ h.2.2⟩) ⟨hGl,hA,hB⟩ hR hn hb λe he w F hF h=>Tn hF h.1 h.2.2 (h.2.1 e he).1 (h.2.1 e he).2 (ht e he).1 (ht e he).2.1 (ht e he).2.2 hv) λ_=>wQ I<|QT ?_
 exact QHT I I (congrArg (Value.int .i64) (by unfold P9;rw[if_pos hc0])) w8
def JW(p:Pt):List Tm:=p.map λx=>(Yn x.1,x.2)
def US(ts:List Gn):ts.map zS=JW (J0 ts):=by simp[JW,J0,zS]
theorem Ng:∀(p:List Tm) (t:Tm),(Xr p t).length<=p.length+1
 |[],t=>by
  unfold Xr;split<;>simp
 |x::p,t=>by
  have:=Ng p t;unfold Xr
  repeat' split
  all_goals simp only[List.length_cons]
  all_goals omega
def AU:∀(l p:List Tm),(l.foldl Xr p).length<=p.length+l.length
 |[],p=>wz
 |t::l,p=>by
  have h1:=AU l (Xr p t);have h2:=Ng p t;simp only[List.foldl_cons,List.length_cons];omega
def SV(l:List Tm):(JX l).length<=l.length:=by have:=AU l [];simpa[JX]using this
def AP:∀(l p:List Tm) (x:Tm),x∈l.foldl Xr p->(∃y∈p,y.2=x.2)\/∃y∈l,y.2=x.2
 |[],p,x,h=>.inl ⟨x,h,rfl⟩
 |t::l,p,x,h=>by
  rw[List.foldl_cons]at h;rcases AP l _ x h with ⟨y,hy,e⟩ | ⟨y,hy,e⟩
  ·rcases EM hy with h2 | h2
   ·exact .inl ⟨y,h2,e⟩
   exact .inr ⟨t,wz,by rw[<-h2];exact e⟩
  exact .inr ⟨y,by simp[hy],e⟩
def Bz{l:List Tm}{x:Tm}(h:x∈JX l):∃y∈l,y.2=x.2:=by
 rcases AP l [] x h with ⟨y,hy,_⟩ | h
 ·cases hy
 exact h
theorem Iw{p:List Tm}(h:Canon p){t:Tm}(ht:t∈p):Ig.Jt p t.2=t.1:=by
 induction p with
 |nil=>cases ht
 |cons x p ih =>
  rcases List.mem_cons.1 ht with rfl | ht
  ·exact h.head
  have hb:=(List.pairwise_cons.1 h.gF).1 t ht;have hne:x.2≠t.2:=CR hb;simp only[Ig.Jt];rw[if_neg hne,Rat.zero_add];exact ih h.tail ht
def Rz{l:List Tm}{t:Tm}(h:t∈JX l):Jn t.1<=Z3 l+1:=by
 rw[<-Iw (Zg l) h,Vv];exact DC l t.2
theorem OO{l:List Tm}(h:∀t∈l,Jn t.1<=k):Z3 l<=l.length*(k+1):=by
 induction l with
 |nil=>simp[Z3]
 |cons x l ih =>
  have e:Z3 (x::l)=Jn x.1+1+Z3 l:=by unfold Z3;rw[List.map_cons,List.sum_cons]
  have h1:=ih λt ht=>h t (by simp[ht]);have h2:=h x wz;rw[e,List.length_cons,Nat.add_mul];omega
def Rg(h:WR a b<0):before a b=true:=by rw[WQ];exact decide_eq_true h
theorem Wo{α:Type}[Inhabited α]{R:α->α->Prop}(ht:∀a b c,R a b->R b c->R a c):∀(l:List α),(∀i,0<i->i<l.length->R (el l (i-1)) (el l i))->l.Pairwise R
 |[],_=>List.Pairwise.nil
 |x::l,h=>by
  have ih:=Wo ht l λi h0 hi=>by
   have:=h (i+1) O w6;have e1:el (x::l) (i+1)=el l i:=rfl;have e2:el (x::l) (i+1-1)=el l (i-1):=by
    obtain⟨j,rfl⟩:∃j,i=j+1:=⟨i-1,O⟩;rfl
   rw[e1,e2]at this;exact this
  refine List.pairwise_cons.2 ⟨?_,ih⟩;cases l with
  |nil=>intro y hy;cases hy
  |cons z l =>
   have hz:R x z:=h 1 O wz;intro y hy;rcases List.mem_cons.1 hy with rfl | hy
   ·exact hz
   exact ht _ _ _ hz ((List.pairwise_cons.1 ih).1 y hy)
structure Y1(p:Pt)(v:Int):Prop where
 len:p.length<=64
 term:∀x∈p,ZL x.1 x.2 v=0
 can:Canon (JW p)
theorem Wh{p:Pt}{v:Int}(h:XB p v=0):Y1 p v:=by
 unfold XB at h;split at h
 ·omega
 rename_i hl;have hl':p.length<=64:=by rw[decide_eq_true_eq]at hl;omega
 have hz:∀i,i<p.length->VK p v i=0:=by
  have key:∀(l:List Int),Qn l=0->∀x∈l,x=0:=by
   intro l
   induction l with
   |nil=>intro _ x hx;cases hx
   |cons a l ih =>
    intro h x hx;unfold Qn at h;by_cases g:a=0
    ·rw[if_pos g]at h;rcases List.mem_cons.1 hx with rfl | hx
     ·exact g
     exact ih h x hx
    rw[if_neg g]at h;exact absurd h g
  intro i hi;exact key _ h _ (List.mem_map.2 ⟨i,by simpa using hi,rfl⟩)
 have hs:=λi hi=>EE (hz i hi);have hel:∀x∈p,∃i,i<p.length/\el p i=x:=λx hx=>by
  obtain⟨i,hi,e⟩:=List.getElem_of_mem hx;exact⟨i,hi,by rw[J4 hi];exact e⟩
 refine⟨hl',λx hx=>?_,⟨?_,λt ht=>?_⟩⟩
 ·obtain⟨i,hi,rfl⟩:=hel x hx;exact(hs i hi).1
 ·unfold JW;rw[List.pairwise_map];refine Wo (R:=λa b:List UInt8×List Int=>before a.2 b.2=true) (λa b c h k=>before_trans h k) p λi h0 hi=>?_;exact Rg ((hs i hi).2.2 h0)
 unfold JW at ht;obtain⟨x,hx,rfl⟩:=List.mem_map.1 ht;obtain⟨i,hi,rfl⟩:=hel x hx;have h1:=(Zn (hs i hi).1).2.2.2;have h2:=(hs i hi).2.1;intro e;have h3:=(Zb h1).1;have e':Yn (el p i).1=0:=e;rw[e']at h3;exact h2 (h3.trans Ey)
theorem Y1.sz{p:Pt}{v:Int}(h:Y1 p v):∀t∈JW p,Jn t.1<=2400:=λt ht=>by
 unfold JW at ht;obtain⟨x,hx,rfl⟩:=List.mem_map.1 ht;exact V7 (Zn (h.term x hx)).2.2.2
def Y1.Z3{p:Pt}{v:Int}(h:Y1 p v):YtpmehagnedbkhaaGreatDoor.Z3 (JW p)<=160000:=by
 have h1:=OO h.sz;have h2:(JW p).length<=64:=by unfold JW;rw[List.length_map];exact h.len
 have:=Nat.mul_le_mul_right 2401 h2;omega
theorem Y1.pw{p:Pt}{v:Int}(h:Y1 p v)(hv:v<=24):∀t∈JW p,PW t.2:=λt ht=>by
 unfold JW at ht;obtain⟨x,hx,rfl⟩:=List.mem_map.1 ht;exact Yg (h.term x hx) hv
def gW(ls:List K8)(v:Int)(l:List Tm):Int:=if P9 ls v=0 then RH l else P9 ls v
def gV(ls:List K8)(v:Int)(l:List Tm):Pt:=if P9 ls v=0 then F7 l else[]
theorem L6{v:Int}(h:P9 ls v=0):(0<=v/\v<=24)/\∀e∈ls,Y1 (J0 e.2) v:=by
 unfold P9 at h;split at h
 ·rename_i g;refine⟨(K5 v).1 g,λe he=>Wh ?_⟩;have key:∀(l:List Int),Qn l=0->∀x∈l,x=0:=by
   intro l
   induction l with
   |nil=>intro _ x hx;cases hx
   |cons a l ih =>
    intro h x hx;unfold Qn at h;by_cases g:a=0
    ·rw[if_pos g]at h;rcases List.mem_cons.1 hx with rfl | hx
     ·exact g
     exact ih h x hx
    rw[if_neg g]at h;exact absurd h g
  exact key _ h _ (List.mem_map.2 ⟨e,he,rfl⟩)
 rename_i g;exact absurd h g
theorem Wf{a:K8}{v:Int}(hF:Fits F w)(hGl:JG F)(hR:Qy F a.1.q a.1.n 2 (a.2.flatMap KI))(hP:Zz F a.2)(ht:BP a)(ho:Y1 (J0 a.2) v)(hv:0<=v/\v<=24):
  QU prog 45 [a.1.v] w F (λ(c:VO)=>c.1.v) (λc F=>Jl F c.1 c.2 (JW (J0 a.2))):=by
 have hs:=ho.Z3;have h:=yw hF hGl (r:=a.1) (ps:=a.2) hR hP ht.1 (by have:=ho.len;simp[J0]at this;omega) (λt htm=>?_) (by rw[US];omega)
 ·rw[US,PJ ho.can]at h;exact h
 have h1:=ho.term (t.f,t.k) (List.mem_map.2 ⟨t,htm,rfl⟩);exact⟨(Zn h1).2.2.2,(ht.2.1 t htm).1,Yg h1 hv.2⟩
def Jl.len{p:List Tm}(h:Jl F s ts p):ts.length=p.length:=by rw[<-h.2.2.1];simp[JQ]
def Zw{p:List Tm}{Q:Tm->Prop}(h:JQ ts=p)(hq:∀t∈p,Q t):∀t∈ts,Q t.t:=λt ht=>hq _ (h ▸ List.mem_map_of_mem ht)
theorem AF{l:List Tm}(hp:∀t∈l,PW t.2):∀t∈JX l,PW t.2:=λt ht=>by
 obtain⟨y,hy,e⟩:=Bz ht;rw[<-e];exact hp y hy
theorem z7{a b:K8}{v:Int}(hF:Fits F w)(hGl:JG F)(hA:KL F [a,b])(ht:∀e∈[a,b],BP e):
  QU prog 10 [a.1.v,b.1.v,.int .i64 v] w F (λ(c:K8)=>.tuple #[c.1.v,.int .i64 (gW [a,b] v (JX (JW (J0 a.2)++JW (J0 b.2))))]) (λc F=>Ka F c.1 c.2 (gV [a,b] v (JX (JW (J0 a.2)++JW (J0 b.2))))):=by
 have ha:a∈[a,b]:=wz;have hb:b∈[a,b]:=wz;dsimp only[Sr.v];refine QU.intro (G:=λF=>JG F/\KL F [a,b]) func10 rfl wy rfl rfl hF (λF' hF'=>⟨hGl.le hF',hA.le hF'⟩)<|QGi<|QF6 rfl<|wQ rfl<|QG<|wR rfl<|QF5 rfl<|QF5 rfl<|Qs rfl (JU W1) Gh vm rfl rfl λb12=>QJ rfl (λ_ _ f k=>P5 f k.1.1 (Qy.of (n:=2) (sz:=1) (cs:=[a,b].map λe=>e.1.v) k.2 rfl) (k.1.2) (rfl) wu (ht)) λ_=>wQ rfl<|wR rfl<|QA (QN rfl rfl rfl)<|QE<|QD ?_
 refine QP I (λhc=>?_) λhc=>?_
 ·have hc0:=bne_iff_ne.1 hc;refine wA 8 I ?_;exact J9 ((⟨none,0,0⟩,[])) I (wO I I) (by unfold gW;rw[if_neg hc0]) λF h9=>by unfold gV;rw[if_neg hc0];exact Ka.nil F
 have hc0:=bne_eq_false_iff_eq.1 hc;obtain⟨hv,hok⟩:=L6 hc0;have oa:=hok a ha;have ob:=hok b hb;have sa:=oa.Z3;have sb:=ob.Z3;have hpa:∀t∈JW (J0 a.2),PW t.2:=oa.pw hv.2;have hpb:∀t∈JW (J0 b.2),PW t.2:=ob.pw hv.2;have la:(JW (J0 a.2)).length<=64:=by unfold JW;rw[List.length_map];exact oa.len
 have lb:(JW (J0 b.2)).length<=64:=by unfold JW;rw[List.length_map];exact ob.len
 have hsz:Z3 (JW (J0 a.2)++JW (J0 b.2))<=400000:=by rw[Xq];omega
 have hpn:=AF (l:=JW (J0 a.2)++JW (J0 b.2)) λt ht=>by
  rcases List.mem_append.1 ht with h | h
  ·exact hpa t h
  exact hpb t h
 have hln:=SV (JW (J0 a.2)++JW (J0 b.2));rw[List.length_append]at hln;refine QM<|QD<|wR rfl<|QJ rfl (λ_ _ f k=>Wf f k.1.1.1 (a:=a) (k.1.1.2 a ha).1 (k.1.1.2 a ha).2 (ht a ha) oa hv) λc18=>JN _ (λ_ _ f h=>And.intro h.2.2.2.1 h.2.len) λh18p=>QF5 rfl<|QJ rfl (λ_ _ f k=>Wf f k.1.1.1.1 (a:=b) (k.1.1.1.2 b hb).1 (k.1.1.1.2 b hb).2 (ht b hb) ob hv) λc20=>JN _ (λ_ _ f h=>And.intro h.2.2.2.1 h.2.len) λh20p=>?_
 obtain⟨e18,l18⟩:=h18p;obtain⟨e20,l20⟩:=h20p;refine QJ I (λ_ _ f k=>jZ f k.1.1.1.1.1 (p:=c18) (q:=c20) (by rw[e18];exact k.1.2) (by rw[e20];exact k.2) ⟨Zw e18 hpa,Zw e20 hpb⟩ O (by rw[e18,e20];omega)) (λc21=>JN _ (λ_ _ f h=>And.intro h.2.2.2.1 h.2.len) λh21p=>?_);obtain⟨e21,l21⟩:=h21p;rw[e18,e20]at e21 l21;refine QJ I (λw F hF ⟨⟨⟨⟨⟨⟨hGl,hA⟩,hs12⟩,_⟩,h18⟩,h20⟩,h21⟩=>Uq hF (q:=c21.1.q) (n:=c21.1.n) (cap:=c21.1.cap) (ts:=c21.2) (by rw[e21];rw[e18,e20]at h21;exact h21) hGl (Zw e21 hpn) (λt htm=>Nat.le_trans (Rz (Zw e21 w9 t htm)) O) O) (λc22=>?_);rw[e21];refine QHB 7 I ?_;exact J9 (c22) rfl (wO I I) (by unfold gW;rw[if_pos hc0];rfl) λF h9=>by unfold gV;rw[if_pos hc0];exact h9.2
def PG(p:Pt)(n:Nat):Int:=if Qn [if decide ((n:Int)=0)=true then 2 else 0,if decide ((n:Int)>25)=true then 5 else 0]=0 then XB p ((n:Int)-1)else Qn [if decide ((n:Int)=0)=true then 2 else 0,if decide ((n:Int)>25)=true then 5 else 0]
def LZ{n:Nat}(h:Qn [if decide ((n:Int)=0)=true then 2 else 0,if decide ((n:Int)>25)=true then 5 else 0]=0):1<=n/\n<=25:=by
 obtain⟨h1,h2⟩:=Di h;simp only[decide_eq_true_eq]at h1 h2;constructor
 ·split at h1<;>omega
 split at h2<;>omega
theorem jU{a:K8}{n:Nat}(hF:Fits F w)(hGl:JG F)(hR:Qy F a.1.q a.1.n 2 (a.2.flatMap KI))(hA:Zz F a.2)(ht:BP a)(hn:n<=1000000):
  Qb prog 172 [a.1.v,.int .i64 (n:Nat)] w F (.int .i64 (PG (J0 a.2) n)):=by
 dsimp only[Sr.v];refine QU.intro (G:=λF=>JG F/\Qy F a.1.q a.1.n 2 (a.2.flatMap KI)/\Zz F a.2) func172 rfl wy rfl rfl hF (λF' hF'=>⟨hGl.le hF',hR.le hF',hA.le hF'⟩)<|QGi<|wQ rfl<|QG<|wR rfl<|QA (QN rfl rfl rfl)<|QJ rfl (λ_ _ f k=>Wa f ) λ_=>QF5 rfl<|QA (QN rfl rfl rfl)<|QJ rfl (λ_ _ f k=>Wa f ) λ_=>Qs rfl (JU Y4) WE RQ rfl rfl λb12=>QJ rfl (λ_ _ f k=>M0 f (Qy.of (cs:=List.map Q7 [if decide ((n:Int)=0)=true then 2 else 0,if decide ((n:Int)>25)=true then 5 else 0]) k.2 rfl) wu) λ_=>wQ rfl<|wR rfl<|QA (QN rfl rfl rfl)<|QE ?_
 refine QD ?_;refine QP I (λhc=>?_) λhc=>?_
 ·have hc0:=bne_iff_ne.1 hc;refine wA 7 I ?_;exact QHT I I (congrArg (Value.int .i64) (by unfold PG;rw[if_neg hc0])) w8
 have hc0:=bne_eq_false_iff_eq.1 hc;have hv:=LZ hc0;refine QHC 6 I<|QA (J1 I I O)<|QJ I (λ_ _ f k=>Pn f (k.1.1.1.1.1) (k.1.1.1.1.2.1) (k.1.1.1.1.2.2) (ht.1) (ht.2.1) (ht.2.2) O) λ_=>wQ I<|QT ?_
 exact QHT I I (congrArg (Value.int .i64) (by unfold PG;rw[if_pos hc0])) w8
def D6(v:Nat)(t:Tm):List Tm:=if 0<Qd t.2 v then[(t.1*((Qd t.2 v:Int):Rat),t.2.set v (Qd t.2 v-1))]else[]
def X5(v:Nat)(l:List Tm):List Tm:=l.flatMap (D6 v)
structure QFR(v:Nat)(ps:List Xa) where
 i:Nat
 ts:List Xa
 le:i<=ps.length
 hI:Va ts (X5 v (JQ (ps.take i)))
def Si{v:Nat}{ps:List Xa}(h:i<ps.length):X5 v (JQ (ps.take (i+1)))=X5 v (JQ (ps.take i))++D6 v (el ps i).t:=by
 rw[Zq h];unfold X5;rw[List.flatMap_append];simp
def vC(v:Nat)(ps:List Xa)(i:Nat):Z3 (X5 v (JQ (ps.take i)))<=Z3 (X5 v (JQ ps)):=by
 have e:JQ ps=JQ (ps.take i)++JQ (ps.drop i):=by unfold JQ;rw[<-List.map_append,List.take_append_drop]
 have h:Z3 (X5 v (JQ ps))=Z3 (X5 v (JQ (ps.take i)++JQ (ps.drop i))):=by rw[<-e]
 unfold X5 at h ⊢;rw[List.flatMap_append,Xq]at h;omega
theorem PW.set(h:PW l){v:Nat}(hk:0<Qd l v):PW (l.set v (Qd l v-1)):=by
 refine⟨λx hx=>?_,by rw[List.length_set];exact h.2⟩;rcases List.mem_or_eq_of_mem_set hx with hx | rfl
 ·exact h.1 x hx
 by_cases hv:v<l.length
 ·have:=h.el hv;omega
 have:Qd l v=0:=by simp[Qd,List.getD];intro h;exact absurd h hv
 omega
theorem LB{x:Int}(h:0<=x/\x<=1000000):sz x<=64:=Nat.le_trans (Kl (b:=1000000) O) wu
def xU(v:Nat)(l:List Tm):(X5 v l).length<=l.length:=by
 unfold X5
 induction l with
 |nil=>simp
 |cons t l ih =>
  rw[List.flatMap_cons,List.length_append,List.length_cons];have:(D6 v t).length<=1:=by unfold D6;split<;>simp
  omega
theorem jY{p:VO}{v:Nat}(hF:Fits F w)(hGl:JG F)(hP:Jl F p.1 p.2 (JQ p.2))(hp:∀t∈p.2,PW t.t.2/\v<t.t.2.length)(hl:p.2.length<=100000)(hzt:∀t∈p.2,Jn t.t.1<=20000000)(hz:Z3 (X5 v (JQ p.2))<=40000000):
  QU prog 152 [p.1.v,.int .i64 (v:Nat)] w F (λ(c:VO)=>c.1.v) (λc F=>Jl F c.1 c.2 (JX (X5 v (JQ p.2)))):=by
 have hpn:=hP.2.2.2.2;dsimp only[Sr.v];refine QU.intro (G:=λF=>JG F/\Jl F p.1 p.2 (JQ p.2)) func152 rfl wy rfl rfl hF (λF' hF'=>⟨hGl.le hF',hP.le hF'⟩)<|QGi<|wQ rfl<|QG<|QB ?_
 refine V3 tx (λm=>?_);refine QHB 7 I<|QA (Qf I ZA)<|QHB 4 I ?_
 refine Jo (ι:=QFR v p.2) [(1,_),(5,_),(11,_),(12,_)] (λi=>[(13,.int .i64 ((i.i:Nat):Int))]) (λi=>[(m,ZF tx (GV i.ts))]) (λi F=>WW F i.ts) (λi=>p.2.length-i.i) (⟨0,[],Nat.zero_le _,Va.nil⟩) wV wS QGJ (λ_ _ _ h=>by cases h) (λi=>?_);simp only[List.cons_append,List.nil_append];have hi:=i.le;refine wA 6 I ?_;refine QP I (λhc=>?_) λhc=>?_
 ·have hlt:i.i<p.2.length:=wk<|QGx hc
  have htm:=JK hlt;have hp1:=hp _ htm;have hra:=(hP.2.1 _ htm).2.2.1;have hdl:=vC v p.2 i.i;have hzz:=hzt _ htm;have hb1:=hp1.1.el hp1.2;have hl2:=hp1.1.2;refine QHC 6 I<|QA (Q2 (n:=p.1.n) i.i (λF h9=>(h9.1.2).1) rfl rfl ZA Ju O)<|QA (XZ (n:=p.1.n) (vs:=[.int .i64 (el p.2 i.i).x.n.s,.slice (el p.2 i.i).x.n.q (el p.2 i.i).x.n.n (el p.2 i.i).x.n.cap,.int .i64 (el p.2 i.i).x.d.s,.slice (el p.2 i.i).x.d.q (el p.2 i.i).x.d.n (el p.2 i.i).x.d.cap,.slice (el p.2 i.i).r.q (el p.2 i.i).r.n (el p.2 i.i).r.cap]) ((i.i)*5) (λF h9=>(h9.1.2).1) O I Ju I λj v hv=>Jg (f:=Y2) (l:=p.2) Yx O hv) ?_
  refine Qg Ye (λb7=>?_);refine QZ (vs:=[_,_,_,_,_]) I I I Ju I .here .h5 wW<|QF4<|QGi<|QA (QH I ZK Q5)<|QA (Qh I Q5 .here (.skip (.skip (.skip (.skip .h1)))))<|QF5 I<|QA (Q2 (n:=(el p.2 i.i).r.n) (v) (λF h9=>((h9.1.2.2.1 _ htm).2).1) rfl rfl Qk Qu O)<|QA (Qz (n:=(el p.2 i.i).r.n) ((v)*1) (λF h9=>((h9.1.2.2.1 _ htm).2).1) O I Qu (JH (o:=(el p.2 i.i).t.2) O))<|QHB 9 I ?_
  refine QP I (λhc=>?_) λhc=>?_
  ·have hkp:=QGx hc;refine QGi<|QA (QH I ZK Q5)<|QA (Qh I Q5 .here (.skip (.skip (.skip (.skip .h1))))) ?_
   refine XA I (List.Perm.refl _) (Tt (r:=(el p.2 i.i).r) (l:=(el p.2 i.i).t.2) (λF h9=>(h9.1.2.2.1 _ htm).2) hra O) (λc26=>?_);refine JN _ (λ_ _ f h=>h.2) (λh26=>?_);obtain⟨v26,ob26⟩:=c26;dsimp only at h26 ⊢;obtain⟨bb,cap,rest,rfl,rfl,e1,e2,e3,e4⟩:=Q6.pos h26 O;refine QHB 7 I<|QA (Qx (i:=v) rfl rfl Qk Qu O)<|QA (YY (c:=((el p.2 i.i).t.2).map Q7++rest) (T':=3) rfl Qu .u2 (Zu (by first | omega | (simp only[List.length_set];omega))))<|QA (J1 I I O)<|QA (Qx (i:=v) rfl rfl Qk Qu O)<|QZ (vs:=[_]) I I I Qu I .u2 (Vn (by first | omega | (simp only[List.length_set];omega)) ((Qd ((el p.2 i.i).t.2) (v)-1))) wS<|QE<|QD ?_
   obtain⟨r,hv,hrn,hrc,hfix⟩:=Q6.fix (w0:=w) (F0:=F) (bs1:=[(b7,.cells (Y2 (el p.2 i.i)).toArray 101 (0,0)),(m,ZF tx (GV i.ts))]) (G:=_) (Q6.some (T:=3) (sz:=1) (b:=bb) (n:=(el p.2 i.i).r.n) (cap:=cap) (l:=((el p.2 i.i).t.2.set v (Qd (el p.2 i.i).t.2 v-1)).map Q7) (rest:=rest) (by simpa using e1) (by simpa using e2) e3 e4);refine MS hfix ?_;rw[hv];refine JL (.cons_cons _ (.cons _ .slnil)) mixed wm<|QL (QC I)<|QL (QH I Ya Ql)<|QL (wJ I Ql .here)<|QL (QC I) ?_
   refine Qc I (λ_ _ f k=>f_g f O O) (λx37=>?_);refine Qc I (λw F hF ⟨⟨⟨⟨⟨hGl,hP⟩,hT⟩,_⟩,hrow⟩,⟨h37,h37_⟩⟩=>Gc hF ((hP.2.1 _ htm).1) ⟨by assumption,by assumption⟩ O (by have h2:=FU (Qd (el p.2 i.i).t.2 v);have h3:sz (Qd (el p.2 i.i).t.2 v)<=64:=LB hb1;omega)) (λx38=>?_);refine QL (QC I) ?_;refine RE I (List.Perm.swap _ _ _) (DH (r:=r) (x:=x38) i.hI (hp1.1.set hkp) (by have h1:=KO (el p.2 i.i).t.1 ((Qd (el p.2 i.i).t.2 v:Int):Rat);have h2:=FU (Qd (el p.2 i.i).t.2 v);have h3:sz (Qd (el p.2 i.i).t.2 v)<=64:=LB hb1;omega) O λF h9=>⟨h9.1.1.1.1.1.1,h9.1.1.1.1.2,⟨h9.2.1,h9.2.2⟩,by rw[hrn];exact h9.1.1.2,by rw[hrn,List.length_set];exact hra,by rw[hrn];exact hrc⟩) (λn w h=>St.imp h (.cons _ QGJ) λF h=>h.1.1.1) (λn40=>?_);refine V8 _ (λ_ _ f h=>h.2.2) (λh40=>?_);have hI2:Va (addN i.ts n40) (X5 v (JQ (p.2.take (i.i+1)))):=by
    rw[Si hlt,show D6 v (el p.2 i.i).t=[((el p.2 i.i).t.1*((Qd (el p.2 i.i).t.2 v:Int):Rat),(el p.2 i.i).t.2.set v (Qd (el p.2 i.i).t.2 v-1))]from if_pos hkp];exact i.hI.add (hp1.1.set hkp) h40
   refine Q3<|Qi<|QD<|QB<|QA (Qm I I O)<|wB 2 I ?_
   exact Qj (⟨i.i+1,addN i.ts n40,hlt,hI2⟩) (by show p.2.length-(i.i+1)<p.2.length-i.i;omega) wW (.cons_cons _ (.cons _ .slnil)) λF h=>⟨h.1.1.1.1.1.1,h.2.1⟩
  have hkp:=QGy hc;refine QM<|Qi<|QD<|QB<|QA (Qm I I O)<|wB 2 I ?_
  exact Qj (⟨i.i+1,i.ts,hlt,by rw[Si hlt,show D6 v (el p.2 i.i).t=[]from if_neg hkp,List.append_nil];exact i.hI⟩) (by show p.2.length-(i.i+1)<p.2.length-i.i;omega) wW (.cons _ QGJ) λF h=>⟨h.1,h.2⟩
 have hge:i.i=p.2.length:=wk<|QGy hc
 refine Qv ?_
 repeat first|refine QV ?_|refine QQ wy ?_
 refine QW<|QHD 4 I ?_
 have hI:=i.hI;rw[hge,List.take_length]at hI;refine XA I (List.Perm.refl _) (Hh hI (by have h1:=hI.ln;have h2:=xU v (JQ p.2);rw[ZC]at h2;omega) tB) (λc43=>?_);refine wQ I<|QT ?_
 exact QO (c43) rfl (wN I) (rfl) tB
theorem Y1.wide{p:Pt}{v:Int}(h:Y1 p v):∀t∈JW p,(t.2.length:Int)=v+1:=λt ht=>by
 unfold JW at ht;obtain⟨x,hx,rfl⟩:=List.mem_map.1 ht;exact(Zn (h.term x hx)).1
theorem gi{v:Nat}{l:List Tm}{x:Tm}(h:x∈X5 v l):∃t∈l,0<Qd t.2 v/\x=(t.1*((Qd t.2 v:Int):Rat),t.2.set v (Qd t.2 v-1)):=by
 unfold X5 at h;obtain⟨t,ht,h⟩:=List.mem_flatMap.1 h;unfold D6 at h;split at h
 ·rename_i g;rw[List.mem_singleton]at h;exact⟨t,ht,g,h⟩
 cases h
def FW{a z v r:List Value}(h:z.length=v.length):Ym (a++(z++r)) a.length v (a++(v++r)):=by
 have:=Ym.mk' a.length (a++(z++r)) v (by simp only[List.length_append];omega);rw[List.take_left,List.drop_append,List.drop_of_length_le O,List.nil_append,Nat.add_sub_cancel_left,List.drop_append,List.drop_of_length_le O,List.nil_append,<-h,Nat.sub_self,List.drop_zero,List.append_assoc]at this;exact this
def We(F:Gs)(xs:List (Fr×Rat)):Prop:=∀p∈xs,Jz F p.1 p.2
def We.le{xs:List (Fr×Rat)}(h:We F xs)(k:Gs.le F F'):We F' xs:=λp hp=>(h p hp).le k
def Yi(xs:List (Fr×Rat)):List Value:=xs.flatMap λp=>B6 p.1
theorem Sc(xs:List (Fr×Rat)):(Yi xs).length=xs.length*4:=by
 unfold Yi
 induction xs with
 |nil=>rfl
 |cons x xs ih=>rw[List.flatMap_cons,List.length_append,ih,List.length_cons,Nat.add_mul];simp[B6];omega
def zFr:List Value:=[.int .i64 0,.slice none 0 0,.int .i64 0,.slice none 0 0]
def cI{xs:List (Fr×Rat)}(h:xs.length=i)(hi:i<n)(x:Fr)(r:Rat):Ym (Yi xs++XP zFr (n-i)) (0+i*4) (B6 x) (Yi (xs++[(x,r)])++XP zFr (n-(i+1))):=by
 have e1:n-i=(n-(i+1))+1:=O;have e2:Yi (xs++[(x,r)])=Yi xs++B6 x:=by unfold Yi;rw[List.flatMap_append];simp
 rw[e1,XP,e2,List.append_assoc,show 0+i*4=(Yi xs).length by rw[Sc,h];omega];exact FW I
def Ep(c:Rat)(xs:List Rat)(ks:List Int)(i:Nat):Rat:=(List.range i).foldl (λa j=>a*(el xs j)^(Qd ks j).toNat) c
def Bv(c:Rat)(xs:List Rat)(ks:List Int)(i:Nat):Ep c xs ks (i+1)=Ep c xs ks i*(el xs i)^(Qd ks i).toNat:=by
 unfold Ep;rw[List.range_succ,List.foldl_append];rfl
def Ay(xs:List Rat)(l:List Tm):Rat:=l.foldl (λa t=>a+Ep t.1 xs t.2 t.2.length) 0
instance :Inhabited Fr:=⟨⟨⟨0,none,0,0⟩,⟨1,none,0,0⟩⟩⟩
instance :Inhabited (Fr×Rat):=⟨(default,0)⟩
theorem Ib(h:Qn l=0):∀x∈l,x=0:=by
 induction l with
 |nil=>intro x hx;cases hx
 |cons a l ih =>
  intro x hx;unfold Qn at h;by_cases g:a=0
  ·rw[if_pos g]at h;rcases List.mem_cons.1 hx with rfl | hx
   ·exact g
   exact ih h x hx
  rw[if_neg g]at h;exact absurd h g
def OQ(s:List UInt8×List UInt8):List Value:=[tx s.1,tx s.2]
theorem Rq{B:Nat}:∀(l:List Rat) (s:Rat×Rat),Jn s.1<=B->Jn s.2<=B->(∀x∈l,Jn x<=B)->Jn (l.foldl XR s).1<=B/\Jn (l.foldl XR s).2<=B
 |[],s,h1,h2,_=>⟨h1,h2⟩
 |x::l,s,h1,h2,h=>by
  have hx:=h x wz;exact Rq l (XR s x) (by unfold XR;dsimp only;split<;>assumption) (by unfold XR;dsimp only;split<;>assumption) λy hy=>h y (by simp[hy])
def Gq(c:Rat×Rat)(bs:List (Rat×Rat))(ks:List Int)(i:Nat):Rat×Rat:=(List.range i).foldl (λa j=>if Qd ks j>0 then Z5 a (PF (el bs j) (Qd ks j))else a) c
def He(c:Rat×Rat)(bs:List (Rat×Rat))(ks:List Int)(i:Nat):Gq c bs ks (i+1)=if Qd ks i>0 then Z5 (Gq c bs ks i) (PF (el bs i) (Qd ks i))else Gq c bs ks i:=by
 unfold Gq;rw[List.range_succ,List.foldl_append];rfl
def Ca(a b:Rat×Rat):Rat×Rat:=(a.1+b.1,a.2+b.2)
def B0(bs:List (Rat×Rat))(l:List Tm):Rat×Rat:=l.foldl (λa t=>Ca a (Gq (t.1,t.1) bs t.2 t.2.length)) (0,0)
def Ih(h:i<ts.length):B0 bs (JQ (ts.take (i+1)))=Ca (B0 bs (JQ (ts.take i))) (Gq ((el ts i).t.1,(el ts i).t.1) bs (el ts i).t.2 (el ts i).t.2.length):=by
 rw[Zq h];unfold B0;rw[List.foldl_append];rfl
def Nh(a:Rat×Rat)(k:Nat):Prop:=Jn a.1<=k/\Jn a.2<=k
def Nh.mono{a:Rat×Rat}{l:Nat}(h:Nh a k)(g:k<=l):Nh a l:=⟨Nat.le_trans h.1 g,Nat.le_trans h.2 g⟩
def MI{r:Rat}{l:List Rat}(h:Jn r<=k)(hl:∀x∈l,Jn x<=k):Nh (YK r l) k:=Rq l (r,r) h h hl
theorem Ft{a b:Rat×Rat}(ha:Nh a m)(hb:Nh b n):Nh (Z5 a b) (m+n):=by
 have h:∀x y:Rat,Jn x<=m->Jn y<=n->Jn (x*y)<=m+n:=λx y h1 h2=>wk<|KO x y
 unfold Z5;refine MI (h _ _ ha.1 hb.1) λx hx=>?_;simp only[List.mem_cons,List.not_mem_nil,or_false]at hx;rcases hx with rfl | rfl | rfl
 ·exact h _ _ ha.1 hb.2
 ·exact h _ _ ha.2 hb.1
 exact h _ _ ha.2 hb.2
theorem Uz{a:Rat×Rat}{n:Int}(ha:Nh a m)(hn:n<=12):Nh (PF a n) (12*m+1):=by
 have h:∀x:Rat,Jn x<=m->Jn (x^n.toNat)<=12*m+1:=λx hx=>by
  have h1:=S6 x n.toNat;have h2:n.toNat*Jn x<=12*m:=Nat.mul_le_mul O hx;omega
 have hs:Nh (YK (a.1^n.toNat) [a.2^n.toNat]) (12*m+1):=MI (h _ ha.1) λx hx=>by
  simp only[List.mem_cons,List.not_mem_nil,or_false]at hx;rw[hx];exact h _ ha.2
 refine⟨?_,hs.2⟩;unfold PF;dsimp only;split
 ·have:Jn (0:Rat)<=1:=wu;omega
 exact hs.1
def vR{a b:Rat×Rat}(ha:Nh a m)(hb:Nh b n):Nh (Ca a b) (m+n+1):=by
 have h1:=RJ a.1 b.1;have h2:=RJ a.2 b.2;have h3:=ha.1;have h4:=ha.2;have h5:=hb.1;have h6:=hb.2;exact⟨by show Jn (a.1+b.1)<=_;omega,by show Jn (a.2+b.2)<=_;omega⟩
def yG{c:Rat×Rat}{ks:List Int}(hc:Nh c 2400)(hx:∀x∈bs,Nh x 2400)(hk:∀k∈ks,0<=k/\k<=12):∀i,i<=bs.length->i<=ks.length->Nh (Gq c bs ks i) (2400+i*28801):=by
 intro i
 induction i with
 |zero=>intro _ _;simpa[Gq]using hc
 |succ i ih =>
  intro h1 h2;have h3:=ih O O;have h6:=hx _ (JK (show i<bs.length by omega));have h7:0<=Qd ks i/\Qd ks i<=12:=by rw[Zk (show i<ks.length by omega)];exact hk _ (JK O)
  rw[He];split
  ·exact(Ft h3 (Uz h6 h7.2)).mono O
  exact h3.mono O
def Au{B:Nat}:∀(l:List Tm) (a:Rat×Rat) (k:Nat),Nh a k->(∀t∈l,Nh (Gq (t.1,t.1) bs t.2 t.2.length) B)->Nh (l.foldl (λa t=>Ca a (Gq (t.1,t.1) bs t.2 t.2.length)) a) (k+l.length*(B+1))
 |[],a,k,h,_=>by simpa using h
 |t::l,a,k,h,hl=>by
  have h1:=Au l (Ca a (Gq (t.1,t.1) bs t.2 t.2.length)) _ (vR h (hl t wz)) λt ht=>hl t (by simp[ht]);rw[List.foldl_cons,List.length_cons,Nat.add_mul];exact h1.mono O
def ZR(s:List UInt8×List UInt8):Rat×Rat:=(Yn s.1,Yn s.2)
def pA(p:Pt)(ss:List (List UInt8×List UInt8)):(List UInt8×List UInt8)×Int :=
 if PG p ss.length=0 then(if Qn (ss.map λs=>ZJ s.1 s.2)=0 then RM (B0 (ss.map ZR) (JW p))else(([],[]),Qn (ss.map λs=>ZJ s.1 s.2)))else(([],[]),PG p ss.length)
structure EsO(n:Nat) where
 i:Nat
 x:Sp
 le:i<=n
structure EsI(n:Nat) where
 j:Nat
 y:Sp
 le:j<=n
def CB{ss:List (List UInt8×List UInt8)}(h:j<ss.length):el (ss.map ZR) j=ZR (el ss j):=by rw[J4 (by simpa using h),J4 h];simp
def pK(x:Sp):List Value:=B6 x.lo++B6 x.hi
theorem Cr{a:K8}{ss:List (List UInt8×List UInt8)}(hF:Fits F w)(hGl:JG F)(hR:Qy F a.1.q a.1.n 2 (a.2.flatMap KI))(hA:Zz F a.2)(ht:BP a)(hS:Qy F q n 2 (ss.flatMap OQ))(hn:ss.length=n)(hl:∀s∈ss,s.1.length<=1000000/\s.2.length<=1000000)(hnb:n<=1000000):
  Qb prog 74 [a.1.v,.slice q n cap] w F (.tuple #[.agg #[tx (pA (J0 a.2) ss).1.1,tx (pA (J0 a.2) ss).1.2],.int .i64 (pA (J0 a.2) ss).2]):=by
 dsimp only[Sr.v];refine QU.intro (G:=λF=>JG F/\Qy F a.1.q a.1.n 2 (a.2.flatMap KI)/\Zz F a.2/\Qy F q n 2 (ss.flatMap OQ)) func74 rfl wy rfl rfl hF (λF' hF'=>⟨hGl.le hF',hR.le hF',hA.le hF',hS.le hF'⟩)<|QG<|QB ?_
 refine Qg EA (λb4=>?_);refine QHB 8 I<|QA (Qf I YP) ?_
 refine QJ I (λ_ _ f k=>jU f (k.1) (k.2.1) (k.2.2.1) (ht) (hnb)) (λ_=>?_);refine QHB 9 I ?_;refine QP I (λhc=>?_) λhc=>?_
 ·have hc0:=bne_iff_ne.1 hc;refine QGi<|QA (XL I UC EA .nil)<|QF5 I<|QZ (vs:=[_,_]) I I I Xx I .here .h2 wT<|wQ I<|QT ?_
  exact J9 (()) I (.Jv (c:=[_,_]) I Xx .here (wN I)) (by unfold pA;rw[hn,if_neg hc0];rfl) w8
 have hc0:=bne_eq_false_iff_eq.1 hc;have hpl:Qn [if decide ((n:Int)=0)=true then 2 else 0,if decide ((n:Int)>25)=true then 5 else 0]=0/\XB (J0 a.2) ((n:Int)-1)=0:=by
  unfold PG at hc0;by_cases g:Qn [if decide ((n:Int)=0)=true then 2 else 0,if decide ((n:Int)>25)=true then 5 else 0]=0
  ·rw[if_pos g]at hc0;exact⟨g,hc0⟩
  rw[if_neg g]at hc0;exact absurd hc0 g
 have hn1:=LZ hpl.1;have oa:=Wh hpl.2;refine QHC 6 I ?_;refine QJ I (λw F hF ⟨⟨hGl,hR,hA,hS⟩,_⟩=>Ii (f:=120) (es:=ss.map λs=>ZJ s.1 s.2) (vs:=λi=>OQ (el ss i)) (c1:=[]) (c2:=[]) (G0:=JG) hF (λF F' hle h=>h.le hle) hGl hS (by rw[List.length_map];exact hn) O
  (λi hi=>⟨rfl,λj v hv=>Jg (f:=OQ) (l:=ss) (λ_=>rfl) O hv⟩)
  (λi hi v hv=>by
   unfold OQ at hv;simp only[List.mem_cons,List.not_mem_nil,or_false]at hv;rcases hv with rfl | rfl<;>rfl)
  (λi hi w F hF hG=>by
   rw[List.getElem_map,<-J4 (show i<ss.length by simpa using hi)];exact MG hF hG (hl _ (JK (show i<ss.length by simpa using hi))))) λ_=>?_
 refine QHB 9 I ?_;refine QP I (λhc=>?_) λhc=>?_
 ·have hd0:=bne_iff_ne.1 hc;refine QGi<|QA (XL I UC EA .nil)<|QF5 I<|QZ (vs:=[_,_]) I I I Xx I .here .h2 wT<|wQ I<|QT ?_
  exact J9 (()) I (.Jv (c:=[_,_]) I Xx .here (wN I)) (by unfold pA;rw[hn,if_pos hc0,if_neg hd0];rfl) w8
 have hd0:=bne_eq_false_iff_eq.1 hc;have hcs:∀s∈ss,ZJ s.1 s.2=0:=λs hs=>Ib hd0 _ (List.mem_map.2 ⟨s,hs,rfl⟩);have hss:∀s∈ss,Nh (ZR s) 2400:=λs hs=>by
  have h3:=Eb (hcs s hs);exact⟨V7 h3.1,V7 h3.2.1⟩
 have hxs:∀x∈ss.map ZR,Nh x 2400:=λx hx=>by
  obtain⟨s,hs,rfl⟩:=List.mem_map.1 hx;exact hss s hs
 have hpa:∀t∈JW (J0 a.2),PW t.2:=oa.pw O;have hpk:∀t∈JW (J0 a.2),∀k∈t.2,0<=k/\k<=12:=λt ht=>by
  unfold JW at ht;obtain⟨x,hx,rfl⟩:=List.mem_map.1 ht;exact(Zn (oa.term x hx)).2.1
 have hwd:∀t∈JW (J0 a.2),t.2.length=n:=λt ht=>wk<|oa.wide t ht
 have la:(JW (J0 a.2)).length<=64:=by unfold JW;rw[List.length_map];exact oa.len
 have hsl2:(ss.map ZR).length=n:=by rw[List.length_map];exact hn
 have hvm:∀t∈JW (J0 a.2),∀i,i<=n->Nh (Gq (t.1,t.1) (ss.map ZR) t.2 i) 722425:=λt ht i hi=>by
  have h1:=yG (c:=(t.1,t.1)) ⟨oa.sz t ht,oa.sz t ht⟩ hxs (hpk t ht) i O (by rw[hwd t ht];exact hi);have h2:i*28801<=25*28801:=Nat.mul_le_mul_right _ O;exact h1.mono O
 have hev:∀l:List Tm,(∀t∈l,t∈JW (J0 a.2))->l.length<=64->Nh (B0 (ss.map ZR) l) 50000000:=λl hl h64=>by
  have h1:=Au (bs:=ss.map ZR) (B:=722425) l (0,0) 1 ⟨wu,wu⟩ λt ht=>hvm t (hl t ht) _ (Nat.le_of_eq (hwd t (hl t ht)));have h3:l.length*722426<=64*722426:=Nat.mul_le_mul_right _ h64;unfold B0;exact h1.mono O
 refine QHC 4 I ?_;refine QJ I (λ_ _ f k=>f_g f O O) (λx28=>?_);refine QJ I (λw F hF ⟨⟨⟨⟨hGl,hR,hA,hS⟩,_⟩,_⟩,⟨h28,h28_⟩⟩=>Ku hF (x:=x28) (ps:=[]) ⟨by assumption,by assumption⟩ (Qy.nil F _ _) (λp hp=>absurd hp (List.not_mem_nil)) I O ⟨wu,λp hp=>absurd hp (List.not_mem_nil)⟩) (λc29=>?_);refine Qg VI (λb8=>?_);refine QZ (vs:=[_,_,_,_,_,_,_,_]) I I I XM I .here .h8 wZ<|QHB 6 I ?_
 refine QJ I (λ_ _ f k=>Wf f k.1.1.1.1.1 (a:=a) k.1.1.1.1.2.1 k.1.1.1.1.2.2.1 ht oa O) (λc31=>?_);refine JN _ (λ_ _ f h=>And.intro h.2.2.2.1 (And.intro h.2.len (And.intro h.2.2.2.2.2 λt ht=>(h.2.2.1 t ht).2.2.1))) (λh31p=>?_);obtain⟨e31,l31,m31,r31⟩:=h31p;have hsub:∀k,∀t∈JQ (c31.2.take k),t∈JW (J0 a.2):=λk t ht=>by
  rw[<-e31];unfold JQ at ht ⊢;obtain⟨y,hy,rfl⟩:=List.mem_map.1 ht;exact List.mem_map_of_mem (List.mem_of_mem_take hy)
 refine QA (Qf I ZA)<|QHB 4 I ?_
 refine Jo (ι:=EsO c31.2.length) [(1,_),(4,_),(8,_),(31,_),(32,_)] (λi=>[(33,.int .i64 ((i.i:Nat):Int))]) (λi=>[(b8,.cells (pK i.x).toArray 229 (0,0)),(b4,.cells [tx [],tx []].toArray 56 (0,0))]) (λi F=>Zp F i.x (B0 (ss.map ZR) (JQ (c31.2.take i.i)))) (λi=>c31.2.length-i.i) (⟨0,c29,Nat.zero_le _⟩) wW wS QGJ (λ_ h=>h.1.2) (λi=>?_);simp only[List.cons_append,List.nil_append];have hi:=i.le;have hes:=hev (JQ (c31.2.take i.i)) (λt ht=>hsub _ t ht) (by rw[ZC,List.length_take];omega);refine wA 6 I ?_;refine QP I (λhc=>?_) λhc=>?_
 ·have hlt:i.i<c31.2.length:=wk<|QGx hc
  have htm:=JK hlt;have htA:(el c31.2 i.i).t∈JW (J0 a.2):=e31 ▸ List.mem_map_of_mem htm;have hw1:=hwd _ htA;have hpw:=hpa _ htA;have hl1000:=hpw.2;have hrl:=r31 _ htm;have hct:=oa.sz _ htA;refine QHC 6 I<|QA (Q2 (n:=c31.1.n) i.i (λF h9=>(h9.1.2).1) rfl rfl ZA Ju O)<|QA (XZ (n:=c31.1.n) (vs:=[.int .i64 (el c31.2 i.i).x.n.s,.slice (el c31.2 i.i).x.n.q (el c31.2 i.i).x.n.n (el c31.2 i.i).x.n.cap,.int .i64 (el c31.2 i.i).x.d.s,.slice (el c31.2 i.i).x.d.q (el c31.2 i.i).x.d.n (el c31.2 i.i).x.d.cap,.slice (el c31.2 i.i).r.q (el c31.2 i.i).r.n (el c31.2 i.i).r.cap]) ((i.i)*5) (λF h9=>(h9.1.2).1) O I Ju I λj v hv=>Jg (f:=Y2) (l:=c31.2) Yx O hv) ?_
  refine Qg Ye (λb10=>?_);refine QZ (vs:=[_,_,_,_,_]) I I I Ju I .here .h5 wW<|QF4<|QGi<|QA (QH I Ya Ql)<|QA (wJ I Ql .here) ?_
  refine QJ I (λ_ F f k=>Ku f (x:=(el c31.2 i.i).x) (ps:=[]) ((k.1.2.2.1 _ htm).1) (Qy.nil F _ _) (λp hp=>absurd hp (List.not_mem_nil)) I O ⟨O,λp hp=>absurd hp (List.not_mem_nil)⟩) (λc39=>?_);refine Qg VI (λb11=>?_);refine QZ (vs:=[_,_,_,_,_,_,_,_]) I I I XM I .here .h8 wZ<|QHB 5 I<|QA (QH I ZK Q5)<|QA (Qh I Q5 .u1 (.skip (.skip (.skip (.skip .h1)))))<|QA (Qf I Qk)<|QHB 4 I ?_
  refine Jo (ι:=EsI (el c31.2 i.i).t.2.length) [(1,_),(4,_),(8,_),(11,_),(31,_),(32,_),(33,_),(41,_),(42,_)] (λi2=>[(43,.int .i64 ((i2.j:Nat):Int))]) (λi2=>[(b11,.cells (pK i2.y).toArray 229 (0,0)),(b10,.cells (Y2 (el c31.2 i.i)).toArray 101 (0,0)),(b8,.cells (pK i.x).toArray 229 (0,0)),(b4,.cells [tx [],tx []].toArray 56 (0,0))]) (λi2 F=>Zp F i2.y (Gq ((el c31.2 i.i).t.1,(el c31.2 i.i).t.1) (ss.map ZR) (el c31.2 i.i).t.2 i2.j)) (λi2=>(el c31.2 i.i).t.2.length-i2.j) (⟨0,c39,Nat.zero_le _⟩) we wS QGJ tB (λi2=>?_);simp only[List.cons_append,List.nil_append];have hj:=i2.le;have hvs:=hvm _ htA i2.j O;refine wA 6 I ?_;refine QP I (λhc=>?_) λhc=>?_
  ·have hlt2:i2.j<(el c31.2 i.i).t.2.length:=wk<|QGx hc
   have hls:i2.j<ss.length:=O;have hem:=JK hls;have hck:=Eb (hcs _ hem);have hlh:=hl _ hem;have hbx:=hss _ hem;have hk12:0<=Qd (el c31.2 i.i).t.2 i2.j/\Qd (el c31.2 i.i).t.2 i2.j<=12:=by rw[Zk hlt2];exact hpk _ htA _ (JK hlt2)
   have hpz:=Uz hbx hk12.2;refine QHC 7 I<|QA (Q2 (n:=(el c31.2 i.i).r.n) (i2.j) (λF h9=>((h9.1.1.1.2.2.1 _ htm).2).1) rfl rfl Qk Qu O)<|QA (Qz (n:=(el c31.2 i.i).r.n) ((i2.j)*1) (λF h9=>((h9.1.1.1.2.2.1 _ htm).2).1) O I Qu (JH (o:=(el c31.2 i.i).t.2) O))<|QHB 10 I ?_
   refine QP I (λhc=>?_) λhc=>?_
   ·have hpos:Qd (el c31.2 i.i).t.2 i2.j>0:=QGx hc;refine XN 9 QGJ mixed wm wm ?_;simp only[List.take_succ_cons,List.take_zero,List.drop_succ_cons,List.drop_zero];refine QL (wK I XM .here)<|QL (QC I)<|QL (QC I)<|QL (Q2 (n:=n) (i2.j) (λF h9=>h9.1.1.1.1.1.1.1.1.2.2.2) rfl rfl YP Xx O)<|QL (XZ (n:=n) (vs:=[tx (el ss (i2.j)).1,tx (el ss (i2.j)).2]) ((i2.j)*2) (λF h9=>h9.1.1.1.1.1.1.1.1.2.2.2) O I Xx I λj v hv=>Jg (f:=OQ) (l:=ss) (λ_=>rfl) O hv) ?_
    refine Qc I (λ_ _ f k=>p9 f k.1.1.1.1.1.1.1.1.1 hck.1 hck.2.1 hlh) (λc55=>?_);refine QL (QC I) ?_;refine Qc I (λ_ _ f k=>qi (x:=c55) (a:=ZR (el ss i2.j)) (n:=Qd (el c31.2 i.i).t.2 i2.j) f k.2 hk12 ⟨Nat.le_trans hbx.1 wu,Nat.le_trans hbx.2 wu⟩) (λc57=>?_);refine Qc I (λ_ _ f k=>qd (x:=i2.y) (y:=c57) f k.1.1.2 k.2 ⟨Nat.le_trans hvs.1 O,Nat.le_trans hvs.2 O⟩ ⟨Nat.le_trans hpz.1 wu,Nat.le_trans hpz.2 wu⟩) (λc58=>?_);refine KH<|QZ (vs:=[_,_,_,_,_,_,_,_]) I I I XM I .here .h8 wZ<|QE<|Qi<|QD<|QB<|QA (Qm I I O)<|wB 2 I ?_
    exact Qj (⟨i2.j+1,c58,hlt2⟩) (by show(el c31.2 i.i).t.2.length-(i2.j+1)<(el c31.2 i.i).t.2.length-i2.j;omega) wg QGJ λF h9=>⟨h9.1.1.1.1,by show Zp F c58 (Gq _ (ss.map ZR) _ (i2.j+1));rw[He,if_pos hpos,CB hls];exact h9.2⟩
   have hpos:¬Qd (el c31.2 i.i).t.2 i2.j>0:=QGy hc;refine QM<|Qi<|QD<|QB<|QA (Qm I I O)<|wB 2 I ?_
   exact Qj (⟨i2.j+1,i2.y,hlt2⟩) (by show(el c31.2 i.i).t.2.length-(i2.j+1)<(el c31.2 i.i).t.2.length-i2.j;omega) wg QGJ λF h9=>⟨h9.1,by show Zp F i2.y (Gq _ (ss.map ZR) _ (i2.j+1));rw[He,if_neg hpos];exact h9.2⟩
  have hge2:i2.j=(el c31.2 i.i).t.2.length:=wk<|QGy hc
  refine Qv ?_
  repeat first|refine QV ?_|refine QQ wy ?_
  refine QW<|QD<|QB<|QA (wK I XM .u2)<|QA (wK I XM .here) ?_
  refine QJ I (λ_ _ f k=>yU (x:=i.x) (y:=i2.y) f k.1.1.2 k.2 ⟨Nat.le_trans hes.1 wu,Nat.le_trans hes.2 wu⟩ ⟨Nat.le_trans hvs.1 O,Nat.le_trans hvs.2 O⟩) (λc62=>?_);refine QZ (vs:=[_,_,_,_,_,_,_,_]) I I I XM I .u2 .h8 wZ<|QE<|Qi<|QD<|QB<|QA (Qm I I O)<|wB 2 I ?_
  exact Qj (⟨i.i+1,c62,hlt⟩) (by show c31.2.length-(i.i+1)<c31.2.length-i.i;omega) wX (.cons _ (.cons _ QGJ)) λF h9=>⟨h9.1.1.1.1,by show Zp F c62 (B0 _ (JQ (c31.2.take (i.i+1))));rw[Ih hlt,<-hge2];exact h9.2⟩
 have hge:i.i=c31.2.length:=wk<|QGy hc
 refine Qv ?_
 repeat first|refine QV ?_|refine QQ wy ?_
 refine QW<|QD<|QGi<|QA (wK I XM .here) ?_
 refine QJ I (λ_ _ f k=>yZ f k.1.1.1.1.1.1.1 (x:=i.x) k.2 ⟨Nat.le_trans hes.1 wu,Nat.le_trans hes.2 wu⟩) (λ_=>?_);rw[hge,List.take_length,e31];refine wB 2 I<|QZ (vs:=[_,_]) I I I Xx I .u1 .h2 wT<|wQ I<|QT ?_
 exact J9 (()) I (.Jv (c:=[_,_]) I Xx .u1 (wN I)) (by unfold pA;rw[hn,if_pos hc0,if_pos hd0];rfl) w8
structure ui(a b:List Int) where
 i:Nat
 le:i<=a.length
 h:a.take i=b.take i
structure uv(a b:List Int) where
 i:Nat
 le:i<=a.length
 h:ZU a b=ZU (a.drop i) (b.drop i)
def ui.next(s:ui a b)(h1:s.i<a.length)(h2:s.i<b.length)(e:Qd a s.i=Qd b s.i):a.take (s.i+1)=b.take (s.i+1):=by
 rw[Xg h1,Xg h2,s.h,<-Zk h1,<-Zk h2,e]
def uv.step(s:uv a b)(h1:s.i<a.length)(h2:s.i<b.length):ZU a b=(decide (Qd b s.i<Qd a s.i)||(decide (Qd a s.i=Qd b s.i)&&ZU (a.drop (s.i+1)) (b.drop (s.i+1)))):=by
 rw[s.h,XH h1,XH h2];rfl
theorem Ul{q2:Option Addr}{n2 c2:Nat}(hF:Fits F w)(hA:JP F ⟨q,n,c⟩ a)(hB:JP F ⟨q2,n2,c2⟩ b)(la:a.length<=1000000):Qb prog 57 [.slice q n c,.slice q2 n2 c2] w F (.bool (decide (a=b))):=by
 have na:=hA.2.1;have nb:=hB.2.1;dsimp only at na nb;refine QU.intro (G:=λF=>JP F ⟨q,n,c⟩ a/\JP F ⟨q2,n2,c2⟩ b) func57 rfl wy rfl rfl hF (λF' hF'=>⟨hA.le hF',hB.le hF'⟩)<|QGi<|wQ rfl<|QG<|wR rfl<|QA (Qf rfl Qk)<|QF5 rfl<|QA (Qf rfl Qk)<|QA (QN rfl rfl rfl)<|QE<|QD ?_
 refine QP I (λhc=>?_) λhc=>?_
 ·have hne:=bne_iff_ne.1 hc;refine wA 6 I ?_;exact QHT I I (congrArg Value.bool (decide_eq_false λe=>hne (by rw[<-na,<-nb,e]))) w8
 have hne:=bne_eq_false_iff_eq.1 hc;refine QHC 9 I<|J2 (ι:=ui a b) [(0,_),(1,_)] (λi=>[(5,.int .i64 ((i.i:Nat):Int))]) (λi=>a.length-i.i) (⟨0,Nat.zero_le _,rfl⟩) wT wS λi=>?_
 simp only[List.cons_append,List.nil_append];have hi:=i.le;refine wA 5 I<|QA (Qf I Qk)<|QHB 3 I ?_
 refine QP I (λhc=>?_) λhc=>?_
 ·have hlt:i.i<a.length:=wk<|QGx hc
  refine QHC 5 I<|JL QGJ mixed wm<|QL (QC I)<|QL (QC I)<|QL (Q2 (n:=n) i.i (λF h9=>(h9.1).1) rfl rfl Qk Qu O)<|QL (Qz (n:=n) ((i.i)*1) (λF h9=>(h9.1).1) O I Qu (JH (o:=a) O))<|QL (QC I)<|QL (QC I)<|QL (Q2 (n:=n2) i.i (λF h9=>(h9.2).1) rfl rfl Qk Qu O)<|QL (Qz (n:=n2) ((i.i)*1) (λF h9=>(h9.2).1) O I Qu (JH (o:=b) O))<|QL (QN I I I)<|Q3<|QD ?_
  refine QP I (λhc=>?_) λhc=>?_
  ·have he:=bne_iff_ne.1 hc;refine wA 6 I ?_
   repeat first|refine Qw ?_|refine Qp ?_
   exact QHT I I (congrArg Value.bool (decide_eq_false λe=>he (congrArg (λz=>Qd z i.i) e))) w8
  have he:=bne_eq_false_iff_eq.1 hc;refine QM<|Qi<|QHD 3 I<|QA (Qm I I O)<|wB 2 I ?_
  exact Qj (⟨i.i+1,hlt,i.next hlt O he⟩) (by show a.length-(i.i+1)<a.length-i.i;omega) wU QGJ w9
 have hge:i.i=a.length:=wk<|QGy hc
 refine Qv ?_
 repeat first|refine QV ?_|refine QQ wy ?_
 refine QW<|QHD 7 I ?_
 exact QHT I I (congrArg Value.bool (decide_eq_true (by have h:=i.h;rw[hge,List.take_length,List.take_of_length_le O]at h;exact h))) w8
theorem Wl{r:Sr}(hF:Fits F w)(hR:JP F r l)(hp:PW l):Qb prog 127 [r.v] w F (.int .i64 l.sum):=by
 obtain⟨q,n,c⟩:=r;have hln:=hR.2.1;dsimp only[Sr.v]at hln ⊢;have hl1:=hp.2;refine QU.intro (G:=λF=>JP F ⟨q,n,c⟩ l) func127 rfl wy rfl rfl hF (λF' hF'=>hR.le hF')<|QGi<|wQ rfl<|QGi<|wQ rfl<|QG<|QGi<|wQ rfl<|QS<|J2 (ι:={i:Nat // i<=l.length}) [(0,_)] (λi=>[(3,.int .i64 ((l.take i.1).sum)),(4,.int .i64 ((i.1:Nat):Int))]) (λi=>l.length-i.1) (⟨0,Nat.zero_le _⟩) wS wT λi=>?_
 simp only[List.cons_append,List.nil_append];have hi:=i.2;have hs:=hp.sum i.1 hi;refine wA 5 I<|QA (Qf I Qk)<|QHB 3 I ?_
 refine QP I (λhc=>?_) λhc=>?_
 ·have hlt:i.1<l.length:=wk<|QGx hc
  have he:=hp.el hlt;refine QHC 8 I<|QA (Q2 (n:=n) (i.1) (λF hR=>(hR).1) rfl rfl Qk Qu O)<|QA (Qz (n:=n) ((i.1)*1) (λF hR=>(hR).1) O I Qu (JH (o:=l) O))<|QA (Qm I I O)<|wB 2 I<|Qi<|QHD 3 I<|QA (Qm I I O)<|wB 2 I ?_
  exact Qj (⟨i.1+1,hlt⟩) (by show l.length-(i.1+1)<l.length-i.1;omega) ⟨rfl,(congrArg (λz:Int=>some (Value.int .i64 z)) (Nw hlt).symm),rfl,trivial⟩ QGJ w9
 have hge:i.1=l.length:=wk<|QGy hc
 refine Qv ?_
 repeat first|refine QV ?_|refine QQ wy ?_
 refine QW<|QHD 8 I ?_
 exact QHT I I (congrArg (Value.int .i64) (by rw[List.take_of_length_le O])) w8
theorem OY{q2:Option Addr}{n2 c2:Nat}(hF:Fits F w)(hA:JP F ⟨q,n,c⟩ a)(hB:JP F ⟨q2,n2,c2⟩ b)(pa:PW a)(pb:PW b)(hl:a.length=b.length):Qb prog 200 [.slice q n c,.slice q2 n2 c2] w F (.bool (before a b)):=by
 have na:=hA.2.1;have nb:=hB.2.1;dsimp only at na nb;have la:=pa.2;refine QU.intro (G:=λF=>JP F ⟨q,n,c⟩ a/\JP F ⟨q2,n2,c2⟩ b) func200 rfl wy rfl rfl hF (λF' hF'=>⟨hA.le hF',hB.le hF'⟩)<|QGi<|wQ rfl<|QG<|wR rfl<|QJ rfl (λ_ _ f k=>Wl f (r:=⟨q,n,c⟩) k.1 (pa)) λ_=>QF5 rfl<|QJ rfl (λ_ _ f k=>Wl f (r:=⟨q2,n2,c2⟩) k.1.2 (pb)) λ_=>QA (QN rfl rfl rfl)<|QE<|QD ?_
 refine QP I (λhc=>?_) λhc=>?_
 ·have hne:=bne_iff_ne.1 hc;refine wR I<|QJ I (λ_ _ f k=>Wl f (r:=⟨q,n,c⟩) k.1.1.1 (pa)) λ_=>QF5 I<|QJ I (λ_ _ f k=>Wl f (r:=⟨q2,n2,c2⟩) k.1.1.1.2 (pb)) λ_=>QHB 5 I ?_
  exact QHT I I (congrArg Value.bool (by unfold before;rw[decide_eq_false hne,Bool.false_and,Bool.or_false])) w8
 have hne:=bne_eq_false_iff_eq.1 hc;refine QHC 9 I<|J2 (ι:=uv a b) [(0,_),(1,_)] (λi=>[(5,.int .i64 ((i.i:Nat):Int))]) (λi=>a.length-i.i) (⟨0,Nat.zero_le _,rfl⟩) wT wS λi=>?_
 simp only[List.cons_append,List.nil_append];have hi:=i.le;refine wA 5 I<|QA (Qf I Qk)<|QHB 3 I ?_
 refine QP I (λhc=>?_) λhc=>?_
 ·have hlt:i.i<a.length:=wk<|QGx hc
  refine QHC 5 I<|JL QGJ mixed wm<|QL (QC I)<|QL (QC I)<|QL (Q2 (n:=n) i.i (λF h9=>(h9.1.1.1).1) rfl rfl Qk Qu O)<|QL (Qz (n:=n) ((i.i)*1) (λF h9=>(h9.1.1.1).1) O I Qu (JH (o:=a) O))<|QL (QC I)<|QL (QC I)<|QL (Q2 (n:=n2) i.i (λF h9=>(h9.1.1.2).1) rfl rfl Qk Qu O)<|QL (Qz (n:=n2) ((i.i)*1) (λF h9=>(h9.1.1.2).1) O I Qu (JH (o:=b) O))<|QL (QN I I I)<|Q3<|QD ?_
  refine QP I (λhc=>?_) λhc=>?_
  ·have he:=bne_iff_ne.1 hc;refine QG<|JL QGJ mixed wm<|QL (QC I)<|QL (QC I)<|QL (Q2 (n:=n) i.i (λF h9=>(h9.1.1.1).1) rfl rfl Qk Qu O)<|QL (Qz (n:=n) ((i.i)*1) (λF h9=>(h9.1.1.1).1) O I Qu (JH (o:=a) O))<|QL (QC I)<|QL (QC I)<|QL (Q2 (n:=n2) i.i (λF h9=>(h9.1.1.2).1) rfl rfl Qk Qu O)<|QL (Qz (n:=n2) ((i.i)*1) (λF h9=>(h9.1.1.2).1) O I Qu (JH (o:=b) O))<|QL (QN I I I)<|QL (QF I)<|Q3<|QD<|QT ?_
   repeat first|refine Qw ?_|refine Qp ?_
   exact QHT I I (congrArg Value.bool (by unfold before;rw[i.step hlt O,decide_eq_false he,hne];simp)) w8
  have he:=bne_eq_false_iff_eq.1 hc;refine QM<|Qi<|QHD 3 I<|QA (Qm I I O)<|wB 2 I ?_
  exact Qj (⟨i.i+1,hlt,by rw[i.step hlt O,he];simp⟩) (by show a.length-(i.i+1)<a.length-i.i;omega) wU QGJ w9
 have hge:i.i=a.length:=wk<|QGy hc
 refine Qv ?_
 repeat first|refine QV ?_|refine QQ wy ?_
 refine QW<|QHD 7 I ?_
 exact QHT I I (congrArg Value.bool (by unfold before;rw[i.h,hge,List.drop_of_length_le (Nat.le_refl _),hne];simp[ZU])) w8
theorem Fu{v:Int}(h1:(l.length:Int)=v+1)(h2:∀k∈l,0<=k):ZL f l v=if decide (Vw l>12)=true then 4 else Jy f:=by
 unfold ZL;rw[if_neg (λh=>h h1),if_neg (xu h2)];simp only[Qn];by_cases g:decide (Vw l>12)=true
 ·rw[if_pos g,if_pos g,if_neg wu]
 rw[if_neg g,if_neg g,if_pos rfl];by_cases k:Jy f=0
 ·rw[k];rfl
 rw[if_neg k]
theorem RZ{v:Int}(hF:Fits F w)(hGl:JG F)(hR:JP F ⟨q,n,cap⟩ l)(hf:f.length<=9223372036854775807)(hl:l.length<=9223372036854775807)(hv : -1000000<=v/\v<=1000000):Qb prog 198 [.agg #[tx f,.slice q n cap],.int .i64 v] w F (.int .i64 (ZL f l v)):=by
 have hln:l.length=n:=hR.2.1;refine QU.intro (G:=λF=>JG F/\JP F ⟨q,n,cap⟩ l) func198 rfl wy rfl rfl hF (λF' hF'=>⟨hGl.le hF',hR.le hF'⟩)<|QGi<|JE rfl (vs:=[_,_]) rfl λb2=>wQ rfl<|QG<|QGi<|QA (QH rfl KB Q5)<|QA (Qh rfl Q5 .here (.skip .h1))<|QA (Qf rfl Qk)<|QF5 rfl<|QA (Qm rfl rfl O)<|QA (QN rfl rfl rfl)<|QE<|QD ?_
 refine QP I (λhc=>?_) λhc=>?_
 ·have hne:=bne_iff_ne.1 hc;refine wA 6 I ?_;exact QHT I I (congrArg (Value.int .i64) (by unfold ZL;rw[if_pos (by rw[hln];exact hne)])) w8
 have heq:=bne_eq_false_iff_eq.1 hc;refine QHC 14 I<|J2 (ι:=QB8 l) [(2,_)] (λi=>[(5,.int .i64 (Vw (l.take i.i))),(6,.int .i64 ((i.i:Nat):Int))]) (λi=>l.length-i.i) (⟨0,Nat.zero_le _,wz⟩) wS wT λi=>?_
 simp only[List.cons_append,List.nil_append];have hi:=i.le;have hb:=Bs _ i.nn;rw[List.length_take]at hb;refine wA 4 I<|QA (QH I KB Q5)<|QA (Qh I Q5 .here (.skip .h1))<|QA (Qf I Qk)<|QHB 3 I ?_
 refine QP I (λhc=>?_) λhc=>?_
 ·have hlt:i.i<l.length:=wk<|QGx hc
  refine QHC 7 I<|QA (QH I KB Q5)<|QA (Qh I Q5 .here (.skip .h1))<|QF5 I<|QA (Q2 (n:=n) i.i (λF h9=>(h9.2).1) rfl rfl Qk Qu O)<|QA (Qz (n:=n) ((i.i)*1) (λF h9=>(h9.2).1) O I Qu (JH (o:=l) O))<|QHB 3 I ?_
  refine QP I (λhc=>?_) λhc=>?_
  ·have hng:=QGx hc;refine wA 6 I ?_
   repeat first|refine Qw ?_|refine Qp ?_
   exact QHT I I (congrArg (Value.int .i64) (by unfold ZL;rw[if_neg (by rw[hln];exact λh=>h heq),if_pos (L5 hlt hng)])) w8
  have hng:=QGy hc;refine QHC 4 I<|QA (QH I KB Q5)<|QA (Qh I Q5 .here (.skip .h1))<|QF5 I<|QA (Q2 (n:=n) i.i (λF h9=>(h9.2).1) rfl rfl Qk Qu O)<|QA (Qz (n:=n) ((i.i)*1) (λF h9=>(h9.2).1) O I Qu (JH (o:=l) O))<|QA (jK I I)<|QA (Qm I I O)<|wB 2 I<|Qi<|QHD 3 I<|QA (Qm I I O)<|wB 2 I ?_
  exact Qj (⟨i.i+1,hlt,by intro k hk;rw[Xg hlt]at hk;rcases List.mem_append.1 hk with hk | hk;exact i.nn k hk;rw[List.mem_singleton.1 hk,<-Zk hlt];omega⟩) (by show l.length-(i.i+1)<l.length-i.i;omega) ⟨rfl,(congrArg (λz:Int=>some (Value.int .i64 z)) (Sq hlt).symm),rfl,trivial⟩ QGJ w9
 have hge:i.i=l.length:=wk<|QGy hc
 refine Qv ?_
 repeat first|refine QV ?_|refine QQ wy ?_
 refine QW<|QHD 4 I ?_
 rw[hge,List.take_length];have hnn:=i.nn;rw[hge,List.take_length]at hnn;have hte:=Fu (f:=f) (v:=v) (by rw[hln];exact heq) hnn;refine QHB 4 I ?_;refine QP I (λhc=>?_) λhc=>?_
 ·have hbg:=hc;refine wA 6 I ?_;exact QHT I I (congrArg (Value.int .i64) (by rw[hte,if_pos hbg])) w8
 have hbg:=hc;refine QHC 4 I<|QA (QH I G5 Jk)<|QA (Qh I Jk .here .h1)<|QJ I (λ_ _ f k=>EI f (hf)) λ_=>wQ I<|QT ?_
 exact QHT I I (congrArg (Value.int .i64) (by rw[hte,hbg];rfl)) w8
section
variable{ps:List Gn}{v:Int}{i:Nat}
theorem QEW(h:i<ps.length)(he:ZL (el ps i).f (el ps i).k v≠0):VK (J0 ps) v i=ZL (el ps i).f (el ps i).k v:=by
 have e:Qn [ZL (el ps i).f (el ps i).k v,if((el ps i).f==[48])=true then 6 else 0]=ZL (el ps i).f (el ps i).k v:=by
  unfold Qn;rw[if_neg he]
 rw[step_eq h e,if_neg (λg=>he g.1)]
theorem QEV(h:i<ps.length)(he:ZL (el ps i).f (el ps i).k v=0)(hz:((el ps i).f==[48])=true):VK (J0 ps) v i=6:=by
 have e:Qn [ZL (el ps i).f (el ps i).k v,if((el ps i).f==[48])=true then 6 else 0]=6:=by
  rw[he,if_pos hz];rfl
 rw[step_eq h e,if_neg (λg=>wk g.1)]
theorem qh(h:i<ps.length)(he:ZL (el ps i).f (el ps i).k v=0)(hz:((el ps i).f==[48])=false):VK (J0 ps) v i=if 0<i/\before (el ps (i-1)).k (el ps i).k=false then 11 else 0:=by
 have e:Qn [ZL (el ps i).f (el ps i).k v,if((el ps i).f==[48])=true then 6 else 0]=0:=by
  rw[he,hz];rfl
 rw[step_eq h e];have hb:(0<=WR (el ps (i-1)).k (el ps i).k)↔before (el ps (i-1)).k (el ps i).k=false:=by
  rw[WQ,decide_eq_false_iff_not];omega
 by_cases g:0<i/\before (el ps (i-1)).k (el ps i).k=false
 ·rw[if_pos g,if_pos ⟨rfl,g.1,hb.2 g.2⟩]
 rw[if_neg g,if_neg (λh=>g ⟨h.2.1,hb.1 h.2.2⟩)]
end
theorem El{v:Int}(hF:Fits F w)(hGl:JG F)(hR:Qy F q n 2 (ps.flatMap KI))(hP:Zz F ps)(hln:ps.length=n)(hf:∀t∈ps,t.f.length<=9223372036854775807/\t.k.length<=9223372036854775807)(hl:ps.length<=9223372036854775807)(hv:0<=v/\v<=24):Qb prog 89 [.slice q n cap,.int .i64 v] w F (.int .i64 (XB (J0 ps) v)):=by
 have hal:(J0 ps).length=n:=by unfold J0;rw[List.length_map];exact hln
 refine QU.intro (G:=λF=>JG F/\Qy F q n 2 (ps.flatMap KI)/\Zz F ps) func89 rfl wy rfl rfl hF (λF' hF'=>⟨hGl.le hF',hR.le hF',hP.le hF'⟩)<|QGi<|wQ rfl<|QG<|wR rfl<|QA (Qf rfl ZI)<|QA (QN rfl rfl rfl)<|QE<|QD ?_
 refine QP I (λhc=>?_) λhc=>?_
 ·have hbig:=hc;refine wA 6 I ?_;exact QHT I I (congrArg (Value.int .i64) (by unfold XB;rw[hal,if_pos hbig])) w8
 have hbig:=QGy hc;refine QHC 9 I<|J2 (ι:=Ce (J0 ps) v n) [(0,_),(1,_)] (λi=>[(5,.int .i64 ((i.i:Nat):Int))]) (λi=>n-i.i) (⟨0,Nat.zero_le _,λj hj=>absurd hj (Nat.not_lt_zero _)⟩) wT wS λi=>?_
 simp only[List.cons_append,List.nil_append];have hi:=i.le;refine wA 5 I<|QA (Qf I ZI)<|QHB 3 I ?_
 refine QP I (λhc=>?_) λhc=>?_
 ·have hlt:i.i<n:=wk<|QGx hc
  have htm:el ps i.i∈ps:=JK O;refine QHC 8 I<|QA (Q2 (n:=n) i.i (λF h9=>h9.2.1) rfl rfl ZI Zl O)<|QA (XZ (n:=n) (vs:=[tx (el ps i.i).f,.slice (el ps i.i).r.q (el ps i.i).r.n (el ps i.i).r.cap]) ((i.i)*2) (λF h9=>h9.2.1) O I Zl I λj v hv=>Jg (f:=KI) (l:=ps) Z4 O hv)<|QF5 I<|QJ I (λ_ _ g h=>RZ g (h.1) (f:=(el ps i.i).f) (l:=(el ps i.i).k) (h.2.2 _ htm) ((hf _ htm).1) ((hf _ htm).2) O) λ_=>QHB 10 I ?_
  refine QP I (λhc=>?_) λhc=>?_
  ·have h23:=bne_iff_ne.1 hc;refine wA 7 I ?_
   repeat first|refine Qw ?_|refine Qp ?_
   exact QHT I I (congrArg (Value.int .i64) (W5 hal hbig i hlt (QEW O h23) h23)) w8
  have h23:=bne_eq_false_iff_eq.1 hc;refine QHC 7 I<|QA (Q2 (n:=n) i.i (λF h9=>h9.1.2.1) rfl rfl ZI Zl O)<|QA (QH I G5 Jk)<|QA (Qz (n:=n) ((i.i)*2+0) (λF h9=>h9.1.2.1) O I Jk (Jg (f:=KI) (l:=ps) Z4 O I))<|QJ I (λ_ _ f k=>ye f ) λ_=>QE<|QD ?_
  refine QP I (λhc=>?_) λhc=>?_
  ·have h30:=hc;refine wA 6 I ?_
   repeat first|refine Qw ?_|refine Qp ?_
   exact QHT I I (congrArg (Value.int .i64) (W5 hal hbig i hlt (QEV O h23 h30) wu)) w8
  have h30:=hc;refine QHC 3 I<|JL QGJ mixed wm<|QL (QC I)<|QL (QN I I I)<|QL (QC I) ?_
  refine Kz (t:=33) rfl (λhb33=>?_) λhb33=>?_
  ·have hi0:0<i.i:=wk<|QGx hb33
   have hz0:=(EE (i.z (i.i-1) O)).1;rw[HK (show i.i-1<ps.length by omega)]at hz0;have htm0:el ps (i.i-1)∈ps:=JK O;refine JM I I<|QL (QC I)<|JM I I<|QL (QC I)<|JM I I<|QL (J1 I I O)<|JM I I<|QL (Q2 (n:=n) ((i.i-1)) (λF h9=>h9.1.1.2.1) rfl wM ZI Zl O)<|JM I I<|QL (QH I KB Q5)<|JM I I<|QL (Qz (n:=n) (((i.i-1))*2+1) (λF h9=>h9.1.1.2.1) O I Q5 (Jg (f:=KI) (l:=ps) Z4 O I))<|JM I I<|QL (QC I)<|JM I I<|QL (QC I)<|JM I I<|QL (Q2 (n:=n) i.i (λF h9=>h9.1.1.2.1) rfl rfl ZI Zl O)<|JM I I<|QL (QH I KB Q5)<|JM I I<|QL (Qz (n:=n) ((i.i)*2+1) (λF h9=>h9.1.1.2.1) O I Q5 (Jg (f:=KI) (l:=ps) Z4 O I))<|JM I I<|Qc I (λ_ _ f h=>OY f (a:=(el ps (i.i-1)).k) (b:=(el ps i.i).k) (h.1.1.2.2 _ htm0) (h.1.1.2.2 _ htm) (Yg hz0 hv.2) (Yg h23 hv.2) (by have h1:=(Zn hz0).1;have h2:=(Zn h23).1;dsimp only at h1;omega)) λ_=>JM I I ?_
   refine QL (Jw I)<|QL (Qa I I I)<|Q3<|QD ?_
   refine QP I (λhc=>?_) λhc=>?_
   ·refine wA 6 I ?_
    repeat first|refine Qw ?_|refine Qp ?_
    exact QHT I I (congrArg (Value.int .i64) (W5 hal hbig i hlt (by rw[qh O h23 h30,if_pos ⟨hi0,by simpa using hc⟩]) wu)) w8
   refine QM<|Qi<|QHD 3 I<|QA (Qm I I O)<|wB 2 I ?_
   exact Qj (⟨i.i+1,hlt,λj hj=>by
    rcases Nat.lt_or_ge j i.i with g | g
    ·exact i.z j g
    rw[show j=i.i from by omega];first | (rw[qh O h23 h30,if_neg (λh=>wk<|QGy hb33)]) | (rw[qh O h23 h30,if_neg (λh=>by rw[h.2]at hc;cases hc)])⟩) (by show n-(i.i+1)<n-i.i;omega) wU QGJ λF h=>h.1.1.1
  refine Q8 I I I<|Q8 I I I<|Q8 I I I<|Q8 I I I<|Q8 I I I<|Q8 I I I<|Q8 I I I<|Q8 I I I<|Q8 I I I<|Q8 I I I<|Q8 I I I<|Q8 I I I<|Q8 I I I<|QL (QY I I I)<|Q3<|QD<|Xo I<|QM<|Qi<|QHD 3 I<|QA (Qm I I O)<|wB 2 I ?_
  exact Qj (⟨i.i+1,hlt,λj hj=>by
    rcases Nat.lt_or_ge j i.i with g | g
    ·exact i.z j g
    rw[show j=i.i from by omega];first | (rw[qh O h23 h30,if_neg (λh=>wk<|QGy hb33)]) | (rw[qh O h23 h30,if_neg (λh=>by rw[h.2]at hc;cases hc)])⟩) (by show n-(i.i+1)<n-i.i;omega) wU QGJ λF h=>h.1.1
 have hge:n<=i.i:=wk<|QGy hc
 refine Qv ?_
 repeat first|refine QV ?_|refine QQ wy ?_
 refine QW<|QHD 7 I ?_
 exact QHT I I (congrArg (Value.int .i64) (UY hal hbig i hge)) w8
structure ug(a b:List Gn) where
 i:Nat
 le:i<=a.length
 h:(J0 a).take i=(J0 b).take i
def Wg(a:List Gn):(J0 a).length=a.length:=by simp[J0]
def ug.next{a b:List Gn}(s:ug a b)(h1:s.i<a.length)(h2:s.i<b.length)(e1:(el a s.i).f=(el b s.i).f)(e2:(el a s.i).k=(el b s.i).k):(J0 a).take (s.i+1)=(J0 b).take (s.i+1):=by
 rw[Xg (by rw[Wg];exact h1),Xg (by rw[Wg];exact h2),s.h,HK h1,HK h2,e1,e2]
def TD{a b:List Gn}(h1:i<a.length)(h2:i<b.length)(h:J0 a=J0 b):(el a i).f=(el b i).f/\(el a i).k=(el b i).k:=by
 have e1:=HK h1;have e2:=HK h2;rw[h,e2]at e1;have:=Prod.mk.inj e1;exact⟨this.1.symm,this.2.symm⟩
theorem Uk{q2:Option Addr}{n2 cap2:Nat}{a b:List Gn}(hF:Fits F w)(hR:Qy F q n 2 (a.flatMap KI))(hP:Zz F a)(hR2:Qy F q2 n2 2 (b.flatMap KI))(hP2:Zz F b)(hln:a.length=n)(hln2:b.length=n2)(hf:∀t∈a,t.k.length<=1000000)(hl:a.length<=1000000):Qb prog 12 [.slice q n cap,.slice q2 n2 cap2] w F (.bool (decide (J0 a=J0 b))):=by
 refine QU.intro (G:=λF=>Qy F q n 2 (a.flatMap KI)/\Zz F a/\Qy F q2 n2 2 (b.flatMap KI)/\Zz F b) func12 rfl wy rfl rfl hF (λF' hF'=>⟨hR.le hF',hP.le hF',hR2.le hF',hP2.le hF'⟩)<|QGi<|wQ rfl<|QG<|wR rfl<|QA (Qf rfl ZI)<|QF5 rfl<|QA (Qf rfl ZI)<|QA (QN rfl rfl rfl)<|QE<|QD ?_
 refine QP I (λhc=>?_) λhc=>?_
 ·have hne:=bne_iff_ne.1 hc;refine wA 6 I ?_;exact QHT I I (congrArg Value.bool (decide_eq_false λe=>hne (by rw[<-hln,<-hln2,<-Wg a,<-Wg b,e]))) w8
 have hne:=bne_eq_false_iff_eq.1 hc;refine QHC 9 I<|J2 (ι:=ug a b) [(0,_),(1,_)] (λi=>[(5,.int .i64 ((i.i:Nat):Int))]) (λi=>a.length-i.i) (⟨0,Nat.zero_le _,rfl⟩) wT wS λi=>?_
 simp only[List.cons_append,List.nil_append];have hi:=i.le;refine wA 5 I<|QA (Qf I ZI)<|QHB 3 I ?_
 refine QP I (λhc=>?_) λhc=>?_
 ·have hlt:i.i<a.length:=wk<|QGx hc
  have hlt2:i.i<b.length:=O;have hta:=JK hlt;have htb:=JK hlt2;refine QHC 5 I<|JL QGJ mixed wm<|QL (QC I)<|QL (QC I)<|QL (Q2 (n:=n) i.i tA rfl rfl ZI Zl O)<|QL (QH I G5 Jk)<|QL (Qz (n:=n) ((i.i)*2+0) tA O I Jk (Jg (f:=KI) (l:=a) Z4 O I))<|QL (QC I)<|QL (QC I)<|QL (Q2 (n:=n2) i.i (λF h9=>h9.2.2.1) rfl rfl ZI Zl O)<|QL (QH I G5 Jk)<|QL (Qz (n:=n2) ((i.i)*2+0) (λF h9=>h9.2.2.1) O I Jk (Jg (f:=KI) (l:=b) Z4 O I))<|QL (TL I I)<|QL (QC I) ?_
  refine Kz (t:=28) rfl (λhb28=>?_) λhb28=>?_
  ·have h28:¬(el a i.i).f=(el b i.i).f:=bne_iff_ne.1 hb28;refine Q8 I I I<|Q8 I I I<|Q8 I I I<|Q8 I I I<|Q8 I I I<|Q8 I I I<|Q8 I I I<|Q8 I I I<|Q8 I I I<|Q8 I I I<|Q8 I I I<|Q8 I I I<|QL (Qa I I I)<|Q3<|QD<|K6 I<|wA 6 I ?_
   repeat first|refine Qw ?_|refine Qp ?_
   exact QHT I I (congrArg Value.bool (decide_eq_false λe=>by first | exact h28 (TD hlt hlt2 e).1 | (have g:=(TD hlt hlt2 e).2;rw[g]at hc;simp at hc))) w8
  have h28:(el a i.i).f=(el b i.i).f:=bne_eq_false_iff_eq.1 hb28;refine JM I I<|QL (QC I)<|JM I I<|QL (QC I)<|JM I I<|QL (Q2 (n:=n) i.i tA rfl rfl ZI Zl O)<|JM I I<|QL (QH I KB Q5)<|JM I I<|QL (Qz (n:=n) ((i.i)*2+1) tA O I Q5 (Jg (f:=KI) (l:=a) Z4 O I))<|JM I I<|QL (QC I)<|JM I I<|QL (QC I)<|JM I I<|QL (Q2 (n:=n2) i.i (λF h9=>h9.2.2.1) rfl rfl ZI Zl O)<|JM I I<|QL (QH I KB Q5)<|JM I I<|QL (Qz (n:=n2) ((i.i)*2+1) (λF h9=>h9.2.2.1) O I Q5 (Jg (f:=KI) (l:=b) Z4 O I))<|JM I I<|Qc I (λ_ _ f h=>Ul f (a:=(el a i.i).k) (b:=(el b i.i).k) (h.2.1 _ hta) (h.2.2.2 _ htb) (hf _ hta)) λ_=>JM I I<|QL (Jw I)<|QL (QY I I I) ?_
  refine Q3<|QD ?_
  refine QP I (λhc=>?_) λhc=>?_
  ·refine wA 6 I ?_
   repeat first|refine Qw ?_|refine Qp ?_
   exact QHT I I (congrArg Value.bool (decide_eq_false λe=>by first | exact h28 (TD hlt hlt2 e).1 | (have g:=(TD hlt hlt2 e).2;rw[g]at hc;simp at hc))) w8
  refine QM<|Qi<|QHD 3 I<|QA (Qm I I O)<|wB 2 I ?_
  exact Qj (⟨i.i+1,hlt,i.next hlt hlt2 h28 (by simpa using hc)⟩) (by show a.length-(i.i+1)<a.length-i.i;omega) wU QGJ tA
 have hge:i.i=a.length:=wk<|QGy hc
 refine Qv ?_
 repeat first|refine QV ?_|refine QQ wy ?_
 refine QW<|QHD 7 I ?_
 exact QHT I I (congrArg Value.bool (decide_eq_true (by have h:=i.h;rw[hge,List.take_of_length_le (by rw[Wg];omega),List.take_of_length_le (by rw[Wg];omega)]at h;exact h))) w8
structure Dx{α:Type}(l:List α)(p:α->Bool) where
 i:Nat
 le:i<=l.length
 z:∀x∈l.take i,p x=false
section
variable{α:Type}[Inhabited α]{l:List α}{p:α->Bool}
def Dx.start(l:List α)(p:α->Bool):Dx l p:=⟨0,Nat.zero_le _,wz⟩
def Dx.next(s:Dx l p)(h:s.i<l.length)(e:p (el l s.i)=false):Dx l p:=⟨s.i+1,h,λx hx=>by
 rw[Xg h]at hx;rcases List.mem_append.1 hx with hx | hx
 ·exact s.z x hx
 rw[List.mem_singleton.1 hx];exact e⟩
def Dx.hit(s:Dx l p)(h:s.i<l.length)(e:p (el l s.i)=true):l.any p=true:=List.any_eq_true.2 ⟨_,JK h,e⟩
theorem Dx.stop(s:Dx l p)(h:l.length<=s.i):¬l.any p=true:=by
 rw[List.any_eq_true];rintro⟨x,hx,e⟩;have:=s.z x (by rw[List.take_of_length_le h];exact hx);rw[this]at e;cases e
end
def Tu(ps:List Gn)(q:List UInt8×List Int->Bool):(J0 ps).any q=ps.any λt=>q (t.f,t.k):=by unfold J0;rw[List.any_map];rfl
def OG(p:Pt)(v a b c:Int):Bool:=if(p.length:Int)>a\/XB p v≠0 then false else !(p.any λx=>decide (x.2.sum>b)||!(Gd x.1 c))
theorem Uo{v a b c:Int}(hF:Fits F w)(hGl:JG F)(hR:Qy F q n 2 (ps.flatMap KI))(hP:Zz F ps)(hln:ps.length=n)(hf:∀t∈ps,t.f.length<=9223372036854775807/\t.k.length<=9223372036854775807)(hl:ps.length<=9223372036854775807)(hv:0<=v/\v<=24)(hcd:0<=c/\c<=1000000):Qb prog 40 [.slice q n cap,.int .i64 v,.int .i64 a,.int .i64 b,.int .i64 c] w F (.bool (OG (J0 ps) v a b c)):=by
 have hal:(J0 ps).length=n:=by rw[Wg];exact hln
 refine QU.intro (G:=λF=>JG F/\Qy F q n 2 (ps.flatMap KI)/\Zz F ps) func40 rfl wy rfl rfl hF (λF' hF'=>⟨hGl.le hF',hR.le hF',hP.le hF'⟩)<|QGi<|wQ rfl<|QG<|wR rfl<|QA (Qf rfl ZI)<|QF5 rfl<|QA (QN rfl rfl rfl)<|QF5 rfl ?_
 refine Qe (t:=16) rfl (λhb16=>?_) λhb16=>?_
 ·have h16:=QGx hb16;refine QHB 7 I<|K6 I<|wA 6 I ?_
  exact QHT I I (congrArg Value.bool (by unfold OG;rw[hal,if_pos (Or.inl h16)])) w8
 have h16:=QGy hb16;refine wB 5 I<|QJ I (λ_ _ f k=>El f (k.1) (k.2.1) (k.2.2) (hln) (hf) (hl) (hv)) λ_=>QHB 5 I ?_
 refine QP I (λhc2=>?_) λhc2=>?_
 ·have h21:=bne_iff_ne.1 hc2;refine wA 6 I ?_;exact QHT I I (congrArg Value.bool (by unfold OG;rw[if_pos (Or.inr h21)])) w8
 have h21:=bne_eq_false_iff_eq.1 hc2;have hok:=Wh h21;have hpw:∀t∈ps,PW t.k:=λt ht=>Yg (hok.term (t.f,t.k) (List.mem_map.2 ⟨t,ht,rfl⟩)) hv.2;refine QHC 9 I<|J2 (ι:=Dx ps λt=>decide (t.k.sum>b)||!(Gd t.f c)) [(0,_),(3,_),(4,_)] (λi=>[(11,.int .i64 ((i.i:Nat):Int))]) (λi=>ps.length-i.i) (Dx.start _ _) wU wS λi=>?_
 simp only[List.cons_append,List.nil_append];have hi:=i.le;refine wA 5 I<|QA (Qf I ZI)<|QHB 3 I ?_
 refine QP I (λhc2=>?_) λhc2=>?_
 ·have hlt:i.i<ps.length:=wk<|QGx hc2
  have htm:=JK hlt;refine QHC 8 I<|QA (Q2 (n:=n) i.i (λF h9=>h9.1.2.1) rfl rfl ZI Zl O)<|QA (QH I KB Q5)<|QA (Qz (n:=n) ((i.i)*2+1) (λF h9=>h9.1.2.1) O I Q5 (Jg (f:=KI) (l:=ps) Z4 O I))<|QJ I (λ_ _ f k=>Wl f (r:=(el ps i.i).r) (k.1.2.2 _ htm) (hpw _ htm)) λ_=>wB 3 I ?_
  refine Qe (t:=36) rfl (λhb36=>?_) λhb36=>?_
  ·refine QHB 11 I<|K6 I<|wA 6 I ?_
   repeat first|refine Qw ?_|refine Qp ?_
   exact QHT I I (congrArg Value.bool (by unfold OG;rw[hal,if_neg (λh=>h.elim h16 λg=>g h21),Tu,i.hit hlt (by rw[hb36];rfl)];rfl)) w8
  refine wB 5 I<|QA (Q2 (n:=n) i.i (λF h9=>h9.1.1.2.1) rfl rfl ZI Zl O)<|QK I I<|QA (QH I G5 Jk)<|QK I I<|QA (Qz (n:=n) ((i.i)*2+0) (λF h9=>h9.1.1.2.1) O I Jk (Jg (f:=KI) (l:=ps) Z4 O I))<|wB 3 I<|QJ I (λw F hF ⟨⟨⟨hGl,hR,hP⟩,_⟩,_⟩=>pT hF (by have h8:Jy (el ps i.i).f=0:=(Zn (hok.term ((el ps i.i).f,(el ps i.i).k) (List.mem_map.2 ⟨el ps i.i,htm,rfl⟩))).2.2.2;have h9:=GI (Yn (el ps i.i).f);rw[<-(Zb h8).1]at h9;have h10:=V7 h8;omega) (hcd)) λ_=>QK I I<|QA (Jw I)<|QHB 3 I ?_
  refine QP I (λhc2=>?_) λhc2=>?_
  ·refine wA 6 I ?_
   repeat first|refine Qw ?_|refine Qp ?_
   exact QHT I I (congrArg Value.bool (by unfold OG;rw[hal,if_neg (λh=>h.elim h16 λg=>g h21),Tu,i.hit hlt (by rw[hc2];simp)];rfl)) w8
  refine QM<|Qi<|QHD 3 I<|QA (Qm I I O)<|wB 2 I ?_
  exact Qj (i.next hlt (by rw[hb36,Bool.false_or];exact hc2)) (by show ps.length-(i.i+1)<ps.length-i.i;omega) wV QGJ λF h=>h.1.1
 have hge:ps.length<=i.i:=wk<|QGy hc2
 refine Qv ?_
 repeat first|refine QV ?_|refine QQ wy ?_
 refine QW<|QHD 7 I ?_
 exact QHT I I (congrArg Value.bool (by unfold OG;rw[hal,if_neg (λh=>h.elim h16 λg=>g h21),Tu];simp only[i.stop hge];rfl)) w8
structure z8(p q:List Tm)(N:Nat):Prop where
 wp:∀t∈p,t.2.length=N
 wq:∀t∈q,t.2.length=N
 lp:p.length<=10000
 lq:q.length<=10000
 pp:∀t∈p,PW t.2
 pq:∀t∈q,PW t.2
 pm:∀s∈p,∀t∈q,PW (Jq s.2 t.2)
 zp:Z3 p<=20000000
 zq:Z3 q<=20000000
 zm:Z3 (JC p q)<=40000000
theorem jT{p q:VO}(hF:Fits F w)(hGl:JG F)(hP:Jl F p.1 p.2 (JQ p.2))(hQ:Jl F q.1 q.2 (JQ q.2))(hN:N<=1000)(h:z8 (JQ p.2) (JQ q.2) N):
  QU prog 153 [p.1.v,q.1.v] w F (λ(c:VO)=>c.1.v) (λc F=>Jl F c.1 c.2 (JX (JC (JQ p.2) (JQ q.2)))) :=
 pk hF hGl hP hQ ⟨λt ht=>h.wp _ (List.mem_map_of_mem ht),λt ht=>h.wq _ (List.mem_map_of_mem ht)⟩ hN ⟨by have:=h.lp;rwa [ZC]at this,by have:=h.lq;rwa [ZC]at this⟩
  ⟨λt ht=>h.pp _ (List.mem_map_of_mem ht),λt ht=>h.pq _ (List.mem_map_of_mem ht),λs hs t ht=>h.pm _ (List.mem_map_of_mem hs) _ (List.mem_map_of_mem ht)⟩ ⟨h.zp,h.zq⟩ h.zm
structure yA(p q:List Tm):Prop where
 pp:∀t∈p,PW t.2
 pq:∀t∈q,PW t.2
 lp:p.length<=400000000
 lq:q.length<=400000000
 zs:Z3 (p++q)<=40000000
theorem ja{p q:VO}(hF:Fits F w)(hGl:JG F)(hP:Jl F p.1 p.2 (JQ p.2))(hQ:Jl F q.1 q.2 (JQ q.2))(h:yA (JQ p.2) (JQ q.2)):
  QU prog 53 [p.1.v,q.1.v] w F (λ(c:VO)=>c.1.v) (λc F=>Jl F c.1 c.2 (JX (JQ p.2++JQ q.2))) :=
 jZ hF hGl hP hQ ⟨λt ht=>h.pp _ (List.mem_map_of_mem ht),λt ht=>h.pq _ (List.mem_map_of_mem ht)⟩ ⟨by have:=h.lp;rwa [ZC]at this,by have:=h.lq;rwa [ZC]at this⟩ h.zs
def Ck(ws:List VO):List (List Tm):=ws.map λe=>JQ e.2
def Z0(g:List Int->Rat):List Tm->Rat
 |[]=>0
 |t::l=>t.1*g t.2+Z0 g l
def gk(g:List Int->Rat)(p q:List Tm):Z0 g (p++q)=Z0 g p+Z0 g q:=by
 induction p with
 |nil=>simp[Z0,Rat.zero_add]
 |cons t p ih=>simp only[List.cons_append,Z0,ih,Rat.add_assoc]
theorem Ox(g:List Int->Rat)(p:List Tm)(t:Tm):Z0 g (Xr p t)=Z0 g p+t.1*g t.2:=by
 induction p with
 |nil =>
  unfold Xr;split
  ·rename_i h;rw[h];simp[Z0,Rat.zero_mul,Rat.add_zero]
  simp[Z0,Rat.zero_add,Rat.add_zero]
 |cons x p ih =>
  unfold Xr;split
  ·simp only[Z0,ih,Rat.add_assoc]
  split
  ·rename_i h;split
   ·rename_i h0;simp only[Z0];rw[h];have:x.1*g t.2+t.1*g t.2=0:=by rw[<-Rat.add_mul,h0,Rat.zero_mul]
    grind
   simp only[Z0];rw[h,Rat.add_mul];grind
  split
  ·rename_i h0;rw[h0,Rat.zero_mul,Rat.add_zero]
  simp only[Z0];grind
def SS(g:List Int->Rat):∀(l p:List Tm),Z0 g (l.foldl Xr p)=Z0 g p+Z0 g l
 |[],p=>by simp[Z0,Rat.add_zero]
 |t::l,p=>by rw[List.foldl_cons,SS g l,Ox,Z0,Rat.add_assoc]
def SR(g:List Int->Rat)(l:List Tm):Z0 g (JX l)=Z0 g l:=by
 rw[JX,SS,Z0,Rat.zero_add]
def Li(g:List Int->Rat){p q:List Tm}(h:Zv p q):Z0 g p=Z0 g q:=by
 rw[<-SR g p,AI h,SR]
def j5(g:List Int->Rat)(f:Tm->Tm)(h:List Int->Rat)(hf:∀t,(f t).1*g (f t).2=t.1*h t.2)(l:List Tm):Z0 g (l.map f)=Z0 h l:=by
 induction l with
 |nil=>rfl
 |cons t l ih=>rw[List.map_cons,Z0,Z0,ih,hf]
def xf(l:List Tm)(k:List Int):Jt l k=Z0 (λj=>if j=k then 1 else 0) l:=by
 induction l with
 |nil=>rfl
 |cons t l ih=>rw[Jt,Z0,ih];split<;>simp
theorem SO{v:Nat}{l:List Tm}{x:Tm}(h:x∈X5 v l):∃t∈l,0<Qd t.2 v/\x=(t.1*((Qd t.2 v:Int):Rat),t.2.set v (Qd t.2 v-1)):=by
 unfold X5 at h;obtain⟨t,ht,h⟩:=List.mem_flatMap.1 h;unfold D6 at h;split at h
 ·rename_i g;exact⟨t,ht,g,List.mem_singleton.1 h⟩
 cases h
theorem Lc:∀ {a b:List Int},a.length=b.length->(∀x∈a,0<=x)->(∀x∈b,0<=x)->∀x∈Jq a b,0<=x
 |[],[],_,_,_=>λx hx=>by cases hx
 |[],_::_,h,_,_=>by simp at h
 |_::_,[],h,_,_=>by simp at h
 |x::a,y::b,h,ha,hb=>λz hz=>by
  rcases List.mem_cons.1 (show z∈(x+y)::Jq a b from hz)with rfl | hz
  ·have:=ha x List.mem_cons_self;have:=hb y List.mem_cons_self;omega
  exact Lc (by simpa using h) (λx hx=>ha x (List.mem_cons_of_mem _ hx)) (λx hx=>hb x (List.mem_cons_of_mem _ hx)) z hz
def Wv(v:Nat)(t:Tm):Tm:=(t.1*((Qd t.2 v:Int):Rat),t.2.set v (Qd t.2 v-1))
def WC(v:Nat)(l:List Tm):List Tm:=l.map (Wv v)
def NN(l:List Tm):Prop:=∀t∈l,∀x∈t.2,0<=x
def NN.app{p q:List Tm}(h:NN p)(k:NN q):NN (p++q):=λt ht=>by
 rcases List.mem_append.1 ht with ht | ht
 ·exact h t ht
 exact k t ht
theorem NN.tail{t:Tm}{p:List Tm}(h:NN (t::p)):NN p:=λx hx=>h x (List.mem_cons_of_mem _ hx)
theorem FF(h:∀x∈l,0<=x)(v:Nat):0<=Qd l v:=by
 by_cases g:v<l.length
 ·rw[ZH g];exact h _ (List.getElem_mem g)
 rw[G7 O];exact Int.le_refl _
theorem xQ(v:Nat){p q:List Tm}(h:Zv p q):Zv (WC v p) (WC v q):=λk=>by
 have e:∀l,Jt (WC v l) k=Z0 (λj=>((Qd j v:Int):Rat)*(if j.set v (Qd j v-1)=k then 1 else 0)) l:=λl=>by
  rw[xf];exact j5 _ (Wv v) _ (λt=>by unfold Wv;dsimp only;rw[Rat.mul_assoc]) l
 rw[e,e,Li _ h]
theorem Py(v:Nat){l:List Tm}(h:NN l):Zv (X5 v l) (WC v l):=by
 induction l with
 |nil=>exact Zv.refl _
 |cons t l ih =>
  have ih:=ih h.tail;have e:X5 v (t::l)=D6 v t++X5 v l:=rfl;have e2:WC v (t::l)=[Wv v t]++WC v l:=rfl;rw[e,e2];refine Zv.append ?_ ih;have hd:=FF (h t List.mem_cons_self) v;unfold D6 Wv;split
  ·exact Zv.refl _
  rename_i g;have h0:Qd t.2 v=0:=O;rw[h0,show(((0:Int):Int):Rat)=0 from rfl,Rat.mul_zero];exact(eqv_zero _ []).symm
def xV(v:Nat){p q:List Tm}(hp:NN p)(hq:NN q)(h:Zv p q):Zv (X5 v p) (X5 v q) :=
 (Py v hp).trans ((xQ v h).trans (Py v hq).symm)
def xW(v:Nat)(p q:List Tm):X5 v (p++q)=X5 v p++X5 v q:=by unfold X5;rw[List.flatMap_append]
def xR(v:Nat)(p q:List Tm):WC v (p++q)=WC v p++WC v q:=by unfold WC;rw[List.map_append]
theorem FK:∀ {a b:List Int} {v:Nat},v<a.length->a.length=b.length->Qd (Jq a b) v=Qd a v+Qd b v/\∀z w,Jq (a.set v z) b=(Jq a b).set v (z+Qd b v)/\Jq a (b.set v w)=(Jq a b).set v (Qd a v+w)
 |[],_,_,h,_=>by simp at h
 |_::_,[],_,_,h=>by simp at h
 |x::a,y::b,0,_,_=>⟨rfl,λz w=>⟨rfl,rfl⟩⟩
 |x::a,y::b,v+1,h,e=>by
  obtain⟨h1,h2⟩:=FK (a:=a) (b:=b) (v:=v) (by simpa using h) (by simpa using e);have d:∀(z:Int) (l:List Int),Qd (z::l) (v+1)=Qd l v:=λz l=>by simp[Qd]
  refine⟨by show Qd ((x+y)::Jq a b) (v+1)=_;rw[d,d,d];exact h1,λz w=>?_⟩;rw[d,d];exact⟨by show(x+y)::Jq (a.set v z) b=((x+y)::Jq a b).set (v+1) _;rw[(h2 z w).1];rfl,by show(x+y)::Jq a (b.set v w)=((x+y)::Jq a b).set (v+1) _;rw[(h2 z w).2];rfl⟩
theorem xT{v:Nat}{s t:Tm}(hv:v<n)(hs:s.2.length=n)(ht:t.2.length=n)(k:List Int):
  Jt [Wv v (s.1*t.1,Jq s.2 t.2)] k=Jt [((Wv v s).1*t.1,Jq (Wv v s).2 t.2)] k+Jt [(s.1*(Wv v t).1,Jq s.2 (Wv v t).2)] k:=by
 obtain⟨h1,h2⟩:=FK (a:=s.2) (b:=t.2) (v:=v) O O;have h3:=h2 (Qd s.2 v-1) (Qd t.2 v-1);unfold Wv;dsimp only;rw[h1,h3.1,h3.2,show Qd s.2 v-1+Qd t.2 v=Qd s.2 v+Qd t.2 v-1 by omega,show Qd s.2 v+(Qd t.2 v-1)=Qd s.2 v+Qd t.2 v-1 by omega];simp only[Jt];rw[Rat.intCast_add];split<;>grind
theorem Ir{v:Nat}{s:Tm}{q:List Tm}(hv:v<n)(hs:s.2.length=n)(hq:Xw n q):Zv (WC v (Jf s q)) (Jf (Wv v s) q++Jf s (WC v q)):=by
 induction q with
 |nil=>exact Zv.refl _
 |cons t q ih =>
  intro k;have e1:=ih hq.tail k;have e2:=xT hv hs (hq t List.mem_cons_self) k;have a1:WC v (Jf s (t::q))=[Wv v (s.1*t.1,Jq s.2 t.2)]++WC v (Jf s q):=rfl;have a2:Jf (Wv v s) (t::q)=[((Wv v s).1*t.1,Jq (Wv v s).2 t.2)]++Jf (Wv v s) q:=rfl;have a3:Jf s (WC v (t::q))=[(s.1*(Wv v t).1,Jq s.2 (Wv v t).2)]++Jf s (WC v q):=rfl;rw[a1,a2,a3];simp only[Kt]at e1 ⊢;rw[e1,e2]
  grind
theorem CF{v:Nat}{p q:List Tm}(hv:v<n)(hp:Xw n p)(hq:Xw n q):Zv (WC v (JC p q)) (JC (WC v p) q++JC p (WC v q)):=by
 induction p with
 |nil=>exact Zv.refl _
 |cons s p ih =>
  intro k;have e1:=ih hp.tail k;have e2:=Ir hv (hp s List.mem_cons_self) hq k;have a1:WC v (s::p)=Wv v s::WC v p:=rfl;rw[a1,XK,XK,XK,xR];simp only[Kt]at e1 e2 ⊢;rw[e1,e2]
  grind
theorem Sh{v:Nat}{p:List Tm}(h:Xw n p):Xw n (WC v p):=λt ht=>by
 obtain⟨x,hx,rfl⟩:=List.mem_map.1 ht;show(x.2.set v _).length=n;rw[List.length_set];exact h x hx
theorem EX{v:Nat}{p:List Tm}(h:Xw n p):Xw n (X5 v p):=λt ht=>by
 obtain⟨x,hx,_,rfl⟩:=SO ht;show(x.2.set v _).length=n;rw[List.length_set];exact h x hx
theorem vB{v:Nat}{p:List Tm}(h:NN p):NN (X5 v p):=λt ht y hy=>by
 obtain⟨x,hx,h0,rfl⟩:=SO ht;rcases List.mem_or_eq_of_mem_set hy with hy | rfl
 ·exact h x hx y hy
 omega
def ON{s:Tm}{q:List Tm}(hs:s.2.length=n)(ns:∀x∈s.2,0<=x)(hq:Xw n q)(nq:NN q):NN (Jf s q):=λt ht=>by
 obtain⟨u,hu,rfl⟩:=List.mem_map.1 ht;exact Lc (by rw[hs,hq u hu]) ns (nq u hu)
theorem Ux{p q:List Tm}(hp:Xw n p)(np:NN p)(hq:Xw n q)(nq:NN q):NN (JC p q):=λt ht=>by
 obtain⟨s,hs,ht⟩:=List.mem_flatMap.1 ht;exact ON (hp s hs) (np s hs) hq nq t ht
def CG{v:Nat}{p q:List Tm}(hv:v<n)(hp:Xw n p)(hq:Xw n q)(np:NN p)(nq:NN q):Zv (X5 v (JC p q)) (JC (X5 v p) q++JC p (X5 v q)):=by
 refine(Py v (Ux hp np hq nq)).trans ((CF hv hp hq).trans ?_);refine Zv.append ?_ ?_
 ·exact Zv.prod (Sh hp) (EX hp) hq hq (Py v np).symm (Zv.refl _)
 exact Zv.prod hp hp (Sh hq) (EX hq) (Zv.refl _) (Py v nq).symm
structure WN(n:Nat)(p:List Tm):Prop where
 w:Xw n p
 nn:NN p
def WP(n:Nat):={p:List Tm // WN n p}
instance wpS(n:Nat):Setoid (WP n):=⟨λp q=>Zv p.1 q.1,⟨λ_=>Zv.refl _,λh=>Zv.symm h,λh k=>Zv.trans h k⟩⟩
def Pq(n:Nat):=Quotient (wpS n)
section
variable{n:Nat}
def Pq.mk(p:List Tm)(h:WN n p):Pq n:=Quotient.mk _ ⟨p,h⟩
def Pq.eq{p q:List Tm}{h:WN n p}{k:WN n q}(e:Zv p q):Pq.mk p h=Pq.mk q k:=Quotient.sound e
def Pq.eqv{p q:List Tm}{h:WN n p}{k:WN n q}(e:Pq.mk p h=Pq.mk q k):Zv p q:=Quotient.exact e
theorem Pq.rep(x:Pq n):∃p h,x=Pq.mk p h:=Quotient.inductionOn x λa=>⟨a.1,a.2,rfl⟩
theorem WN.app{p q:List Tm}(h:WN n p)(k:WN n q):WN n (p++q):=⟨h.w.append k.w,h.nn.app k.nn⟩
theorem WN.prod{p q:List Tm}(h:WN n p)(k:WN n q):WN n (JC p q):=⟨h.w.JC k.w,Ux h.w h.nn k.w k.nn⟩
theorem WN.zO{p:List Tm}(h:WN n p)(v:Nat):WN n (X5 v p):=⟨EX h.w,vB h.nn⟩
theorem WN.norm{p:List Tm}(h:WN n p):WN n (JX p):=⟨h.w.JX,λt ht=>by
 obtain⟨y,hy,e⟩:=Bz ht;rw[<-e];exact h.nn y hy⟩
def WN.nil:WN n []:=⟨λ_ h=>(by cases h),λ_ h=>(by cases h)⟩
theorem WN.cons{t:Tm}{p:List Tm}(h:WN n (t::p)):WN n [t]/\WN n p :=
 ⟨⟨λx hx=>by rw[List.mem_singleton.1 hx];exact h.w t List.mem_cons_self,λx hx=>by rw[List.mem_singleton.1 hx];exact h.nn t List.mem_cons_self⟩,⟨h.w.tail,h.nn.tail⟩⟩
instance :Add (Pq n):=⟨Quotient.lift₂ (λp q=>Pq.mk (p.1++q.1) (p.2.app q.2)) λ_ _ _ _ h k=>Pq.eq (Zv.append h k)⟩
instance :Mul (Pq n):=⟨Quotient.lift₂ (λp q=>Pq.mk (JC p.1 q.1) (p.2.prod q.2)) λa b c d h k=>Pq.eq (Zv.prod a.2.w c.2.w b.2.w d.2.w h k)⟩
def Pq.D(v:Nat):Pq n->Pq n:=Quotient.lift (λp=>Pq.mk (X5 v p.1) (p.2.zO v)) λa b h=>Pq.eq (xV v a.2.nn b.2.nn h)
def Pq.O:Pq n:=Pq.mk [] WN.nil
def jv{p q:List Tm}(h:WN n p)(k:WN n q):Pq.mk p h+Pq.mk q k=Pq.mk (p++q) (h.app k):=rfl
def ju{p q:List Tm}(h:WN n p)(k:WN n q):Pq.mk p h*Pq.mk q k=Pq.mk (JC p q) (h.prod k):=rfl
def DY{p:List Tm}(h:WN n p):Pq.mk (JX p) h.norm=Pq.mk p h:=Pq.eq (eqv_norm p)
theorem Pq.add_comm(x y:Pq n):x+y=y+x:=by
 obtain⟨p,h,rfl⟩:=Pq.rep x;obtain⟨q,k,rfl⟩:=Pq.rep y;exact Pq.eq (Zv.perm List.perm_append_comm)
theorem Pq.add_assoc(x y z:Pq n):x+y+z=x+(y+z):=by
 obtain⟨p,h,rfl⟩:=Pq.rep x;obtain⟨q,k,rfl⟩:=Pq.rep y;obtain⟨r,l,rfl⟩:=Pq.rep z;exact Pq.eq (by rw[List.append_assoc];exact Zv.refl _)
theorem Pq.mul_comm(x y:Pq n):x*y=y*x:=by
 obtain⟨p,h,rfl⟩:=Pq.rep x;obtain⟨q,k,rfl⟩:=Pq.rep y;exact Pq.eq (Zv.perm (Bf p q))
theorem Pq.mul_assoc(x y z:Pq n):x*y*z=x*(y*z):=by
 obtain⟨p,h,rfl⟩:=Pq.rep x;obtain⟨q,k,rfl⟩:=Pq.rep y;obtain⟨r,l,rfl⟩:=Pq.rep z;exact Pq.eq (by rw[Uy];exact Zv.refl _)
theorem Pq.add_mul(x y z:Pq n):(x+y)*z=x*z+y*z:=by
 obtain⟨p,h,rfl⟩:=Pq.rep x;obtain⟨q,k,rfl⟩:=Pq.rep y;obtain⟨r,l,rfl⟩:=Pq.rep z;exact Pq.eq (by rw[VP];exact Zv.refl _)
def Pq.mul_add(x y z:Pq n):x*(y+z)=x*y+x*z:=by
 rw[Pq.mul_comm,Pq.add_mul,Pq.mul_comm y,Pq.mul_comm z]
instance :Std.Associative (α:=Pq n) (·+·):=⟨Pq.add_assoc⟩
instance :Std.Commutative (α:=Pq n) (·+·):=⟨Pq.add_comm⟩
instance :Std.Associative (α:=Pq n) (·*·):=⟨Pq.mul_assoc⟩
instance :Std.Commutative (α:=Pq n) (·*·):=⟨Pq.mul_comm⟩
theorem Pq.dz(v:Nat)(x y:Pq n):Pq.D v (x+y)=Pq.D v x+Pq.D v y:=by
 obtain⟨p,h,rfl⟩:=Pq.rep x;obtain⟨q,k,rfl⟩:=Pq.rep y;exact Pq.eq (by rw[xW];exact Zv.refl _)
theorem Pq.zM{v:Nat}(hv:v<n)(x y:Pq n):Pq.D v (x*y)=Pq.D v x*y+x*Pq.D v y:=by
 obtain⟨p,h,rfl⟩:=Pq.rep x;obtain⟨q,k,rfl⟩:=Pq.rep y;exact Pq.eq (CG hv h.w k.w h.nn k.nn)
end
structure Open(F:Fence):Prop where
 fn:∀f,F.fn f
 depth:F.depth=none
 calls:∀ {n:Nat} {P:Program} {f:FuncId} {args:Array Value} {w:World} {R:Ending->World->Prop},Calls P f args w R->CallsIn F n P f args w R
 rows:∀ {n:Nat} {P:Program} {row:String} {args:Array Value} {w:World} {R:Value->World->Prop},Rows P row args w R->RowsIn F n P row args w R
theorem EK:Open Fence.wide where
 fn:=λ_=>trivial
 depth:=rfl
 calls:=λh=>callsIn_wide.2 h
 rows:=λh c cs _=>by
  obtain⟨v,w',h1,h2⟩:=h c cs;exact⟨v,w',h1,stepsIn_wide.2 h2⟩
def X6(l:Nat):Open (Fence.wide.inRound l) where
 fn:=λ_=>trivial
 depth:=rfl
 calls:=λh=>(callsIn_wide.2 h:CallsIn Fence.wide _ _ _ _ _ _)
 rows:=λh=>EK.rows h
section
variable{F:Fence}{P:Program}
theorem Open.op(hF:Open F){o:Oper}(hnd:∀c,o.op≠.defer c){a:Act}{w:World}{K K':Act->World->Prop}{Q1 Q:Exit->Act->World->Prop}(hp:∀c a w,Q1 (.panic c) a w->Q (.panic c) a w)(hl:∀a w,Q1 .outgrown a w->Q .outgrown a w)(hK:∀a w,K a w->K' a w)(h:o.wp P a w K Q1):o.wpIn F 0 P a w K' Q:=by
 unfold Oper.wp at h;unfold Oper.wpIn;refine⟨λf _=>hF.fn f,?_⟩;rw[Oper.semAt_plain F a.eval o hnd];generalize (execOp a.eval o).run P w=r at *
 have hd:F.depth.isSome=true->1<=0:=λe=>by rw[hF.depth]at e;cases e
 cases r with
 |ok x w' =>
  cases x<;>simp only[Oper.upon,Oper.uponIn]at h ⊢ <;>
   first
    |exact hK _ _ h
    |exact⟨hd,hF.calls (h.mono λe w'' he=>by
      cases e with
      |returned u=>exact hK _ _ he
      |panicked c=>exact hp _ _ _ he
      |outgrown=>obtain⟨a,w,h⟩:=he;exact⟨a,w,hl _ _ h⟩)⟩
    |exact⟨hd,hF.rows (h.mono λ_ _ he=>hK _ _ he)⟩
 |halt x w'=>cases x<;>simp only[Oper.upon,Oper.uponIn]at h ⊢<;>exact hp _ _ _ h
def GG(l:List Oper):Bool:=l.all λo=>match o.op with | .defer _=>false | _=>true
def PL{o:Oper}(h:(match o.op with | .defer _=>false | _=>true)=true):∀c,o.op≠.defer c:=λc e=>by rw[e]at h;cases h
theorem Open.list(hF:Open F){ops:Array Oper}{Q:Exit->Act->World->Prop}(hQ:¬LetsOut Q):∀(l:List Oper) (a:Act) (w:World),GG l=true->wpList P ops Q l a w->wpListIn F 0 P ops Q l a w
 |[],_,_,_,h=>h
 |o::rest,a,w,hd,h=>by
  simp only[GG,List.all_cons,Bool.and_eq_true]at hd;unfold wpList at h;unfold wpListIn;split
  ·rename_i hw;rw[if_pos hw]at h;rcases h with h | ⟨_,h⟩
   ·exact hF.op (PL hd.1) (λ_ _ _ h=>h) (λ_ _ h=>h) (λa w h=>hF.list hQ rest a w hd.2 h) h
   exact absurd h hQ
  rename_i hw;rw[if_neg hw]at h;exact⟨λf _=>hF.fn f,hF.list hQ rest _ _ hd.2 h⟩
end
section
variable[Dr][df:Df]{F:Fence}{P:Program}{Q:Exit->Act->World->Prop}{N:Nat}{m:Sl}{E:Env}
def JI(F:Fence)(P:Program)(c:Code)(Q:Exit->Act->World->Prop)(N:Nat)(m:Sl)(E:Env):Prop:=∀a w,JY N m a->St E w->c.wpIn F 0 P Q a w
theorem Hc{x y:Code}(h:JI F P x (Exit.then (y.wpIn F 0 P Q) Q) N m E):JI F P (.seq x y) Q N m E:=λa w ha hw=>wpIn_seq (h a w ha hw)
theorem FQ{id:Nat}{c:Code}(h:JI F P c (Exit.inBlock id Q) N m E):JI F P (.block id c) Q N m E:=λa w ha hw=>wpIn_block (h a w ha hw)
theorem vd(h:Fin Q .normal N m E):JI F P .skip Q N m E:=λa w ha hw=>wpIn_skip (h a w ha hw)
theorem OB{c:Operand}{x y:Code}{t:Bool}(hc:ev m c=some (.bool t))(ht:t=true->JI F P x Q N m E)(hf:t=false->JI F P y Q N m E):JI F P (.cond c x y) Q N m E :=
 λa w ha hw=>wpIn_cond_split (ha.ev hc) (λh=>ht h a w ha hw) λh=>hf h a w ha hw
theorem Zd(hF:Open F){id:Nat}{l:List Oper}(hQ:¬LetsOut Q)(hd:GG l=true)(h:JS P l.toArray Q l N m E):JI F P (.region id l.toArray false) Q N m E :=
 λa w ha hw=>wpIn_region_lit (hF.list hQ l a w hd (h a w ha hw))
theorem WX{y:Code}(h:JI F P y Q N m E):Fin (Exit.then (y.wpIn F 0 P Q) Q) .normal N m E:=h
section
variable{w0:World}{F0:Gs}{bs:List (Nat×Obj)}{G:Gs->Prop}{l:Nat}{r:Loop}{f:Obj->List (Nat×Obj)}
theorem St.put(h:St ⟨w0,F0,bs,G⟩ w){b:Nat}{o:Obj}(o':Obj)(ho:Own bs b o f)(hn:∀c fr,o'≠.cells c 289 fr):St ⟨w0,F0,f o',G⟩ (w.putObj b o'):=by
 obtain⟨pre,post,e1,e2⟩:=ho.split;subst e1;rw[e2];exact h.write pre ⟨rfl,rfl,rfl,rfl,rfl⟩ hn
theorem OE{body:Code}{Qr:Exit->Act->World->Prop}(ho:Own bs l (.loop r) f)(hr:r.state = .ready)(k:JI F P body Qr N m ⟨w0,F0,f (.loop { r with state:=.busy }),G⟩):
  Fin (Exit.then (λa₁ w₁=>∃w₂,(Instr.beginRound l).run P w₁ = .ok () w₂/\body.wpIn F 0 P Qr a₁ w₂) λ_ _ _=>False) .normal N m ⟨w0,F0,bs,G⟩ :=
 λa w ha hw=>⟨_,run_beginRound (hw.own ho) hr,k a _ ha (hw.put _ ho λc fr e=>by cases e)⟩
theorem OD(ho:Own bs l (.loop r) f)(k:∀w,St ⟨w0,F0,f (.loop { r with state:=.ready,pending:=none }),G⟩ w->R (.returned (.bool true)) w):Fin (roundPost P l R) .normal N m ⟨w0,F0,bs,G⟩ :=
 λa w ha hw=>⟨_,_,run_endRound none (hw.own ho),k _ (hw.put _ ho λc fr e=>by cases e)⟩
end
end
section
variable[Dr]{P:Program}{w0:World}{F0:Gs}{bs:List (Nat×Obj)}{G:Gs->Prop}{l:Nat}{r:Loop}{f:Obj->List (Nat×Obj)}
def TG(r:Loop)(vs:Array Value):Act:={ tmps:=(r.params.zip vs).foldl (λtmps (t,a)=>tmps.setIfInBounds t a) r.tmps,defers:=[] }
theorem Nk{W:World}{vs:Array Value}{m:Sl}(hst:St ⟨w0,F0,bs,G⟩ W)(ho:Own bs l (.loop r) f)(hsz:vs.size=r.params.size)(hsl:JY N m (TG r vs))
  (h:JI (Fence.wide.inRound l) P r.assign (Exit.then (λa₁ w₁=>∃w₂,(Instr.beginRound l).run P w₁ = .ok () w₂/\r.body.wpIn (Fence.wide.inRound l) 0 P (roundPost P l R) a₁ w₂) λ_ _ _=>False) N m ⟨w0,F0,bs,G⟩) :
  YieldAt Fence.wide 0 P l vs W R :=
 ⟨_,_,_,_,run_yield (hst.own ho) hsz,roundIn_of_wpIn trivial (h _ W hsl hst)⟩
end
section
variable[Dr][df:Df]{P:Program}{Q:Exit->Act->World->Prop}{N:Nat}{m:Sl}{E E0:Env}{ops:Array Oper}{l:List Oper}{w0:World}{F0:Gs}{bs:List (Nat×Obj)}{G:Gs->Prop}
def JSI(P:Program)(ops:Array Oper)(Q:Exit->Act->World->Prop)(l:List Oper)(N:Nat)(m:Sl)(E:Env):Prop:=∀a w,JY N m a->St E w->wpListIn Fence.wide 0 P ops Q l a w
theorem ur(hQ:¬LetsOut Q)(hd:GG l=true)(h:JS P ops Q l N m E):JSI P ops Q l N m E:=λa w ha hw=>EK.list hQ l a w hd (h a w ha hw)
theorem Ci{d r:Nat}{args:Array Operand}{tys:Array TypeId}{vs:List Value}{ty:TypeId}{pos:String}{aft:Array Edge}{E':ι->Env}(hx:ev m x=some (.func (.yield r) #[] #[]))(hv:MW m args.toList=some vs)
  (hy:∀w,St E w->YieldAt Fence.wide 0 P r vs.toArray w λe w'=>e = .returned (.bool true)/\∃s,St (E' s) w')
  (k:∀s,JSI P ops Q l N ((d,.bool true)::m) (E' s)) (hd:J6 N (some d)=true:=by rfl):JSI P ops Q (⟨some d,.call ⟨.value x,args,tys⟩,ty,pos,aft,none⟩::l) N m E:=by
 intro a w ha hw;refine wpListIn_plain rfl λK hK=>?_;obtain⟨fn,tmps,assign,body,hr,hR⟩:=hy w hw;refine⟨λf _=>trivial,?_⟩;have e2:args.map a.eval=vs.toArray:=by rw[<-ha.MW hv];apply Array.ext';simp
 have hrun:(execOp a.eval ⟨some d,.call ⟨.value x,args,tys⟩,ty,pos,aft,none⟩).run P w = .ok (.round r fn tmps assign body) w:=by
  simp only[execOp,resolve,ha.ev hx,Deferred.ofValue,Sem.run_bind,Sem.run_pure,Result.andThen_ok,invoke,e2];simpa using hr
 rw[Oper.semAt_plain Fence.wide a.eval _ (λc e=>by cases e),hrun];refine⟨λe=>(by cases e),hR.mono ?_⟩;rintro e w' ⟨rfl,s,hs⟩;exact hK _ _ (k s _ w' (ha.put hd (.bool true)) hs)
theorem zJ{ops':Array Oper}{l':List Oper}(h:JSI P ops' Q l' N m E):JD P ops (XO λa w=>wpListIn Fence.wide 0 P ops' Q l' a w) E0 [] N m E:=λ_=>h
section
variable{md:Region.Mode}
theorem Fm{l:List Oper}{K0 K:Act->World->Prop}{a:Act}(hi:i<n)(hgd:Dh l.toArray n=true)(hnd:GG l=true)
  (h:wpOp P (l.take n).toArray (XO K0) i K a w):wpOpIn Fence.wide 0 P l.toArray Q i K a w:=by
 unfold wpOp at h;unfold wpOpIn;rw[G4 hi]at h;cases ho:l.toArray[i]? with
 |none=>simp only[ho]at h ⊢;exact h
 |some o =>
  simp only[ho]at h ⊢;have hw:Region.wanted o (yielded (l.take n).toArray a.tmps)=Region.wanted o (yielded l.toArray a.tmps):=by
   have h1:=List.all_eq_true.1 hgd i (List.mem_range.2 hi);rw[ho]at h1;unfold Region.wanted;cases hg:o.guard with
   |none=>rfl
   |some gw =>
    obtain⟨g,want⟩:=gw;simp only[hg]at h1;simp only[B8 (l:=l) (by simpa using h1)]
  rw[hw]at h;have hmem:o∈l:=by
   have:l[i]?=some o:=by simpa using ho
   exact List.mem_of_getElem? this
  split
  ·rename_i hw2;rw[if_pos hw2]at h;rcases h with h | ⟨_,h2⟩
   ·exact EK.op (PL (List.all_eq_true.1 hnd o hmem)) (λ_ _ _ h=>h.elim) (λ_ _ h=>h.elim) (λ_ _ h=>h) h
   obtain⟨_,_,h2⟩:=h2;exact h2.elim
  rename_i hw2;rw[if_neg hw2]at h;exact⟨λ_ _=>trivial,h⟩
theorem DA{ops:Array Oper}:∀(f:Nat) (listed:Array Bool) (a:Act) (w:World),wpAnyIn Fence.wide 0 P md ops Q f listed a w->wpAnyIn Fence.wide 0 P md ops Q (f+1) listed a w
 |0,listed,a,w,h=>⟨λ_=>h.2,λi hi=>(by rw[h.1]at hi;cases hi)⟩
 |f+1,listed,a,w,h=>⟨h.1,λi hi=>wpOpIn_mono (λa' w' h'=>DA f _ a' w' h') (h.2 i hi)⟩
theorem RV{ops:Array Oper}(f:Nat)(listed:Array Bool)(a:Act)(w:World)(g:Nat)(h:wpAnyIn Fence.wide 0 P md ops Q g listed a w):wpAnyIn Fence.wide 0 P md ops Q (f+g) listed a w:=by
 induction f with
 |zero=>rw[Nat.zero_add];exact h
 |succ f ih=>rw[show f+1+g=(f+g)+1 by omega];exact DA _ _ _ _ ih
theorem Gp:∀(l:List Oper) (k:Nat) (listed:Array Bool) (a:Act) (w:World),(∀j,l[j]?=ops[k+j]?) ->
  Region.seqB md ops l.length k listed=true->wpListIn Fence.wide 0 P ops Q l a w->wpAnyIn Fence.wide 0 P md ops Q l.length listed a w
 |[],_,_,_,_,_,hB,h=>⟨by simpa[Region.seqB]using hB,h⟩
 |o::l,k,listed,a,w,hl,hB,h=>by
  have h0:ops[k]?=some o:=by simpa using(hl 0).symm
  simp only[List.length_cons,Region.seqB,Bool.and_eq_true,decide_eq_true_eq]at hB;refine⟨λh1=>(by rw[hB.1]at h1;cases h1),λi hi=>?_⟩;rw[hB.1]at hi;have hik:i=k:=by simpa using hi
  subst hik;have hw:wpOpIn Fence.wide 0 P ops Q i (wpListIn Fence.wide 0 P ops Q l) a w:=by unfold wpOpIn;simp only[h0];exact h
  exact wpOpIn_mono (λa' w' h'=>Gp l (i+1) _ a' w' (λj=>by have:=hl (j+1);simpa[Nat.add_assoc,Nat.add_comm 1 j]using this) hB.2 h') hw
theorem RU{l:List Oper}(hn:n<l.length)(hs:Region.sinkB md l.toArray n=true)(hc:Region.chainB md l.toArray n=true)(ho:Kq md l.toArray n=true)
  (hgd:Dh l.toArray n=true) (hseq:Region.seqB md l.toArray (l.length-n) n (Z8 n l.length)=true) (hnd:GG l=true) :
  ∀(f:Nat) (lh la:Array Bool) (a:Act) (w:World),HeadInv md l.toArray n la->lh.size=n->(∀i,i<n->la.getD i true=lh.getD i true) ->
   wpAny P md (l.take n).toArray (XO λa w=>wpListIn Fence.wide 0 P l.toArray Q (l.drop n) a w) f lh a w->wpAnyIn Fence.wide 0 P md l.toArray Q (f+(l.length-n)) la a w:=by
 have fin:∀(f:Nat) (lh la:Array Bool) (a:Act) (w:World),HeadInv md l.toArray n la->lh.size=n->(∀i,i<n->la.getD i true=lh.getD i true) ->
   Region.ready md (l.take n).toArray lh=[]->wpListIn Fence.wide 0 P l.toArray Q (l.drop n) a w->wpAnyIn Fence.wide 0 P md l.toArray Q (f+(l.length-n)) la a w:=by
  intro f lh la a w inv hsz hrel hr h;have hall:∀i,i<n->lh.getD i true=true:=by
   intro i hi;cases hv:lh.getD i true with
   |true=>rfl
   |false=>exact absurd hr (GA hn hs hc ho inv hsz hrel hi hv).2
  have hla:la=Z8 n l.length:=by
   refine E7 (by simpa using inv.size) (λi hi hi2=>?_) λi hi hi2=>?_
   ·have h1:=(hrel i hi).trans (hall i hi);have h2:i<la.size:=by rw[inv.size];simpa using hi2
    simp[h2]at h1 ⊢;exact h1
   exact getD_both (inv.tail i hi (by simpa using hi2))
  subst hla;refine RV f _ _ _ _ ?_;have:=Gp (P:=P) (Q:=Q) (md:=md) (ops:=l.toArray) (l.drop n) n (Z8 n l.length) a w (λj=>by simp[List.getElem?_drop]) (by simpa using hseq) h;simpa using this
 intro f
 induction f with
 |zero=>intro lh la a w inv hsz hrel h;exact fin 0 lh la a w inv hsz hrel h.1 h.2
 |succ f ih =>
  intro lh la a w inv hsz hrel h;by_cases hr:Region.ready md (l.take n).toArray lh=[]
  ·exact fin (f+1) lh la a w inv hsz hrel hr (h.1 hr)
  obtain⟨k,hk⟩:=List.exists_mem_of_ne_nil _ hr;have hk2:=(mem_ready.1 hk);have hkn:k<n:=by
   obtain⟨_,o,ho',_⟩:=hk2;have:=(Array.getElem?_eq_some_iff.1 ho').1;simp at this;omega
  have hiff:=(GA hn hs hc ho inv hsz hrel hkn hk2.1).1;rw[show f+1+(l.length-n)=(f+(l.length-n))+1 by omega];refine⟨λh0=>absurd ((hiff k).2 hk) (by rw[h0];simp),λi hi=>?_⟩;have hi':=(hiff i).1 hi;have hin:i<n:=by
   obtain⟨_,o,ho',_⟩:=mem_ready.1 hi';have:=(Array.getElem?_eq_some_iff.1 ho').1;simp at this;omega
  have h2:=Fm (Q:=Q) hin hgd hnd (h.2 i hi');refine wpOpIn_mono (λa' w' h3=>ih _ _ a' w' (inv.set hi hin) (by simpa using hsz) (λj hj=>?_) h3) h2;by_cases hij:i=j
  ·subst hij;have h1:i<la.size:=by rw[inv.size];simp;omega
   have h2:i<lh.size:=O;simp[h1,h2]
  rw[getD_set_ne true hij,getD_set_ne true hij];exact hrel j hj
theorem T9{id:Nat}{l:List Oper}{bs0:List (Nat×Obj)}(n:Nat)(hb0:bs0.Sublist bs)(hm:P.follows .mixedOrders=true)(hB:Ba l n=true)(hB2:lexB .any (l.take n)=true)(hnd:GG l=true)
  (h:JD P (l.take n).toArray (XO λa w=>wpListIn Fence.wide 0 P l.toArray Q (l.drop n) a w) ⟨w0,F0,bs0,G⟩ (l.take n) N m ⟨w0,F0,bs,G⟩):J P (.region id l.toArray true) Q N m ⟨w0,F0,bs,G⟩:=λa w ha hw=>by
 have h1:=h (λ_ h=>h.imp hb0 λ_ h=>h) a _ ha hw.drew;have h2:=WZ (P:=P) (S:=St ⟨w0,F0,bs0,G⟩) hB2 (λc a w h=>h) (hw.drew.imp hb0 λ_ h=>h) h1;simp only[Ba,Bool.and_eq_true,decide_eq_true_eq]at hB;obtain⟨⟨⟨⟨⟨hn,hs⟩,hc⟩,ho⟩,hg⟩,hseq⟩:=hB;refine(wpIn_wide (n:=0)).1 (wpIn_region_any hm ?_);have kX:HeadInv .any l.toArray n (Array.replicate l.toArray.size false) :=
  ⟨wz,λj oj _ hl=>(by rw[getD_replicate_false]at hl;cases hl),λt _ ht=>getD_in (by simpa using ht) (getD_replicate_false _ _)⟩
 have e:(l.take n).length=n:=w6;rw[e]at h2;have:=RU (P:=P) (md:=.any) (Q:=Q) hn hs hc ho hg hseq hnd n (Array.replicate n false) (Array.replicate l.toArray.size false) a { w with drawn:=w.drawn+1 } kX wz
  (λi hi=>by
   have h1:i<l.length:=O;simp[hi,h1]) h2
 rw[show n+(l.length-n)=l.toArray.size by simp;omega]at this;exact this
end
end
section
variable[Dr]{P:Program}{Q:Exit->Act->World->Prop}{N:Nat}{m:Sl}{w0:World}{F0:Gs}{bs:List (Nat×Obj)}{G:Gs->Prop}
@[reducible] def Bl (D:Nat):Df:=⟨[{ target:=.collected D,args:=#[] }]⟩
structure zD(N:Nat)(m:Sl)(ps:Array Tmp)(assign body:Code)(r:Loop):Prop where
 state:r.state = .ready
 QGK:r.pending=none
 params:r.params=ps
 assign:r.assign=assign
 body:r.body=body
 QA4:JY (df:=WM) N m { tmps:=r.tmps,defers:=[] }
theorem FN{g:Operand}{ps:Array Tmp}{assign body:Code}{gf:Nat}{lb:Array Value}(B:ι->List (Nat×Obj))(R:ι->Gs->Prop)(Dn:ι->Prop)(hg:ev m g=some (.func (.func gf) #[] lb))(he:Enters P gf)
  (hcall:∀(L D:Nat) (r:Loop) (w:World),zD N m ps assign body r->St ⟨w0,F0,(L,.loop r)::(D,.deferred (some []))::bs,G⟩ w ->
   Calls P gf (#[.func (.yield L) #[] #[]]++lb) w λe w'=>(∃v,e = .returned v)/\∃s,Dn s/\St ⟨w0,F0,(L,.loop r)::(D,.deferred (some []))::B s,λF=>G F/\R s F⟩ w')
  (k:∀D s,Dn s->Fin (df:=Bl D) Q .normal N m ⟨w0,F0,(D,.deferred (some []))::B s,λF=>G F/\R s F⟩):J (df:=WM) P (.rangeFunc g ps assign body) Q N m ⟨w0,F0,bs,G⟩:=λa w ha hw=>by
 refine(wpIn_wide (n:=0)).1 (wpIn_rangeFunc λfn _=>?_);obtain⟨r,hr⟩:∃r:Loop,r={ state:=.ready,pending:=none,fn,tmps:=a.tmps,params:=ps,assign,body,defers:=w.heap.size }:=⟨_,rfl⟩;have hs1:St ⟨w0,F0,(w.heap.size+1,.loop r)::(w.heap.size,.deferred (some []))::bs,G⟩ ((w.alloc (.deferred (some []))).alloc (.loop r)):=by
  have h1:=hw.alloc (.deferred (some [])) (λc fr e=>by cases e);have h2:=h1.alloc (.loop r) λc fr e=>by cases e
  rwa [World.size_alloc]at h2
 have hd:a.defers=[]:=ha.df;refine⟨w.heap.size+1,[{ target:=.collected w.heap.size,args:=#[] }],(w.alloc (.deferred (some []))).alloc (.loop r),{ target:=.fn (.func gf) lb,args:=#[.func (.yield (w.heap.size+1)) #[] #[]] },(w.alloc (.deferred (some []))).alloc (.loop r),gf,
  #[.func (.yield (w.heap.size+1)) #[] #[]]++lb,(w.alloc (.deferred (some []))).alloc (.loop r),?_,?_,λ_ _=>trivial,?_,λe=>(by cases e),?_⟩
 ·rw[hr];exact run_enterLoop_outer _ _ _ _ _
 ·simp only[resolve,ha.ev hg];simp[go_sem]
 ·simpa[invoke,go_sem]using he _ _
 refine(callsIn_wide.2 (hcall _ _ r _ ⟨by rw[hr],by rw[hr],by rw[hr],by rw[hr],by rw[hr],⟨by rw[hr];exact ha.size,rfl,by rw[hr];exact ha.get⟩⟩ hs1)).mono ?_;rintro e w' ⟨⟨v,rfl⟩,s,hdn,hs⟩;have hl:w'.heap[w.heap.size+1]?=some (.loop r):=hs.own .here;refine⟨none,w'.putObj (w.heap.size+1) (.loop { r with state:=.exhausted }),?_,k w.heap.size s hdn _ _ (JY.mk (df:=Bl w.heap.size) (JY.size (df:=WM) (a:=a) ha) ?_ λt v h=>JY.get (df:=WM) (a:=a) ha t v h) ?_⟩
 ·rw[run_endLoop hl (by rw[hr];intro e;cases e)];rw[hr]
 ·show _++a.defers=_;rw[hd];rfl
 exact(hs.put (.loop { r with state:=.exhausted }) .here λc fr e=>by cases e).imp (.cons _ QGJ) λ_ h=>h
theorem QCO{c:Code}(h:∀G':Gs->Prop,(∀F,G' F->G F)->J (df:=WM) P c Q N m ⟨w0,F0,bs,G'⟩):J (df:=WM) P c Q N m ⟨w0,F0,bs,G⟩:=h G λ_ h=>h
theorem QU.uP{f:FuncId}{c:Code}{args:List Value}{γ:Type}{val:γ->Value}{fact:γ->Gs->Prop}{G:Gs->Prop}(hf:P.funcs[f]?=some fn)(hb:fn.body=some c)(hn:(fn.name == "runtime.NumGoroutine")=false)(hN:fn.ntmps=N)(hl:Nat.ble args.length N=true)
  (hw:Fits F w) (hg:∀F',Gs.le F F'->G F') (h:J (df:=WM) P c (bodyPostM Fence.wide 0 P fn (RP w F val fact)) N (P8 0 args) ⟨w,F,[],G⟩):QU P f args w F val fact:=by
 refine⟨enters_of hf hn (by rw[hb];rfl),callsIn_wide.1 (callsIn_of_wp_marks hf hb trivial (wpIn_wide.2 (h _ w ⟨?_,rfl,λt v ht=>?_⟩ (St.start hw hg))))⟩
 ·have:=Nat.le_of_ble_eq_true hl;simp[hN];omega
 obtain⟨_,h2⟩:=GH args 0 t v ht;have hlt:t<args.length:=by rcases Nat.lt_or_ge t args.length with g | g;exact g;rw[Nat.sub_zero,List.getElem?_eq_none g]at h2;cases h2
 simp only[Nat.sub_zero]at h2;rw[Array.getElem?_append,if_pos (by simpa using hlt)];simpa using h2
theorem zK{E:Env}(h:Fin (df:=WM) (bodyPost P fn R) .ret N m E):Fin (df:=WM) (bodyPostM Fence.wide 0 P fn R) .ret N m E:=λa w ha hw=>by
 obtain⟨h1,v,h2,h3⟩:=h a w ha hw;show LeavesInM Fence.wide 0 P fn a.tmps R a.defers .returning w;rw[h1];exact⟨v,h2,h3⟩
theorem uu{D:Nat}{f:Obj->List (Nat×Obj)}(ho:Own bs D (.deferred (some [])) f)(h:Fin (df:=WM) (bodyPost P fn R) .ret N m ⟨w0,F0,f (.deferred none),G⟩):Fin (df:=Bl D) (bodyPostM Fence.wide 0 P fn R) .ret N m ⟨w0,F0,bs,G⟩:=λa w ha hw=>by
 have h1:=h { tmps:=a.tmps,defers:=[] } _ (JY.mk (df:=WM) (JY.size (df:=Bl D) (a:=a) ha) rfl λt v h=>JY.get (df:=Bl D) (a:=a) ha t v h) (hw.put (.deferred none) ho λc fr e=>by cases e);obtain⟨_,v,h2,h3⟩:=h1;show LeavesInM Fence.wide 0 P fn a.tmps R a.defers .returning w;rw[show a.defers=[{ target:=.collected D,args:=#[] }]from JY.df (df:=Bl D) ha];exact⟨λe=>(by cases e),.inl ⟨D,_,rfl,run_takeDeferred (hw.own ho),v,h2,h3⟩⟩
end
abbrev vg(n:Nat):={ l:List Int // l.length=n }
def Vy{n:Nat}(x:vg n):Value:=.agg (x.1.map Q7).toArray
theorem vP(ha:a.length=n)(hb:b.length=n):((List.range n).all λj=>Qd a j==Qd b j)=decide (a=b):=by
 rw[Bool.eq_iff_iff,decide_eq_true_iff,List.all_eq_true];constructor
 ·intro h;apply List.ext_getElem O;intro i h1 h2;have:=h i (List.mem_range.2 O);simpa[Qd,h1,h2]using this
 intro h j _;rw[h];simp
section
variable{P:Program}{e:TypeId}
def PH(he:P.underlying e=some (.int .i64))(w:World){xs:List Int}{j:Nat}(h:j<xs.length):(part e (xs.map Q7).toArray j).run P w = .ok (Q7 (Qd xs j)) w:=by
 have e1:(xs.map Q7).toArray[j]?=some (Q7 (Qd xs j)):=by simp[h,Qd]
 simp[part,isAgg,run_underlying he,e1]
def eqItems_ints(he:P.underlying e=some (.int .i64))(w:World)(d:Nat){xs ys:List Int}:∀(is:List Nat),(∀j∈is,j<xs.length/\j<ys.length) ->
  (Op.eqItems (d+1) e 1 (xs.map Q7).toArray (ys.map Q7).toArray is).run P w = .ok (is.all λj=>Qd xs j==Qd ys j) w
 |[],_=>by simp[Op.eqItems]
 |j::is,h=>by
  have h1:=h j wz;simp only[Op.eqItems,Sem.run_bind,Nat.mul_one,PH he w h1.1,PH he w h1.2,Result.andThen_ok];rw[show Q7 (Qd xs j) = .int .i64 (Qd xs j)from rfl,show Q7 (Qd ys j) = .int .i64 (Qd ys j)from rfl,run_equalIn_int w d e .i64 .i64 _ _ he];simp only[Result.andThen_ok,List.all_cons];cases Qd xs j==Qd ys j
  ·simp
  simpa using eqItems_ints he w d is λj hj=>h j (by simp[hj])
theorem equal_arr(hu:P.underlying kt=some (.array n e))(he:P.underlying e=some (.int .i64))(hc:P.cellsOf e=1)(w:World)(a b:vg n):(Op.equal kt (Vy a) (Vy b)).run P w = .ok (decide (a=b)) w:=by
 obtain⟨i,hi⟩:=info_of_underlying he;unfold Vy;show(Op.equalIn (9999+1) kt _ _).run P w=_;rw[run_equalIn_array w 9999 _ _ hu hi,hc,eqItems_ints he w 9998 _ (λj hj=>⟨by rw[a.2];exact List.mem_range.1 hj,by rw[b.2];exact List.mem_range.1 hj⟩),vP a.2 b.2];congr 1;simp[Subtype.ext_iff]
theorem MB(hu:P.underlying kt=some (.array n e))(he:P.underlying e=some (.int .i64))(hc:P.cellsOf e=1)(w:World)(k:vg n):∀(l:List (vg n×Value)) (m i:Nat),
  (Instr.findAsking kt (Vy k) (XS Vy l m) i).run P w = .ok (YA l k i) w
 |[],_,_=>by simp[XS,Instr.findAsking,YA]
 |x::l,m,i=>by
  simp only[XS,Instr.findAsking,Sem.run_bind,equal_arr hu he hc,Result.andThen_ok,YA];by_cases h:k=x.1
  ·simp[h]
  simp[h,MB hu he hc w k l]
theorem CM(hu:P.underlying kt=some (.array n e))(he:P.underlying e=some (.int .i64))(hc:P.cellsOf e=1)(em:Bool)(w:World)(k:vg n):(Instr.checkKey em 10000 kt (Vy k)).run P w = .ok () w:=by
 obtain⟨i,hi⟩:=info_of_underlying he;rw[show 10000=9999+1 from rfl,Instr.checkKey];unfold Vy;simp only[Sem.run_bind,run_underlying hu,Result.andThen_ok];simp only[Std.Legacy.Range.forIn_eq_forIn_range',Std.Legacy.Range.size,Nat.sub_zero,Nat.add_one_sub_one,Nat.div_one];have hj:∀j∈List.range' 0 n,j<k.1.length:=λj hj=>by rw[k.2];simpa using hj
 generalize List.range' 0 n=is at hj
 induction is with
 |nil=>simp
 |cons j is ih =>
  have p2:(Instr.checkKey em 9999 e (Q7 (Qd k.1 j))).run P w = .ok () w:=MapKept.run_checkKey he (by simp[MapKept.IsKey,Q7]) em 9998;simp only[List.forIn_cons,Sem.run_bind,run_sizeOf w hi,Result.andThen_ok,hc,Nat.mul_one,PH he w (hj j wz),p2,Sem.run_pure];exact ih λj hj'=>hj j (by simp[hj'])
theorem qu(k:vg n):Instr.sameBits 10000 (Vy k) (Vy k)=true:=by
 unfold Vy;rw[show 10000=9999+1 from rfl,Instr.sameBits];simp only[beq_self_eq_true,Bool.true_and,List.all_eq_true];intro x hx;obtain⟨l,hl⟩:=k;simp only at hx;have:∀(l:List Int) (x:Value×Value),x∈(l.map Q7).zip (l.map Q7)->Instr.sameBits 9999 x.1 x.2=true:=by
  intro l
  induction l with
  |nil=>intro x hx;cases hx
  |cons a l ih =>
   intro x hx;rw[List.map_cons,List.zip_cons_cons]at hx;rcases List.mem_cons.1 hx with rfl | hx
   ·simp[Q7,Instr.sameBits]
   exact ih x hx
 exact this l x hx
theorem Tz.arr(hu:P.underlying kt=some (.array n e))(he:P.underlying e=some (.int .i64))(hc:P.cellsOf e=1):Tz P kt (Vy (n:=n)) where
 chk:=λem w k=>CM hu he hc em w k
 find:=λw k l=>by
  cases l with
  |nil=>simp[Instr.findKey,run_underlying hu,XS,Instr.findNow,YA]
  |cons x l =>
   have:Instr.findNow (.array n e) (Vy k) (XS Vy (x::l) 0) 0=none:=by simp[XS,Instr.findNow,Instr.sameNow]
   simp only[Instr.findKey,Sem.run_bind,run_underlying hu,Result.andThen_ok,this];exact MB hu he hc w k (x::l) 0 0
 same:=qu
end
def arB(P:Program)(T:TypeId):Option (Nat×TypeId):=match P.underlying T with | some (.array n e)=>some (n,e) | _=>none
def dV{T e:TypeId}(h:arB P T=some (n,e)):P.underlying T=some (.array n e):=by
 unfold arB at h;split at h
 ·rename_i hu;cases h;exact hu
 cases h
section
variable[Dr][df:Df]{P:Program}{N:Nat}{m:Sl}{S:World->Prop}{ty:TypeId}
theorem jN{T e:TypeId}{b off sz i:Nat}{g:Bool}(hx:ev m x=some (.pointer (some ⟨b,off,none⟩)))(hy:ev m y=some (.int .i64 (i:Int)))(hT:arB P T=some (n,e))(hs:Zm P e=some (g,sz))(hi:i<n):Qt P N m S (.indexAddr T x y) ty (.pointer (some ⟨b,off+i*sz,none⟩)):=λa w _ _ _ _ ha _=>by
 simp[execOp,ha.ev hx,ha.ev hy,Instr.indexAt,asIntOf,Instr.sureAddr,run_underlying (dV hT),YM hs,hi,Yj]
theorem IC{T e:TypeId}{b sz h:Nat}{g:Bool}(hx:ev m x=some (.pointer (some ⟨b,0,none⟩)))(hy:ev m y=some (.int .i64 (h:Int)))(hT:arB P T=some (n,e))(hs:Zm P e=some (g,sz))(hh:h<=n):Qt P N m S (.slice T x none (some y) none) ty (.slice (some ⟨b,0,none⟩) h n):=λa w _ _ _ _ ha _=>by
 simp[execOp,ha.ev hx,ha.ev hy,Instr.sliceAt,asIntOf,Instr.sureAddr,Instr.sliceBounds,Instr.sliceBound,run_underlying (dV hT),YM hs,hh,Yj]
end
theorem xr:arB prog 90=some (25,3):=wm
def YO(l:List Int):vg 25:=⟨(List.range 25).map (Qd l),wz⟩
def BJ(a b:List Int)(i:Nat):List Int:=(List.range 25).map λj=>if j<i then Qd a j+Qd b j else 0
theorem Oz(h:i<25):(BJ a b i).set i (Qd a i+Qd b i)=BJ a b (i+1):=by
 unfold BJ;apply List.ext_getElem wz;intro j h1 h2;simp only[List.length_set,List.length_map,List.length_range]at h1;rw[List.getElem_set];simp only[List.getElem_map,List.getElem_range];split
 ·rename_i e;subst e;simp
 rename_i e;by_cases g:j<i
 ·simp[g,show j<i+1 by omega]
 simp[g,show ¬j<i+1 by omega]
theorem O0(ha:a.length=n)(hb:b.length=n):BJ a b n=(YO (Jq a b)).1:=by
 unfold BJ YO;apply List.map_congr_left;intro j hj;split
 ·rename_i g;simp[Qd,Jq,ha,hb,g]
 rename_i g;simp[Qd,Jq,ha,hb,g]
theorem yt(h:i<25):Ym ((BJ a b i).map Q7) (0+i*1) [.int .i64 (Qd a i+Qd b i)] ((BJ a b (i+1)).map Q7):=by
 have h1:=Ym.QEX (l:=(BJ a b i).map Q7) (n:=0+i*1) (.int .i64 (Qd a i+Qd b i)) (by simp[BJ];omega);rw[<-Oz h,List.map_set];simpa[Q7]using h1
structure PoI{ι:Type}(pos:ι->Nat)(n m:Nat) where
 i:Nat
 s:ι
 le:i<=n
 hp:pos s=i*m
structure PoJ{ι:Type}(pos:ι->Nat)(n m i:Nat) where
 j:Nat
 s:ι
 le:j<=m
 hp:pos s=i*m+j
structure PoK(n:Nat) where
 k:Nat
 le:k<=n
theorem Uw{w0:World}{F0:Gs}{B:ι->List (Nat×Obj)}{H:ι->Gs->Prop}{pos:ι->Nat}{p q:VO}{b1 b2 L:Nat} 
  (hH:∀s F,H s F->F b1=some (#[p.1.v],87)/\F b2=some (#[q.1.v],87)/\Jl F p.1 p.2 (JQ p.2)/\Jl F q.1 q.2 (JQ q.2)) (hPn:p.2.length=p.1.n/\q.2.length=q.1.n)
  (hw:(∀t∈p.2,t.t.2.length=n/\t.r.n=n/\PW t.t.2)/\∀t∈q.2,t.t.2.length=n/\t.r.n=n/\PW t.t.2) (hn:n<=25) (hl:p.2.length<=1000000/\q.2.length<=1000000) (hz:(∀t∈p.2,Jn t.t.1<=20000000)/\∀t∈q.2,Jn t.t.1<=20000000)
  (hround:∀(G:Gs->Prop) (C:List (Nat×Obj)) (s:ι) (i j:Nat) (x:Fr) (W:World),i<p.2.length->j<q.2.length->pos s=i*q.2.length+j ->
   St ⟨w0,F0,B s++C,λF=>(G F/\H s F)/\Jz F x ((el p.2 i).t.1*(el q.2 j).t.1)⟩ W->YieldAt Fence.wide 0 prog L #[Vy (YO (Jq (el p.2 i).t.2 (el q.2 j).t.2)),x.v] W λe W'=>e = .returned (.bool true)/\∃s',pos s'=pos s+1/\St ⟨w0,F0,B s'++C,λF=>G F/\H s' F⟩ W')
  (s0:ι) (h0:pos s0=0) :
  J8 prog 132 [.func (.yield L) #[] #[],.pointer (some ⟨b1,0,none⟩),.pointer (some ⟨b2,0,none⟩)] ⟨w0,F0,B s0,H s0⟩ (λ(_:{ s:ι // pos s=p.2.length*q.2.length })=>.tuple #[]) (λs=>⟨w0,F0,B s.1,H s.1⟩):=by
 have hpn:p.2.length=p.1.n:=hPn.1;have hqn:q.2.length=q.1.n:=hPn.2;refine J8.intro func132 rfl wy rfl rfl<|QGi<|QA (PC (c:=#[p.1.v]) (T':=87) rfl Vg (λF hs0=>(hH _ _ hs0).1) rfl)<|QA (Qf rfl ZA)<|QF5 rfl<|QF4<|QS<|Jo (ι:=PoI pos p.2.length q.2.length) [(0,_),(2,_),(10,_),(11,_)] (λi=>[(12,.int .i64 ((i.i:Nat):Int))]) (λi=>B i.s) (λi F=>H i.s F) (λi=>p.2.length-i.i) (⟨0,s0,Nat.zero_le _,by rw[h0,Nat.zero_mul]⟩) wV wS QGJ w9 λi=>?_
 simp only[List.cons_append,List.nil_append];have hi:=i.le;refine wA 6 I ?_;refine QP I (λhc=>?_) λhc=>?_
 ·have hlt:i.i<p.2.length:=wk<|QGx hc
  have hta:=JK hlt;obtain⟨hna,hra,hpa⟩:=hw.1 _ hta;have hza:=hz.1 _ hta;refine QHC 6 I<|QA (Q2 (n:=p.1.n) i.i (λF h9=>(hH _ _ h9.1).2.2.1.1) rfl rfl ZA Ju O)<|QA (XZ (n:=p.1.n) (vs:=[.int .i64 (el p.2 i.i).x.n.s,.slice (el p.2 i.i).x.n.q (el p.2 i.i).x.n.n (el p.2 i.i).x.n.cap,.int .i64 (el p.2 i.i).x.d.s,.slice (el p.2 i.i).x.d.q (el p.2 i.i).x.d.n (el p.2 i.i).x.d.cap,.slice (el p.2 i.i).r.q (el p.2 i.i).r.n (el p.2 i.i).r.cap]) ((i.i)*5) (λF h9=>(hH _ _ h9.1).2.2.1.1) O I Ju I λj v hv=>Jg (f:=Y2) (l:=p.2) Yx O hv)<|Qg Ye λb5=>QZ (vs:=[_,_,_,_,_]) I I I Ju I .here .h5 wW<|QF4<|QGi<|QA (PC (c:=#[q.1.v]) (T':=87) rfl Vg (λF h9=>(hH _ _ h9.1).2.1) rfl)<|QA (Qf I ZA)<|QHB 4 I<|Jo (ι:=PoJ pos p.2.length q.2.length i.i) [(0,_),(2,_),(5,_),(10,_),(11,_),(12,_),(16,_),(17,_)] (λi2=>[(18,.int .i64 ((i2.j:Nat):Int))]) (λi2=>(b5,.cells (Y2 (el p.2 i.i)).toArray 101 (0,0))::B i2.s) (λi2 F=>H i2.s F) (λi2=>q.2.length-i2.j) (⟨0,i.s,Nat.zero_le _,by rw[i.hp,Nat.add_zero]⟩) wZ wS QGJ tB λi2=>?_
  simp only[List.cons_append,List.nil_append];have hj:=i2.le;refine wA 6 I ?_;refine QP I (λhc=>?_) λhc=>?_
  ·have hlt2:i2.j<q.2.length:=wk<|QGx hc
   have htb:=JK hlt2;obtain⟨hnb,hrb,hpb⟩:=hw.2 _ htb;have hzb:=hz.2 _ htb;refine QHC 6 I<|QA (Q2 (n:=q.1.n) (i2.j) (λF h9=>(hH _ _ h9.1.1).2.2.2.1) rfl rfl ZA Ju O)<|QA (XZ (n:=q.1.n) (vs:=[.int .i64 (el q.2 (i2.j)).x.n.s,.slice (el q.2 (i2.j)).x.n.q (el q.2 (i2.j)).x.n.n (el q.2 (i2.j)).x.n.cap,.int .i64 (el q.2 (i2.j)).x.d.s,.slice (el q.2 (i2.j)).x.d.q (el q.2 (i2.j)).x.d.n (el q.2 (i2.j)).x.d.cap,.slice (el q.2 (i2.j)).r.q (el q.2 (i2.j)).r.n (el q.2 (i2.j)).r.cap]) ((i2.j)*5) (λF h9=>(hH _ _ h9.1.1).2.2.2.1) O I Ju I λj v hv=>Jg (f:=Y2) (l:=q.2) Yx O hv)<|Qg Ye λb7=>QZ (vs:=[_,_,_,_,_]) I I I Ju I .here .h5 wW<|QF4<|QGi<|Qg yE λb8=>QHB 5 I<|QA (QH I ZK Q5)<|QA (Qh I Q5 .u2 (.skip (.skip (.skip (.skip .h1)))))<|QA (Qf I Qk)<|wB 2 I ?_
   refine QD<|QS<|Jo (ι:=PoK n) [(0,_),(2,_),(5,_),(7,_),(8,_),(10,_),(11,_),(12,_),(16,_),(17,_),(18,_),(24,_)] (λi3=>[(25,.int .i64 ((i3.k:Nat):Int))]) (λi3=>(b8,.cells ((BJ (el p.2 i.i).t.2 (el q.2 i2.j).t.2 i3.k).map Q7).toArray 90 (0,0))::(b7,.cells (Y2 (el q.2 i2.j)).toArray 101 (0,0))::(b5,.cells (Y2 (el p.2 i.i)).toArray 101 (0,0))::B i2.s) (λi3 F=>True) (λi3=>n-i3.k) (⟨0,Nat.zero_le _⟩) wj wS QGJ w8 λi3=>?_
   simp only[List.cons_append,List.nil_append];have hk:=i3.le;refine wA 6 I ?_;refine QP I (λhc=>?_) λhc=>?_
   ·have hlt3:i3.k<n:=wk<|QGx hc
    have hka:=hpa.el (show i3.k<(el p.2 i.i).t.2.length by omega);have hkb:=hpb.el (show i3.k<(el q.2 i2.j).t.2.length by omega);refine QHC 10 I<|XN 13 QGJ mixed wm wm ?_
    simp only[List.take_succ_cons,List.take_zero,List.drop_succ_cons,List.drop_zero];refine QL (QC I)<|QL (QH I ZK Q5)<|QL (Qh I Q5 .u2 (.skip (.skip (.skip (.skip .h1)))))<|QL (QC I)<|QL (Q2 (n:=(el p.2 i.i).r.n) (i3.k) (λF h9=>(((hH _ _ h9.1.1.1).2.2.1.2.1 _ hta).2).1) rfl rfl Qk Qu O)<|QL (Qz (n:=(el p.2 i.i).r.n) ((i3.k)*1) (λF h9=>(((hH _ _ h9.1.1.1).2.2.1.2.1 _ hta).2).1) O I Qu (JH (o:=(el p.2 i.i).t.2) O))<|QL (QH I ZK Q5)<|QL (Qh I Q5 .u1 (.skip (.skip (.skip (.skip .h1)))))<|QL (QC I)<|QL (Q2 (n:=(el q.2 i2.j).r.n) (i3.k) (λF h9=>(((hH _ _ h9.1.1.1).2.2.2.2.1 _ htb).2).1) rfl rfl Qk Qu O)<|QL (Qz (n:=(el q.2 i2.j).r.n) ((i3.k)*1) (λF h9=>(((hH _ _ h9.1.1.1).2.2.2.2.1 _ htb).2).1) O I Qu (JH (o:=(el q.2 i2.j).t.2) O))<|QL (Qm I I O)<|QL (jN (i:=i3.k) rfl rfl xr Qu O)<|KH<|QZ (vs:=[_]) I I I Qu I .here (yt O) wS<|QE<|Qi<|QD<|QB<|QA (Qm I I O)<|wB 2 I ?_
    exact Qj (⟨i3.k+1,hlt3⟩) (by show n-(i3.k+1)<n-i3.k;omega) ⟨rfl,rfl,rfl,rfl,rfl,rfl,rfl,rfl,rfl,rfl,rfl,rfl,rfl,trivial⟩ QGJ λF h=>⟨h.1,trivial⟩
   have hge3:i3.k=n:=wk<|QGy hc
   refine Qv ?_
   repeat first|refine QV ?_|refine QQ wy ?_
   refine QW<|QD<|QG ?_
   rw[hge3,O0 hna hnb];refine T9 7 QGJ mixed wm wm rfl ?_;simp only[List.take_succ_cons,List.take_zero,List.drop_succ_cons,List.drop_zero];refine QL (QC I)<|QL (QR (vs:=(YO (Jq (el p.2 i.i).t.2 (el q.2 i2.j).t.2)).1.map Q7) rfl Er .here (Bu.all _) (by simp[YO]))<|QL (QH I Ya Ql)<|QL (wJ I Ql .u2)<|QL (QH I Ya Ql)<|QL (wJ I Ql .u1)<|Qc I (λ_ _ f k=>Gc f ((hH _ _ k.1.1.1).2.2.1.2.1 _ hta).1 ((hH _ _ k.1.1.1).2.2.2.2.1 _ htb).1 O O) λx48=>zJ ?_
   refine Ci (E':=λs':{ s:ι // pos s=pos i2.s+1 }=>⟨w0,F0,(b8,.cells ((YO (Jq (el p.2 i.i).t.2 (el q.2 i2.j).t.2)).1.map Q7).toArray 90 (0,0))::(b7,.cells (Y2 (el q.2 i2.j)).toArray 101 (0,0))::(b5,.cells (Y2 (el p.2 i.i)).toArray 101 (0,0))::B s'.1,λF=>(H s0 F/\H i.s F)/\H s'.1 F⟩) I I (λW hW=>?_) λs49=>?_
   ·obtain⟨fn,tmps,assign,body,e1,e2⟩:=hround (λF=>H s0 F/\H i.s F) [(b8,.cells ((YO (Jq (el p.2 i.i).t.2 (el q.2 i2.j).t.2)).1.map Q7).toArray 90 (0,0)),(b7,.cells (Y2 (el q.2 i2.j)).toArray 101 (0,0)),(b5,.cells (Y2 (el p.2 i.i)).toArray 101 (0,0))] i2.s i.i i2.j x48 W hlt hlt2 i2.hp ((hW.perm (List.perm_append_comm (l₁:=[_,_,_]))).Dd λF h=>⟨h.1.1,h.2⟩);exact⟨fn,tmps,assign,body,e1,e2.mono λe w' ⟨h2,s',h3,h4⟩=>⟨h2,⟨s',h3⟩,h4.perm (List.perm_append_comm (l₂:=[_,_,_]))⟩⟩
   refine ur (λ⟨a,w,h⟩=>by obtain⟨c,e,_⟩:=h;cases e) rfl<|QA (Jw rfl)<|QE<|QD ?_
   refine QP I (λhc=>?_) λhc=>?_
   ·exact absurd hc wu
   refine QM<|Qi<|QD<|QB<|QA (Qm I I O)<|wB 2 I ?_
   exact Qj (⟨i2.j+1,s49.1,hlt2,by rw[s49.2,i2.hp];omega⟩) (by show q.2.length-(i2.j+1)<q.2.length-i2.j;omega) we (.cons _ (.cons _ QGJ)) w9
  have hge2:i2.j=q.2.length:=wk<|QGy hc
  refine Qv ?_
  repeat first|refine QV ?_|refine QQ wy ?_
  refine QW<|Qi<|QD<|QB<|QA (Qm I I O)<|wB 2 I ?_
  exact Qj (⟨i.i+1,i2.s,hlt,by rw[i2.hp,hge2,Nat.add_mul,Nat.one_mul]⟩) (by show p.2.length-(i.i+1)<p.2.length-i.i;omega) wW (.cons _ QGJ) λF h=>⟨h.1.1,h.2⟩
 have hge:i.i=p.2.length:=wk<|QGy hc
 refine Qv ?_
 repeat first|refine QV ?_|refine QQ wy ?_
 refine QW<|Ej ?_
 exact Z2 (γ:={ s:ι // pos s=p.2.length*q.2.length }) ⟨i.s,by rw[i.hp,hge]⟩ I .nil rfl λw h=>h.imp QGJ tB
structure Ht where
 x:Fr
 t:Tm
instance :Inhabited Ht:=⟨⟨default,(0,[])⟩⟩
def SX(ms:List Ht):List (vg 25×Value):=ms.map λe=>(YO e.t.2,e.x.v)
def KR(ms:List Ht):List Tm:=ms.map (·.t)
def Eg:List Ht->Ht->List Ht
 |[],n=>[n]
 |t::l,n=>if n.t.2=t.t.2 then n::l else t::Eg l n
theorem U8(hn:n<=25)(ha:a.length=n)(hb:b.length=n)(h:YO a=YO b):a=b:=by
 have h1:(List.range 25).map (Qd a)=(List.range 25).map (Qd b):=congrArg Subtype.val h;apply List.ext_getElem O;intro i h2 h3;have h4:=congrArg (λl=>l[i]?) h1;simp only[List.getElem?_map,List.getElem?_range (show i<25 by omega),Option.map_some,Option.some.injEq]at h4;simpa[Qd,h2,h3]using h4
theorem Rx:∀(ms:List Ht) (n:Ht),KR (Eg ms n)=Bt (KR ms) n.t
 |[],n=>rfl
 |t::l,n=>by
  have ih:=Rx l n;unfold KR at ih ⊢;simp only[Eg,List.map_cons,Bt];split
  ·simp
  simp[ih]
theorem DZ{ts:List Ht}{n x:Ht}(h:x∈Eg ts n):x=n\/x∈ts:=by
 induction ts with
 |nil=>simp[Eg]at h;exact .inl h
 |cons t l ih =>
  simp only[Eg]at h;split at h
  ·rcases List.mem_cons.1 h with h | h
   ·exact .inl h
   exact .inr (List.mem_cons_of_mem _ h)
  rcases List.mem_cons.1 h with h | h
  ·exact .inr (h ▸ List.mem_cons_self)
  rcases ih h with h | h
  ·exact .inl h
  exact .inr (List.mem_cons_of_mem _ h)
def WdM(n:Nat)(ms:List Ht):Prop:=∀e∈ms,e.t.2.length=n
theorem PV{w:Nat}(hw:w<=25):∀(ms:List Ht) (n:Ht),WdM w ms->n.t.2.length=w->SX (Eg ms n)=DV (SX ms) (YO n.t.2) n.x.v
 |[],n,_,_=>rfl
 |t::l,n,h,hn=>by
  have ih:=PV hw l n (λe he=>h e (List.mem_cons_of_mem _ he)) hn;unfold SX at ih ⊢;simp only[Eg,List.map_cons,DV];by_cases g:n.t.2=t.t.2
  ·rw[if_pos g,if_pos (congrArg YO g)];simp
  rw[if_neg g,if_neg λe=>g (U8 hw hn (h t List.mem_cons_self) e)];simp[ih]
theorem dH{w:Nat}(hw:w<=25):∀(ms:List Ht) (p:List Int) (i:Nat),WdM w ms->p.length=w->(YA (SX ms) (YO p) i=none/\p∉(KR ms).map (·.2))\/∃j,∃t∈ms,t.t.2=p/\YA (SX ms) (YO p) i=some (j,t.x.v)
 |[],_,_,_,_=>.inl ⟨rfl,by simp[KR]⟩
 |t::l,p,i,h,hp=>by
  by_cases g:p=t.t.2
  ·exact .inr ⟨i,t,List.mem_cons_self,g.symm,by show(if _ then _ else _)=_;rw[if_pos (congrArg YO g)]⟩
  have g2:¬YO p=YO t.t.2:=λe=>g (U8 hw hp (h t List.mem_cons_self) e);rcases dH hw l p (i+1) (λe he=>h e (List.mem_cons_of_mem _ he)) hp with ⟨h1,h2⟩ | ⟨j,u,hu,h1,h2⟩
  ·refine .inl ⟨?_,?_⟩
   ·show(if _ then _ else _)=_;rw[if_neg g2];exact h1
   simp only[KR,List.map_cons,List.mem_cons,not_or];exact⟨g,h2⟩
  refine .inr ⟨j,u,List.mem_cons_of_mem _ hu,h1,?_⟩;show(if _ then _ else _)=_;rw[if_neg g2];exact h2
def MsR(F:Gs)(ms:List Ht):Prop:=∀e∈ms,Jz F e.x e.t.1
structure Mk(n:Nat)(ms:List Ht)(l:List Tm):Prop where
 Fc:Cc (KR ms) l
 wd:WdM n ms
 pw:∀e∈ms,PW e.t.2
 ln:ms.length<=l.length
def Mk.nil:Mk n [] []:=⟨Cc.nil,(λ_ h=>by cases h),(λ_ h=>by cases h),Nat.le_refl _⟩
theorem zA(ms:List Ht)(n:Ht):(Eg ms n).length<=ms.length+1:=by
 induction ms with
 |nil=>exact Nat.le_refl _
 |cons t l ih =>
  simp only[Eg];split<;>simp only[List.length_cons]<;>omega
def Mk.add{w:Nat}{ms:List Ht}{l:List Tm}(h:Mk w ms l){f:Rat}{p:List Int}(hp:PW p)(hw:p.length=w){n:Ht}(hn:n.t=(f+Jt (KR ms) p,p)):Mk w (Eg ms n) (l++[(f,p)]) :=
 ⟨by rw[Rx,hn];exact h.Fc.add f p,λt ht=>by
  rcases DZ ht with rfl | ht
  ·rw[hn];exact hw
  ·exact h.wd t ht,λt ht=>by
  rcases DZ ht with rfl | ht
  ·rw[hn];exact hp
  exact h.pw t ht,by have:=zA ms n;have:=h.ln;rw[List.length_append];simp only[List.length_singleton];omega⟩
theorem Mk.sz{w:Nat}{ms:List Ht}{l:List Tm}(h:Mk w ms l){t:Ht}(ht:t∈ms):Jn t.t.1<=Z3 l+1:=by
 rw[<-h.Fc.Dt (List.mem_map_of_mem (f:=Ht.t) ht),h.Fc.eq];exact DC _ _
structure QCF(n:Nat)(l:List Tm) where
 k:Nat
 ms:List Ht
 hI:Mk n ms (l.take k)
theorem jR{p q:List Xa}(hi:i<p.length)(hj:j<q.length):(JC (JQ p) (JQ q))[i*q.length+j]?=some ((el p i).t.1*(el q j).t.1,Jq (el p i).t.2 (el q j).t.2):=by
 induction p generalizing i with
 |nil=>simp at hi
 |cons a p ih =>
  rw[show JQ (a::p)=a.t::JQ p from rfl,XK];have hl:(Jf a.t (JQ q)).length=q.length:=by simp[Jf,JQ]
  cases i with
  |zero =>
   rw[Nat.zero_mul,Nat.zero_add,List.getElem?_append_left O];simp[Jf,JQ,J4 hj,hj,el]
  |succ i =>
   rw[List.getElem?_append_right (by rw[hl,Nat.add_mul];omega),hl,show(i+1)*q.length+j-q.length=i*q.length+j by rw[Nat.add_mul];omega];have:=ih (i:=i) (by simpa using hi);rw[this];simp[el]
def yI{l:List Tm}{t:Tm}(h:l[k]?=some t):l.take (k+1)=l.take k++[t]:=by
 obtain⟨h1,rfl⟩:=List.getElem?_eq_some_iff.1 h;rw[List.take_succ_eq_append_getElem h1]
def pH{l:List Tm}:Z3 (l.take k)<=Z3 l:=yM (List.take_append_drop k l)
theorem PQ:AS prog 82 90 95=true:=wm
theorem Td:Tz prog 90 (Vy (n:=25)):=.arr (e:=3) wm wm wm
theorem yC:zvB prog 95=some (.agg #[.int .i64 0,.slice none 0 0,.int .i64 0,.slice none 0 0]):=wm
theorem Rs:Zm prog 82=some (false,1):=wm
theorem QEG:XE prog 82=some [.map none]:=wm
theorem IG{p q:Sr}(hF:Fits F w):QU prog 44 [p.v,q.v] w F (λ(c:Nat×Nat)=>.func (.func 132) #[] #[.pointer (some ⟨c.1,0,none⟩),.pointer (some ⟨c.2,0,none⟩)]) (λc F=>F c.1=some (#[p.v],87)/\F c.2=some (#[q.v],87)):=by
 dsimp only[Sr.v];refine QU.intro (G:=λF=>True) func44 rfl wy rfl rfl hF w8<|QGi<|JE rfl (vs:=[_]) rfl λb2=>JE rfl (vs:=[_]) rfl λb3=>wQ rfl<|QGi<|GW (b:=b2) .u1<|GW (b:=b3) .here<|QA (Bb rfl)<|wQ rfl<|QT ?_
 exact QO ((b2,b3)) I (wN I) (rfl) λF h=>⟨h.1.2,h.2⟩
section
variable[Dr]
theorem kF{w:World}{F:Gs}{a b:Xa}(hF:Fits F w)(hA:UI F a)(hB:UI F b)(pa:PW a.t.2)(pb:PW b.t.2):Qb prog 50 [IJ a,IJ b] w F (.int .i64 (WR a.t.2 b.t.2)):=by
 refine QU.intro (G:=λF=>UI F a/\UI F b) func50 rfl wy rfl rfl hF (λF' hF'=>⟨hA.le hF',hB.le hF'⟩)<|QGi<|JE rfl (vs:=[_,_,_,_,_]) rfl λb2=>JE rfl (vs:=[_,_,_,_,_]) rfl λb3=>wQ rfl<|QGi<|QA (QH rfl ZK Q5)<|QA (Qh rfl Q5 .u1 (.skip (.skip (.skip (.skip .h1)))))<|QA (QH rfl ZK Q5)<|QA (Qh rfl Q5 .here (.skip (.skip (.skip (.skip .h1)))))<|QJ rfl (λ_ _ f k=>Bi f (ra:=a.r) (rb:=b.r) k.1.2 (k.2.2) (pa) (pb)) λ_=>wQ rfl<|QT ?_
 exact QHT I I (rfl) w8
end
theorem xh:I5 50:=⟨enters_of func50 wy rfl,λw F a b hF hA hB pa pb=>@kF ⟨True⟩ w F a b hF hA hB pa pb⟩
end Go.Proofs.YtpmehagnedbkhaaGreatDoor
