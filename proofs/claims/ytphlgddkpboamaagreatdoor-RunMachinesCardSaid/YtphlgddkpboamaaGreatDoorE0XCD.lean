/- Steps of the proof of the theorem in the last file. -/
import Derived.Test.YtphlgddkpboamaaGreatDoorQ0
import Derived.KernelRfl
set_option linter.all false
set_option maxHeartbeats 4000000
open Go.Proofs.Tryz
open Go.Value renaming int -> aa,bool -> ah,slice -> fU
open Nat renaming zero_add -> ae,zero_le -> aj,le_trans -> ak,le_refl -> aq,mul_le_mul_left -> aT,min_le_left -> bP,add_mul -> bU,lt_of_lt_of_le -> bZ,add_zero -> ew,mul_add -> eE,add_mul_mod_self_left -> eR,zero_mul -> eX,sub_self -> eY,lt_or_ge -> eZ,pow_le_pow_right -> fm,one_mul -> fp,min -> fH,mod_eq_of_lt -> fL,mul_comm -> fX,mul_pos -> ib
open List renaming length_append -> af,take_of_length_le -> ai,append_nil -> ao,length_drop -> ar,flatMap_append -> au,drop_succ_cons -> aB,length_cons -> aC,replicate -> aD,range -> aE,take_append_drop -> aF,getElem?_toArray -> aG,length_set -> aH,getElem?_eq_getElem -> aK,take_zero -> aM,flatMap_cons -> aQ,mem_of_mem_drop -> aR,mem_of_find?_eq_some -> aS,length_map -> aV,length_take -> aY,map_cons -> aZ,mem_of_mem_take -> bg,take_succ_cons -> bj,mem_map_of_mem -> bm,length_range -> bB,append_assoc -> bD,take_length -> bF,ext_getElem -> bH,drop_of_length_le -> bJ,nil_append -> bK,map_append -> bL,drop_zero -> bT,map_map -> ep,foldl_append -> er,getElem_map -> eB,cons_append -> eC,range' -> eD,find?_some -> eF,getElem?_append_right -> eH,exists_cons_of_ne_nil -> eI,drop_drop -> eM,mem_or_eq_of_mem_set -> eN,getElem?_append_left -> eO,getElem_replicate -> eU,perm_append_comm -> fb,mem_cons_of_mem -> fh,mem_append_left -> fi,contains_eq_mem -> fj,map_congr_left -> fq,getElem_set_ne -> fu,mem_cons_self -> fv,map_replicate -> fw,countP_append -> fy,getElem_drop -> fB,getElem?_map -> fC,getElem_set -> fI,drop_length -> fJ,drop_left -> fM,map_set -> fR,map_nil -> fS,map_id -> fY,length -> fZ
open Bool renaming and_eq_true -> ax,eq_iff_iff -> bO,false_or -> bV,not_not -> eu,or_true -> eW,not_eq_true' -> fG,and_false -> fN,not_true -> fQ
open Rat renaming divInt -> ay,divInt_mul_divInt -> fg,divInt_mul_right -> fk,num_divInt_den -> fA
open Go.DataW renaming trod -> aA,trod_struct -> fz
open List.Perm renaming refl -> aW
open Go.Fence renaming wide -> aX
open Option renaming map_some -> ba,none -> fO
open Option.some renaming injEq -> bh,inj -> bz
open Int renaming natCast_nonneg -> bw,le_trans -> bN,natCast_mul -> bS,natAbs_mul -> eP,natAbs_natCast -> fD
open Go.Region renaming wanted -> bA,waitsFor -> bI,ready -> bY,binds -> eT,waitsFor_spec -> eV
open List.Sublist renaming refl -> bQ
open Go.Result renaming andThen_ok -> bW
open Array renaming all_eq_true_iff_forall_mem -> ee
open Go.Builtin renaming append_ -> ey,copy_ -> fK
open Prod.mk renaming injEq -> eG
open Go.MapKept renaming run_getObj_map -> eQ
open Go.Sem renaming run_pure -> fe,run_bind -> ff
open Go.Instr renaming buildSlice -> fF,lookup -> fP,slice -> fW,fill -> ia
open Go.World renaming cell? -> fT
open Go.Lib renaming decDigits -> fV
namespace Go.Proofs.YtphlgddkpboamaaGreatDoor
variable{T e t ty:TypeId}{cs z:List Value}{g:Bool}{ps:List GS}{α ι:Type}{k out:List Int}{N b c cap fuel i j:Nat}{a:Addr}{w w0:World}{F F0:Gs}{q q2:Option Addr}{x:Operand}{y:Rat}{aft:Array Edge}{s:Sr}{G:Gs->Prop}{V:Nat->Int}{xs:List (Fr×Rat)}{S:World->Prop}{sh:Int}{bs:List (Nat×Obj)}{f:Obj->List (Nat×Obj)}
open Go.RowKit
section
variable[Dr][df:Df]
section
variable{P:Program}{Q:Exit->Act->World->Prop}{N:Nat}{m:Sl}{E E0:Env}{ops:Array Oper}{l:List Oper}{w0:World}{F0:Gs}{bs:List (Nat×Obj)}{G:Gs->Prop}
section
variable{d:Nat}{ty:TypeId}{pos:String}{aft:Array Edge}
theorem Xah{n sz:Nat}{parts:Array (Nat×Operand)}{ps:List (Nat×Value)}(hp:V5 m parts.toList=some ps)(ht:P.underlying t=some (.slice e))(hs:ZZ P e=some (g,sz))(hz:Jw P e=some z)
  (hc:Yr sz 0 ps=some cs) (hl:cs.length=n*sz) (k:∀b,JS P ops Q l N ((d,.slice (some ⟨b,0,none⟩) n n)::m) ⟨w0,F0,(b,.cells cs.toArray e (0,0))::bs,G⟩) (h24:Nat.ble (n*sz) 16777216=true:=by rfl) (hn:Nat.beq (n*sz) 0=false:=by rfl)
  (hu:GX e=true:=by rfl) (hd:J1 N (some d)=true:=by rfl):JS P ops Q (⟨some d,.buildSlice t n parts,ty,pos,aft,none⟩::l) N m ⟨w0,F0,bs,G⟩:=λa w ha hw =>
 wpList_plain rfl λ_ hK=>upon_value (Ve ha hp ht hs hz hc hl h24 hn) (hK _ _ (k _ _ _ (ha.put hd _) (hw.alloc _ (ZD hu))))
end
end
end
section
open Go.RowKit Go.ChangeShapes Go.WideShapes Ig
section
variable{H:Type}{enc:TypeId×Value->H}{w:World}{b:Nat}{v:Value}{d:DataW H}{p:List MemPlace}
set_option maxRecDepth 100000 in
theorem Xbm(ht:prog.underlying t=some (.int .i64))(hv:Value.okWide prog w .any b t v)(h:DataW.Trod enc prog w 0 (λ_=>true) true t v d p):∃n:Int,v = .int .i64 n/\-9223372036854775808<=n/\n<=9223372036854775807:=by
 obtain⟨n,rfl,_,_,hw⟩:=open_int ht hv h;refine⟨n,rfl,?_⟩;simpa[Lit.wf,IntKind.min,IntKind.max,IntKind.signed,IntKind.bits]using hw
end
end
section
open Go.RowKit Go.ChangeShapes Go.WideShapes Ig
theorem CE{f:α->List Value}{k off:Nat}{c:Array Value}(hf:∀x,(f x).length=k):∀(l:List α) (i0:Nat),(∀i x,l[i]?=some x->∀j,j<k->c[off+(i0+i)*k+j]?=(f x)[j]?)->∀p u,(l.flatMap f)[p]?=some u->c[off+i0*k+p]?=some u
 |[],_,_,p,u,e=>by simp at e
 |x::l,i0,h,p,u,e=>by
  rw[aQ]at e;rcases eZ p k with g | g
  ·rw[eO (by rw[hf];exact g)]at e;have:=h 0 x rfl p g;rw[ew]at this;rw[this,e]
  rw[eH (by rw[hf];exact g),hf]at e;have:=CE hf l (i0+1) (λi y hy j hj=>by
   have:=h (i+1) y (by simpa using hy) j hj
   rwa [show i0+(i+1)=i0+1+i by omega]at this) (p-k) u e
  rwa [show off+(i0+1)*k+(p-k)=off+i0*k+p by rw[bU,fp];omega]at this
def kM{off n:Nat}:(⟨b,off,none⟩:Addr).add n=⟨b,off+n,none⟩:=by
 unfold Addr.add;split
 ·rename_i h;rw[h,ew]
 rfl
section
variable{H:Type}{enc:TypeId×Value->H}{w:World}
def qj{n:Nat}(h:w.cells? 0 a n=some cs):cs.length=n/\∀i,i<n->w.cell? (a.add i)=cs[i]?:=by
 unfold World.cells? at h;rw[if_pos (aj _)]at h;exact⟨by simpa using mapM_some_length h,λi hi=>by simpa using mapM_some_get h i i (by simp[hi])⟩
theorem EM{cs:List Value}{x:DataW H×List MemPlace}{sz:Nat}{f:α->List Value}{Q:α->Prop}(ht:prog.underlying t=some (.slice e))(hc:prog.cellsOf e=sz)(h0:0<sz)(hf:∀x,(f x).length=sz)
  (hel:∀(n:Nat) (cs:List Value) (x:DataW H×List MemPlace),aA enc prog w 0 (λ_=>true) true n e cs=some x->∃y,cs=f y/\Q y)
  (hh:aA enc prog w 0 (λ_=>true) true fuel t cs=some x) :
  ∃(q:Option Addr) (n cap:Nat) (l:List α),cs=[.slice q n cap]/\JC (K8 w) q n sz (l.flatMap f)/\l.length=n/\n<=9223372036854775807/\(∀y∈l,Q y)/\n<=cap:=by
 rcases DataW.trod_slice ht hh with ⟨e0,_⟩ | ⟨a',len,cap,elems,rest,n,_,e0,_,_,h1,h2,hlen,hg,_,_⟩
 ·exact⟨none,0,0,[],e0,JC.nil _ _ _,rfl,aj _,λy hy=>(by cases hy),aq _⟩
 subst e0;rw[hc]at hg;have key:∀i,i<len->∃y:α,w.cells? 0 (a'.add (i*sz)) sz=some (f y)/\Q y:=λi hi=>by
  have e:=hg i hi;rw[aK O,Option.bind_eq_some_iff]at e;obtain⟨cs,hcs,htr⟩:=e;obtain⟨y,rfl,hq⟩:=hel _ _ _ htr;exact⟨y,hcs,hq⟩
 have hm:len<=9223372036854775807:=by have:=h2;unfold maxLen at this;omega
 have build:∀m,m<=len->∃l:List α,l.length=m/\(∀i x,l[i]?=some x->w.cells? 0 (a'.add (i*sz)) sz=some (f x))/\∀y∈l,Q y:=by
  intro m
  induction m with
  |zero=>exact λ_=>⟨[],rfl,λi x e=>by simp at e,λy hy=>by cases hy⟩
  |succ m ih =>
   intro hm';obtain⟨l,hl,hx,hQ⟩:=ih O;obtain⟨y,hy,hq⟩:=key m O;refine⟨l++[y],by simp[hl],λi x e=>?_,λz hz=>by rcases List.mem_append.1 hz with hz | hz;exact hQ z hz;rw[List.mem_singleton.1 hz];exact hq⟩;rcases eZ i m with g | g
   ·rw[eO O]at e;exact hx i x e
   have:i=m:=by
    have:=(List.getElem?_eq_some_iff.1 e).1;simp at this;omega
   subst this;rw[eH O,hl,eY]at e;simp only[List.getElem?_cons_zero,bh]at e;rw[<-e];exact hy
 obtain⟨l,hl,hx,hQ⟩:=build len (aq _);refine⟨some a',len,cap,l,rfl,⟨?_,λhn=>?_⟩,hl,hm,hQ,h1⟩
 ·rw[List.length_flatMap];have:∀l:List α,(l.map λx=>(f x).length).sum=l.length*sz:=λl=>by
   induction l with
   |nil=>simp
   |cons x l ih=>rw[aZ,List.sum_cons,ih,hf,aC,bU];omega
  rw[this,hl]
 have c0:=hx 0 (l[0]' O) (aK _);have g0:=(qj c0).2 0 h0;have hs:(f (l[0]' O))[0]?=some ((f (l[0]' O))[0]'(by rw[hf];exact h0)):=aK _;rw[hs,eX]at g0;have ea:(a'.add 0).add 0=a':=rfl;rw[ea]at g0;obtain⟨b',off,spot⟩:=a';unfold fT at g0;split at g0
 ·rename_i c T fr hheap;split at g0
  ·cases g0
  rename_i hsp;have:spot=none:=by cases spot with
   |none=>rfl
   |some s=>simp at hsp
  subst this;refine⟨b',off,c,T,rfl,by unfold K8;rw[hheap],λj u hu=>?_⟩;have:=CE (off:=off) (c:=c) hf l 0 (λi x e j hj=>?_) j u hu
  ·rwa [eX,ew]at this
  have:=(qj (hx i x e)).2 j hj;rw[kM,kM]at this;unfold fT at this;rw[hheap]at this;simpa using this
 cases g0
end
end
open Go.RowKit Ig
def QHN(lo hi:List UInt8):Int:=if JB [JO lo,JO hi]=0 then(if Dt (J4 lo) (J4 hi)>0 then 11 else 0)else JB [JO lo,JO hi]
def QHF(d:Int)(p:List UInt8×List UInt8):Bool:=H9 p.1 d&&(H9 p.2 d&&!decide (Dt (J4 p.1) (J4 p.2)>0))
section
variable[Dr]
def slC:List Int->List Int->Int
 |[],[]=>0
 |[],_::_=>-1
 |_::_,[]=>1
 |x::a,y::b=>if YY x y≠0 then YY x y else slC a b
def QJa(a b:List Int):Int:=JB [YY b.sum a.sum,slC b a]
end
def QKn(l:List Int):Int:=(l.map λk=>if 13<k then 13 else k).sum
def QE3(f:List UInt8)(l:List Int)(v:Int):Int :=
 if(l.length:Int)≠v+1 then 2 else if l.any (λk=>decide (k<0))=true then 3 else JB [if decide (QKn l>12)=true then 4 else 0,JO f]
def QIP(p:Pt)(v:Int)(i:Nat):Int :=
 let e:=JB [QE3 (el p i).1 (el p i).2 v,if((el p i).1==[48])=true then 6 else 0]
 if e=0/\0<i/\0<=QJa (el p (i-1)).2 (el p i).2 then 11 else e
def QFm(p:Pt)(v:Int):Int:=if decide ((p.length:Int)>64)=true then 5 else JB ((aE p.length).map (QIP p v))
structure QHk(p:Pt)(v:Int):Prop where
 len:p.length<=64
 term:∀x∈p,QE3 x.1 x.2 v=0
 can:Canon (QDS p)
def Szs(a:Rat×Rat)(k:Nat):Prop:=Zv a.1<=k/\Zv a.2<=k
def fpB(p:Pt)(v a b c:Int):Bool:=if(p.length:Int)>a\/QFm p v≠0 then false else !(p.any λx=>decide (x.2.sum>b)||!(H9 x.1 c))
structure BxA(F:Gs)(r:Sr)(l:List (List UInt8×List UInt8)):Prop where
 row:JC F r.q r.n 2 (l.flatMap spC)
 len:l.length=r.n
def Xaq[Inhabited α]{l:List α}{x:α}{j:Nat}(h:j<l.length):el (l++[x]) j=el l j:=by rw[ZH h,ZH (by rw[af];omega),List.getElem_append_left h]
def Xcs[Inhabited α](l:List α)(x:α):el (l++[x]) l.length=x:=by rw[ZH wv];simp
structure ABx where
 e:List UInt8
 w:Sr
 wl:List (List UInt8×List UInt8)
 l:Sr
 ll:List (List UInt8×List UInt8)
def abC(b:ABx):List Value:=[tx b.e,.slice b.w.q b.w.n b.w.cap,.slice b.l.q b.l.n b.l.cap]
structure QK1(F:Gs)(r:Sr)(tb:List ABx):Prop where
 row:JC F r.q r.n 3 (tb.flatMap abC)
 len:tb.length=r.n
 bx:∀b∈tb,BxA F b.w b.wl/\BxA F b.l b.ll
def txs(v:List (Rat×Rat)):List (List UInt8×List UInt8):=v.map λa=>(Q8 a.1,Q8 a.2)
abbrev TbQ:=Rat×List (Rat×Rat)×List (Rat×Rat)
def QKE(t:List TbQ):List (List UInt8×List (List UInt8×List UInt8)×List (List UInt8×List UInt8)):=t.map λp=>(Q8 p.1,txs p.2.1,txs p.2.2)
def ABx.d(b:ABx):List UInt8×List (List UInt8×List UInt8)×List (List UInt8×List UInt8):=(b.e,b.wl,b.ll)
structure QK0(F:Gs)(c:Sr×List ABx)(t:List TbQ):Prop where
 a:QK1 F c.1 c.2
 d:c.2.map ABx.d=QKE t
 cap:c.1.n<=c.1.cap
def Xae[Inhabited α]{l:List α}{x:α}{j i:Nat}(hl:l.length=i)(h:j<i):el (l++[x]) j=el l j:=by subst hl;exact Xaq h
def Xaf[Inhabited α]{l:List α}{x:α}{i:Nat}(hl:l.length=i):el (l++[x]) i=x:=by subst hl;exact Xcs l x
def ClS(Q d b:Nat)(x:Rat×Rat):Prop:=Cl Q d b x.1/\Cl Q d b x.2
section
variable{Q d b e c:Nat}{x y:Rat×Rat}(h0:0<Q)
include h0
variable{al be:Nat}{a a':List SpQ}
def QFs(ks:List Int):Nat->Nat
 |0=>0
 |v+1=>QFs ks v+(Qb ks v).toNat
end
def QIg(l:List SpQ):Prop:=∀i,i<l.length->(el l i).1<=(el l i).2
def QKO(s:List UInt8×List UInt8):Bool:=!(decide ((s.1.length:Int)>40)||decide ((s.2.length:Int)>40))
theorem yG{n:Nat}{m d:Int}{l:List (List UInt8)}(hF:Fits F w)(hR:JC F q n 1 (l.map tx))(hl:l.length=n)(hd:0<=d/\d<=1000)(hn:n<=1000000):Qi prog 176 [.slice q n c,.int .i64 m,.int .i64 d] w F (.bool (decide ((n:Int)<=m)&&l.all λs=>H9 s d)):=by
 have hln:=hl;refine QS.go (G:=λF=>JC F q n 1 (l.map tx)) func176 hF hR ?_;refine wA 9 I<|QA (Qc I Z2)<|QMW 4 I ?_
 refine QO I (λhc=>?_) λhc=>?_
 ·have hg:=QLr hc;refine wA 6 I ?_;exact QMn I I (congrArg ah (by have h1:decide ((n:Int)<=m)=false:=decide_eq_false O;rw[h1];rfl)) wz
 have hg:=QLs hc;refine QMX 9 I<|Jt (ι:=Mr l λs=>H9 s d) [(0,_),(2,_)] (λi=>[(7,.int .i64 ((i.i:Nat):Int))]) (λi=>l.length-i.i) (Mr.start _ _) wU wT λi=>wA 5 I<|QA (Qc I Z2)<|QMW 3 I ?_
 refine QO I (λhc=>?_) λhc=>?_
 ·have hi:i.i<l.length:=wi<|QLr hc
  refine QMX 8 I<|QA (Qo (n:=n) i.i w7 rfl rfl Z2 Ja O)<|QA (Ql (n:=n) ((i.i)*1) w7 O rfl Ja (Jo (f:=tx) (l:=l) O))<|QJm I<|QL I (λ_ _ f k=>I4 f hd) λ_=>QA (Xv I)<|QF<|QD ?_
  refine QO I (λhc=>?_) λhc=>?_
  ·refine wA 5 I<|ZS ?_
   exact QMn I I (congrArg ah (by rw[i.hit hi (by simpa using hc),fN])) wz
  refine QN<|Qg<|QMY 3 I<|QA (Qn I I O)<|wB 2 I ?_
  exact Qj (i.next hi (by simpa using hc)) (by show l.length-(i.i+1)<l.length-i.i;omega) wV QKK w8
 have hi:l.length<=i.i:=wi<|QLs hc
 refine JK ?_;refine wA 6 I ?_;exact QMn I I (congrArg ah (by rw[i.stop hi];have h1:decide ((n:Int)<=m)=true:=decide_eq_true O;rw[h1];rfl)) wz
structure QLM(y:ASy):Prop where
 nn:y.nm.n<=9223372036854775807
 nc:y.nm.n<=y.nm.cap
 nt:∀s∈y.nl,s.length<=9223372036854775807
 rn:y.rt.n<=9223372036854775807
 sn:y.st.n<=9223372036854775807
 rl:∀e∈y.rl,e.2.length=e.1.n/\e.1.n<=9223372036854775807/\∀t∈e.2,t.k.length=t.r.n
def shT(t:GS):Bool:=!(decide ((t.r.n:Int)>30)||decide ((t.f.length:Int)>30))
def shP(e:VW):Bool:=!(decide ((e.1.n:Int)>70))&&e.2.all shT
def shN(y:ASy):Bool:=decide ((y.nm.n:Int)>30)||decide ((y.rt.n:Int)>30)||decide ((y.st.n:Int)>30)
def shS(y:ASy):Bool:=!(shN y)&&(y.rl.all shP&&y.sl.all QKO)
structure ATk where
 fr:List UInt8
 te:List UInt8
 bx:Sr
 bl:List (List UInt8×List UInt8)
 wh:Sr
 wl:List (List UInt8×List UInt8)
 o:Int
 b:Int
section
open Go.RowKit Go.ChangeShapes Go.WideShapes Ig
section
variable{H:Type}{enc:TypeId×Value->H}{w:World}
theorem trod_struct3{f0 f1 f2:Field}{x:DataW H×List MemPlace}(ht:prog.underlying t=some (.struct #[f0,f1,f2]))(h:aA enc prog w 0 (λ_=>true) true fuel t cs=some x):
  ∃yz0 y1 y2 n,cs.length=prog.cellsOf t/\aA enc prog w 0 (λ_=>true) true n f0.type ((cs.drop f0.offset).take (prog.cellsOf f0.type))=some yz0/\aA enc prog w 0 (λ_=>true) true n f1.type ((cs.drop f1.offset).take (prog.cellsOf f1.type))=some y1 /\
   aA enc prog w 0 (λ_=>true) true n f2.type ((cs.drop f2.offset).take (prog.cellsOf f2.type))=some y2:=by
 obtain⟨xs,n,_,rfl,hl,hlen,hf⟩:=fz ht h
 match xs,hlen with
 |[yz0,y1,y2],_=>exact⟨yz0,y1,y2,n,hl,by simpa using hf 0 f0 rfl,by simpa using hf 1 f1 rfl,by simpa using hf 2 f2 rfl⟩
end
end
section
open Go.RowKit Go.ChangeShapes Go.WideShapes Ig
section
variable{H:Type}{enc:TypeId×Value->H}{w:World}
theorem Un{f0 f1 f2 f3 f4 f5:Field}{x:DataW H×List MemPlace}(ht:prog.underlying t=some (.struct #[f0,f1,f2,f3,f4,f5]))(h:aA enc prog w 0 (λ_=>true) true fuel t cs=some x):
  ∃z0 z1 z2 z3 z4 z5 n,aA enc prog w 0 (λ_=>true) true n f0.type ((cs.drop f0.offset).take (prog.cellsOf f0.type))=some z0/\aA enc prog w 0 (λ_=>true) true n f1.type ((cs.drop f1.offset).take (prog.cellsOf f1.type))=some z1/\aA enc prog w 0 (λ_=>true) true n f2.type ((cs.drop f2.offset).take (prog.cellsOf f2.type))=some z2 /\
   aA enc prog w 0 (λ_=>true) true n f3.type ((cs.drop f3.offset).take (prog.cellsOf f3.type))=some z3/\aA enc prog w 0 (λ_=>true) true n f4.type ((cs.drop f4.offset).take (prog.cellsOf f4.type))=some z4/\aA enc prog w 0 (λ_=>true) true n f5.type ((cs.drop f5.offset).take (prog.cellsOf f5.type))=some z5:=by
 obtain⟨xs,n,_,rfl,hl,hlen,hf⟩:=fz ht h
 match xs,hlen with
 |[z0,z1,z2,z3,z4,z5],_=>exact⟨z0,z1,z2,z3,z4,z5,n,by simpa using hf 0 f0 rfl,by simpa using hf 1 f1 rfl,by simpa using hf 2 f2 rfl,by simpa using hf 3 f3 rfl,by simpa using hf 4 f4 rfl,by simpa using hf 5 f5 rfl⟩
theorem Hp{n:Nat}{v:Value}{x:DataW H×List MemPlace}(h:aA enc prog w 0 (λ_=>true) true n 3 [v]=some x):∃k,v = .int .i64 k:=by
 obtain⟨k,e,_⟩:=DataW.trod_int QEz h;exact⟨k,(List.cons.inj e).1⟩
end
end
theorem DG.drop{l:List Int}(hd:DG B9 l)(k:Nat):DG B9 (l.drop k):=λx hx=>hd x (aR hx)
section
variable{P:Program}{N:Nat}{m:Sl}{Y:World->Prop}{ty:TypeId}
theorem Es{lo:Option Operand}{vl:Option Value}{n sz:Nat}(l:Nat)(hx:ev m x=some (.slice q n c))(el:RD m lo=some vl)(hl:vl=some (.int .i64 (l:Int)))(hT:GI P T=some e)(hs:ZZ P e=some (g,sz))(hln:l<=n)(hc:n<=c):
  Qt P N m Y (.slice T x lo none none) ty (.slice (if c=l then q else q.map λa=>a.add (l*sz)) (n-l) (c-l)):=λa w _ _ _ _ ha _=>by
 subst hl;have hlc:l<=c:=ak hln hc;have hrun:(fW T (.slice q n c) (some (.int .i64 (l:Int))) none none).run P w = .ok (.slice (if c=l then q else q.map λa=>a.add (l*sz)) (n-l) (c-l)) w:=by
  simp[fW,run_underlying (J2 hT),Instr.sliceBounds,Instr.sliceBound,asIntOf,hc,hln,hlc,Ym hs]
 simp[execOp,ha.ev hx,ha.RD el,Instr.sliceAt,run_underlying (J2 hT),hrun]
end
theorem JC.drop{n sz:Nat}(h:JC F q n sz cs)(hc:n<=c)(l:Nat):JC F (if c=l then q else q.map λa=>a.add (l*sz)) (n-l) sz (cs.drop (l*sz)):=by
 refine⟨by rw[ar,h.1,Nat.sub_mul],λh0=>?_⟩;obtain⟨b,off,arr,T,e1,e2,e3⟩:=h.2 O;subst e1;rw[if_neg O];refine⟨b,off+l*sz,arr,T,by rw[ba,WS],e2,λj u hu=>?_⟩;rw[Nat.add_assoc];rw[List.getElem?_drop]at hu;exact e3 _ u hu
def He(P:List Tm)(i:Nat)(k:List Int):Bool:=decide (i<P.length)&&decide ((el P i).2=k)
def Aw(P:List Tm)(i:Nat)(k:List Int):Nat:=if He P i k=true then i+1 else i
def zF(P:List Tm)(i:Nat)(t:Tm):Rat:=if He P i t.2=true then(el P i).1+t.1 else t.1
theorem yQ(t:Tm):∀ {P:List Tm} {i:Nat},i<=P.length->(∀x∈P.take i,before x.2 t.2=true)->(i<P.length->before (el P i).2 t.2=false) ->
  Xw P t=P.take i++(if zF P i t=0 then[]else[(zF P i t,t.2)])++P.drop (Aw P i t.2)
 |[],i,h,_,_=>by
  obtain rfl:i=0:=by simpa using h
  simp[Xw,zF,Aw,He]
 |y::P,0,_,_,h=>by
  have hb:before y.2 t.2=false:=h wv;have e1:el (y::P) 0=y:=rfl;unfold Xw zF Aw He;rw[e1,if_neg (by rw[hb];decide)];by_cases e:y.2=t.2
  ·simp[e];split<;>rfl
  simp[e];split<;>rfl
 |y::P,i+1,hi,h1,h2=>by
  have e1:el (y::P) (i+1)=el P i:=rfl;have ih:=yQ t (P:=P) (i:=i) (by simpa using hi) (λx hx=>h1 x (by simp[hx])) (λh=>by have:=h2 wy;rwa [e1]at this);have hb:=h1 y wv;have es:He (y::P) (i+1) t.2=He P i t.2:=by unfold He;rw[e1];simp
  have eS:zF (y::P) (i+1) t=zF P i t:=by unfold zF;rw[es,e1]
  have eJ:Aw (y::P) (i+1) t.2=Aw P i t.2+1:=by unfold Aw;rw[es];split<;>rfl
  rw[eS,eJ];show Xw (y::P) t=(y::P.take i)++_++(y::P).drop (Aw P i t.2+1);rw[aB];unfold Xw;rw[if_pos hb,ih];simp
def zr{l sz:Nat}(h:(if c=l then q else q.map λa=>a.add (l*sz))=none):q=none:=by
 split at h
 ·exact h
 simpa using h
def uk(P:List Tm):(Xj P).length=P.length:=by simp[Xj]
def MT{P:List Tm}(h:Ns ps=Xj P):ps.length=P.length:=by
 have:=congrArg fZ h
 rwa [xe,uk]at this
def RQ{P:List Tm}(h:Ns ps=Xj P){i:Nat}(hi:i<ps.length):(el ps i).f=Q8 (el P i).1/\(el ps i).k=(el P i).2:=by
 have hl:=MT h;have h1:(Ns ps)[i]?=(Xj P)[i]?:=by rw[h]
 unfold Ns Xj at h1;rw[fC,fC,aK hi,aK (show i<P.length by omega)]at h1;simp only[ba,bh,eG]at h1;rw[ZH hi,ZH (show i<P.length by omega)];exact h1
theorem Uk(r:Rat):(Q8 r==[48])=decide (r=0):=by
 rw[bO,beq_iff_eq,decide_eq_true_eq];constructor
 ·intro h;have e:Q8 (0:Rat)=[48]:=wm;have h1:=congrArg J4 (h.trans e.symm)
  rwa [Ix,Ix]at h1
 rintro rfl;decide +kernel
structure PlJ(ps:List GS)(P:List Tm)(k:List Int) where
 i:Nat
 v:Value
 ob:List (Nat×Obj)
 le:i<=ps.length
 hr:Q6 319 2 v i ((ps.take i).flatMap We) ob
 hb:∀x∈P.take i,before x.2 k=true
structure PlE(ps:List GS)(P:List Tm)(k:List Int) extends PlJ ps P k where
 stop:i<P.length->before (el P i).2 k=false
def kE{P:List Tm}(h:i<P.length)(hb:∀x∈P.take i,before x.2 k=true)(e:before (el P i).2 k=true):∀x∈P.take (i+1),before x.2 k=true:=by
 intro x hx;rw[ZB h]at hx;rcases List.mem_append.1 hx with hx | hx
 ·exact hb x hx
 rw[List.mem_singleton.1 hx];exact e
theorem LF{l:List GS}:∀v∈l.flatMap We,v.oneCell'=true:=by
 intro v hv;obtain⟨t,_,h⟩:=List.mem_flatMap.1 hv;exact TJ t v h
theorem Ah(l:List GS):(l.flatMap We).length=l.length*2:=by
 induction l with
 |nil=>rfl
 |cons t l ih=>rw[aQ,af,ih,aC,K3];omega
theorem qc(l:List GS)(j:Nat):(l.flatMap We).drop (j*2)=(l.drop j).flatMap We:=by
 induction l generalizing j with
 |nil=>simp
 |cons t l ih =>
  cases j with
  |zero=>simp
  |succ j =>
   rw[aB,<-ih j,aQ,show(j+1)*2=2+j*2 by omega,<-eM];rfl
def TI(a b:List GS):Ns (a++b)=Ns a++Ns b:=by simp[Ns]
def EL(a b:List Tm):Xj (a++b)=Xj a++Xj b:=by simp[Xj]
def QCb(a:List GS)(i:Nat):Ns (a.take i)=(Ns a).take i:=by simp[Ns]
def vH(a:List Tm)(i:Nat):Xj (a.take i)=(Xj a).take i:=by simp[Xj]
def QCc(a:List GS)(i:Nat):Ns (a.drop i)=(Ns a).drop i:=by simp[Ns]
def vI(a:List Tm)(i:Nat):Xj (a.drop i)=(Xj a).drop i:=by simp[Xj]
section
variable[Dr][df:Df]{P:Program}{Q:Exit->Act->World->Prop}{N:Nat}{m:Sl}{ops:Array Oper}{l:List Oper}{w0:World}{F0:Gs}{bs:List (Nat×Obj)}{G:Gs->Prop}{ty:TypeId}
theorem FK{u e2:TypeId}{x y:Value}(hx:∃b n c,x = .slice b n c)(ht:GI P t=some e)(hu:GI P u=some e2):(ey #[t,u] ty #[x,y]).run P w=(ey #[t,t] ty #[x,y]).run P w:=by
 obtain⟨b,n,c,rfl⟩:=hx;simp[ey,run_underlying (J2 ht),run_underlying (J2 hu)]
theorem Cq{d:Nat}{pos:String}{u e2:TypeId}{sz bytes n k:Nat}{X Y:Operand}{x y:Value}{olds news:List Value}{ob:List (Nat×Obj)}(hx:ev m X=some x)(hy:ev m Y=some y)(ht:GI P t=some e)(hu2:GI P u=some e2)(hs:ZZ P e=some (g,sz))(hz:Jw P e=some z)(hzl:z.length=sz)(hby:Zf P e=some bytes)
  (hr:Q6 e sz x n olds ob) (hs2:Src ⟨w0,F0,ob++bs,G⟩ sz y k news) (h63:n+k<=9223372036854775807) (h47:(n+k)*bytes<=140737488355328) (h1:∀v∈news,v.oneCell'=true)
  (kk:∀v' ob',Q6 e sz v' (n+k) (olds++news) ob'->JS P ops Q l N ((d,v')::m) ⟨w0,F0,ob'++bs,G⟩) (hu:GX e=true:=by rfl) (hd:J1 N (some d)=true:=by rfl) :
  JS P ops Q (⟨some d,.call ⟨.builtin .append,#[X,Y],#[t,u]⟩,ty,pos,aft,none⟩::l) N m ⟨w0,F0,ob++bs,G⟩:=λa w ha hw =>
 wpList_plain rfl λK hK=>by
  have hxs:∃b n c,x = .slice b n c:=by
   cases hr
   ·exact⟨_,_,_,rfl⟩
   exact⟨_,_,_,rfl⟩
  obtain⟨v',ob',w',h2,h3,h4⟩:=WL (ty:=ty) ht hs hz hzl hby hr hs2 hw h63 h47 h1 hu;refine upon_value (w':=w') (v:=v') ?_ (hK _ _ (kk v' ob' h3 _ w' (ha.put hd v') h4));rw[Zl];simp[builtin,ha.ev hx,ha.ev hy,FK hxs ht hu2,h2]
end
def Vl.AN{ts:List GS}{L:List Tm}(h:Vl F s ts (Xj L)):s.n=L.length:=by
 rw[<-h.2.2.2.2];exact MT h.2.2.1
def gE{L:List Tm}(h:i<L.length):XO (L.take (i+1))=Xw (XO (L.take i)) (el L i):=by
 rw[ZB h];unfold XO;rw[er];rfl
structure NoJ(n:Nat) where
 i:Nat
 c:VW
 le:i<=n
structure OtJ(g:List Tm->List Tm)(L:List Tm) where
 i:Nat
 v:Value
 ob:List (Nat×Obj)
 out:List GS
 le:i<=L.length
 hr:Q6 319 2 v out.length (out.flatMap We) ob
 ho:Ns out=Xj (g (L.take i))
 hl:out.length<=i
def Bn(y:Rat)(l:List Tm):List Tm:=l.map λt=>(y*t.1,t.2)
def uo{L:List Tm}(h:i<L.length):Bn y (L.take (i+1))=Bn y (L.take i)++[(y*(el L i).1,(el L i).2)]:=by
 rw[ZB h];unfold Bn;rw[bL];rfl
def qg{v:Nat}{L:List Tm}(h:i<L.length):Gc v (L.take (i+1))=Gc v (L.take i)++Il v (el L i):=by
 rw[ZB h];unfold Gc;rw[au];simp
def qZ(o:List GS)(t:GS):o.flatMap We++We t=(o++[t]).flatMap We:=by rw[au];simp
theorem WK.snoc{o:List GS}{t:GS}(h:WK F o)(k:JJ F t.r t.k):WK F (o++[t]):=λx hx=>by
 rcases List.mem_append.1 hx with hx | hx
 ·exact h x hx
 rw[List.mem_singleton.1 hx];exact k
structure MlO(n:Nat) where
 i:Nat
 c:VW
 le:i<=n
def RR{s:Tm}{B:List Tm}{k:Nat}(h:k<B.length):ZU s (B.take (k+1))=ZU s (B.take k)++[(s.1*(el B k).1,Yg s.2 (el B k).2)]:=by
 rw[ZB h];unfold ZU;rw[bL];rfl
def Q6.JW{sz n:Nat}{v:Value}{ob:List (Nat×Obj)}(h:Q6 T sz v n cs ob):∃q c,v = .slice q n c:=by
 cases h<;>exact⟨_,_,rfl⟩
def gD(L:List Tm)(t:Tm):XO (L++[t])=Xw (XO L) t:=by unfold XO;rw[er];rfl
def qP{A B:List Tm}(h:i<A.length):Xo (A.take (i+1)) B=Xo (A.take i) B++ZU (el A i) B:=by
 rw[ZB h,PM];congr 1;simp[Xo]
theorem qQ{A B:List Tm}(k:Nat)(h:i<A.length):∃l,Xo A B=(Xo (A.take i) B++ZU (el A i) (B.take k))++l:=by
 refine⟨ZU (el A i) (B.drop k)++Xo (A.drop (i+1)) B,?_⟩;have e:A=A.take (i+1)++A.drop (i+1):=(aF _ _).symm;have e2:ZU (el A i) B=ZU (el A i) (B.take k)++ZU (el A i) (B.drop k):=by
  rw[<-TR,aF]
 conv=>lhs;rw[e,PM,qP h,e2]
 simp only[bD]
def Sz(L:List Tm):Prop:=(∀l m,L=l++m->∀t∈XO l,Zv t.1<=90000)/\∀t∈L,Zv t.1<=90000
theorem yB{n:Nat}{r:Sr}{P:List Tm}(hF:Fits F w)(hR:JC F q n 2 (ps.flatMap We))(hA:WK F ps)(hn:ps.length=n)(hcap:n<=cap)(hK:JJ F r k)(hP:Ns ps=Xj P)(hz:∀t∈P,Zv t.1<=100000)(hy:Zv y<=100000)(hw:∀t∈P,t.2.length=k.length/\PW t.2)(hk:PW k)(hl:n<=1000000000):
  QS prog 272 [.slice q n cap,.agg #[tx (Q8 y),.slice r.q r.n r.cap]] w F (λ(c:VW)=>c.1.v) (λc F=>Vl F c.1 c.2 (Xj (Xw P (y,k)))):=by
 have hPl:=MT hP;have hRJ0:=hR.AF;have hk0:=hK.1.AF;have hkl:=hK.2.1;have hk2:=hk.2;refine QS.go (G:=λF=>JC F q n 2 (ps.flatMap We)/\WK F ps/\JJ F r k) func272 hF ⟨hR,hA,hK⟩ ?_;refine QLF<|Q9 I (vs:=[_,_]) I λb3=>wR I<|QG<|JN (b:=b3) .here<|QMX 9 I ?_
 refine EK (ι:=PlE ps P k) [(0,_),(3,_)] (λx=>[(5,x.v),(6,.int .i64 ((x.i:Nat):Int))]) (λx=>x.ob) (λx F=>True) wU ?_ ?_
 ·refine QQ<|XC (ι:=PlJ ps P k) [(0,_),(3,_)] (λi=>[(5,i.v),(6,.int .i64 ((i.i:Nat):Int))]) (λi=>i.ob) (λi F=>True) (λi=>ps.length-i.i) (⟨0,_,[],aj _,.nil,wv⟩) wU wU QKK wz λi=>?_
  have hi:=i.le;refine QG<|QG<|JE QKK mixed wj<|QJ (QC I)<|QJ (QC I)<|QJ (Qc I ZF)<|QJ (QP I I I)<|QJ (QC I) ?_
  refine KH (t:=12) rfl (λhb12=>?_) λhb12=>?_
  ·have hlt:i.i<ps.length:=wi<|QLr hb12
   have htm:=Q2 hlt;obtain⟨ef,ek⟩:=RQ hP hlt;have hPm:=Q2 (show i.i<P.length by omega);obtain⟨hwl,hwp⟩:=hw _ hPm;refine JA I I<|QJ (QC I)<|JA I I<|QJ (QC I)<|JA I I<|QJ (Qo (n:=n) i.i (λF h9=>h9.1.1.1) rfl rfl ZF ZN O)<|JA I I<|QJ (QH I Gi Qu)<|JA I I<|QJ (Ql (n:=n) ((i.i)*2+1) (λF h9=>h9.1.1.1) O rfl Qu (JR (f:=We) (l:=ps) K3 O rfl))<|JA I I<|QJ (QH I Gi Qu)<|JA I I<|QJ (Ql (n:=1) ((0)*2+1) (λF h9=>(JC.of (n:=1) (sz:=2) h9.1.2 I)) O rfl Qu I)<|JA I I<|QZ I (λ_ _ f k=>qM f (k.1.1.2.1 _ htm) k.1.1.2.2 (by rw[ek];exact hwp) hk (by rw[ek];exact hwl)) λ_=>?_
   rw[ek];refine QJ (QR I I I)<|Qy<|QD ?_
   refine QO I (λhc=>?_) λhc=>?_
   ·refine QMX 8 I<|QA (Qo (n:=n) i.i (λF h9=>h9.1.1.1.1) rfl rfl ZF ZN O)<|QA (XE (n:=n) (vs:=[tx (el ps i.i).f,.slice (el ps i.i).r.q (el ps i.i).r.n (el ps i.i).r.cap]) ((i.i)*2) (λF h9=>h9.1.1.1.1) O rfl ZN I λj v hv=>JR (f:=We) (l:=ps) K3 O hv)<|JG I (J2 ZF) ZN Wf I I λb27=>?_
    refine Yi (bs1:=[]) (ob:=i.ob) (n:=i.i) (k:=1) (sz:=2) (news:=We (el ps i.i)) I I ZF ZN Wf I Pz i.hr (Src.row (off:=0) w9 (λj v hv=>by rw[ae];show((We (el ps i.i)).toArray)[j]?=some v;rw[aG];exact hv) rfl) O O (TJ _) (λv28 ob28 hr28=>?_);rw[show(ps.take i.i).flatMap We++We (el ps i.i)=(ps.take (i.i+1)).flatMap We from by rw[ZB hlt,au];simp]at hr28;refine QMW 5 I<|QA (Qn I I O)<|wB 2 I<|Qg ?_
    exact Qj (⟨i.i+1,v28,ob28,hlt,hr28,kE O i.hb hc⟩) (by show ps.length-(i.i+1)<ps.length-i.i;omega) wW QKK λF h=>⟨h.1.1.1,trivial⟩
   refine Yh ?_
   repeat first|refine Jy ?_|refine Jp wu ?_
   refine Jz ?_;exact ZP (⟨i,λ_=>hc⟩) wW QKK λF ⟨⟨⟨⟨hR,hA,hK⟩,hz3⟩,_⟩,_⟩=>⟨⟨⟨hR,hA,hK⟩,hz3⟩,trivial⟩
  have hge:i.i=ps.length:=wi<|QLs hb12
  refine Q7 I I I<|Q7 I I I<|Q7 I I I<|Q7 I I I<|Q7 I I I<|Q7 I I I<|Q7 I I I<|Q7 I I I<|QJ (QT I I I)<|Qy<|QD<|Zg I<|Yh ?_
  repeat first|refine Jy ?_|refine Jp wu ?_
  refine Jz ?_;exact ZP (⟨i,λh=>absurd h O⟩) wW QKK λF ⟨⟨⟨hR,hA,hK⟩,hz3⟩,_⟩=>⟨⟨⟨hR,hA,hK⟩,hz3⟩,trivial⟩
 intro x;have hi:=x.le;refine QLF<|QA (QH I Dp Ja)<|QA (Ql (n:=1) ((0)*2+0) (λF h9=>(JC.of (n:=1) (sz:=2) h9.1.2 I)) O rfl Ja I)<|QMW 3 I ?_
 refine Xq [(0,_),(3,_),(5,_)] [(6,.int .i64 (((Aw P x.i k):Nat):Int)),(7,tx (Q8 (zF P x.i (y,k))))] wV ?_ ?_
 ·refine QG<|JE QKK mixed wj<|QJ (QC I)<|QJ (QC I)<|QJ (Qc I ZF)<|QJ (QP I I I)<|QJ (QC I) ?_
  refine KH (t:=37) rfl (λhb37=>?_) λhb37=>?_
  ·have hlt:x.i<ps.length:=wi<|QLr hb37
   have htm:=Q2 hlt;obtain⟨ef,ek⟩:=RQ hP hlt;have hPm:=Q2 (show x.i<P.length by omega);obtain⟨hwl,hwp⟩:=hw _ hPm;refine JA I I<|QJ (QC I)<|JA I I<|QJ (QC I)<|JA I I<|QJ (Qo (n:=n) (x.i) (λF h9=>h9.1.1.1) rfl rfl ZF ZN O)<|JA I I<|QJ (QH I Gi Qu)<|JA I I<|QJ (Ql (n:=n) ((x.i)*2+1) (λF h9=>h9.1.1.1) O rfl Qu (JR (f:=We) (l:=ps) K3 O rfl))<|JA I I<|QJ (QH I Gi Qu)<|JA I I<|QJ (Ql (n:=1) ((0)*2+1) (λF h9=>(JC.of (n:=1) (sz:=2) h9.1.2 I)) O rfl Qu I)<|JA I I<|QZ I (λ_ _ f k=>IP f (k.1.1.2.1 _ htm) k.1.1.2.2 (by rw[ek];have:=hwp.2;omega)) λ_=>?_
   rw[ek];refine QJ (QR I I I)<|Qy<|QD ?_
   refine QO I (λhc=>?_) λhc=>?_
   ·refine QG<|JE QKK mixed wj<|QJ (QC I)<|QJ (QC I)<|QJ (Qo (n:=n) (x.i) (λF h9=>h9.1.1.1.1) rfl rfl ZF ZN O)<|QJ (QH I Dp Ja)<|QJ (Ql (n:=n) ((x.i)*2+0) (λF h9=>h9.1.1.1.1) O rfl Ja (JR (f:=We) (l:=ps) K3 O rfl))<|QJ (QH I Dp Ja)<|QJ (Ql (n:=1) ((0)*2+0) (λF h9=>(JC.of (n:=1) (sz:=2) h9.1.1.2 I)) O rfl Ja I) ?_
    rw[ef];refine QZ I (λ_ _ f k=>OI f (hz _ hPm) hy) (λ_=>QJ (QE I)<|Qy<|QMY 3 I<|QA (Qn I I O)<|wB 2 I ?_);have hs:He P x.i k=true:=by unfold He;rw[hc,decide_eq_true (show x.i<P.length by omega)];rfl
    exact Jc ⟨rfl,rfl,rfl,(congrArg (λz:Int=>some (aa .i64 z)) (by unfold Aw;rw[if_pos hs];omega)),(congrArg (λr:Rat=>some (tx (Q8 r))) (by unfold zF;rw[if_pos hs])),trivial⟩ QKK λ_ h=>h.1.1
   refine QN ?_;have hs:¬He P x.i k=true:=by unfold He;rw[hc,fN];decide
   exact Jc ⟨rfl,rfl,rfl,(congrArg (λz:Nat=>some (aa .i64 (z:Int))) (by unfold Aw;rw[if_neg hs])),(congrArg (λr:Rat=>some (tx (Q8 r))) (by unfold zF;rw[if_neg hs])),trivial⟩ QKK w8
  have hge:x.i=ps.length:=wi<|QLs hb37
  refine Q7 I I I<|Q7 I I I<|Q7 I I I<|Q7 I I I<|Q7 I I I<|Q7 I I I<|Q7 I I I<|Q7 I I I<|QJ (QT I I I)<|Qy<|QD<|Zg I<|QN ?_
  have hs:¬He P x.i k=true:=by unfold He;rw[decide_eq_false (show ¬x.i<P.length by omega),Bool.false_and];decide
  exact Jc ⟨rfl,rfl,rfl,(congrArg (λz:Nat=>some (aa .i64 (z:Int))) (by unfold Aw;rw[if_neg hs])),(congrArg (λr:Rat=>some (tx (Q8 r))) (by unfold zF;rw[if_neg hs])),trivial⟩ QKK w7
 have hJ:x.i<=(Aw P x.i k)/\(Aw P x.i k)<=n:=by
  unfold Aw;split
  ·rename_i hs;unfold He at hs;rw[ax,decide_eq_true_eq]at hs;omega
  omega
 have hpl:=yQ (y,k) (P:=P) (i:=x.i) O x.hb x.stop;have hat:Ns (ps.take x.i)=Xj (P.take x.i):=by rw[QCb,hP,vH]
 have hdr:Ns (ps.drop (Aw P x.i k))=Xj (P.drop (Aw P x.i k)):=by rw[QCc,hP,vI]
 have htl:(ps.take x.i).length=x.i:=by rw[aY];omega
 refine wA 4 I<|QL I (λ_ _ f k=>I1 f) λ_=>QA (Xv I)<|QF<|QD ?_
 refine QO I (λhc=>?_) λhc=>?_
 ·have hs0:(zF P x.i (y,k))≠0:=by rw[Uk]at hc;simpa using hc
  refine wA 3 I<|Ky (J2 Qd) QY λb62=>QA (QH I Gi Qu)<|QA (Ql (n:=1) ((0)*2+1) (λF h9=>(JC.of (n:=1) (sz:=2) h9.1.1.2 I)) O rfl Qu I)<|KZ (bs':=x.ob++[(b62,.cells ([]++[]:List Value).toArray 3 (0,0))]) (fb (l₁:=[_]))<|Yi (ob:=[(b62,.cells ([]++[]:List Value).toArray 3 (0,0))]) (n:=0) (k:=r.n) (sz:=1) (news:=k.map Qs) rfl rfl Qd QY HZ I WR (.some rfl rfl (aq _) wk) (Src.Cz hk0 (λF h9=>h9.1.1.1.2.2.1) (by simp[hkl])) O O (LA k) λv65 ob65 hr65=>?_
  rw[ae,bK]at hr65;obtain⟨r65,hv65,hn65,hc65,hfix65⟩:=Q6.fix (w0:=w) (F0:=F) (bs1:=x.ob) (G:=_) hr65;refine H5 hfix65 ?_;rw[hv65];dsimp only[Sr.v];refine QA (ZT I Ry Wf (wQ I I I))<|JG I (J2 ZF) ZN Wf I I λb67=>?_
  refine Yi (bs1:=[]) (ob:=x.ob) (n:=x.i) (k:=1) (sz:=2) (news:=We (⟨Q8 (zF P x.i (y,k)),r65,k⟩:GS)) I I ZF ZN Wf I Pz x.hr (Src.row (off:=0) w9 (λj v hv=>by rw[ae];show((We (⟨Q8 (zF P x.i (y,k)),r65,k⟩:GS)).toArray)[j]?=some v;rw[aG];exact hv) rfl) O O (TJ _) (λv68 ob68 hr68=>?_);refine QMW 8 I<|QA (Es (Aw P x.i k) rfl rfl rfl ZF ZN hJ.2 hcap)<|Yi (bs1:=[]) (ob:=ob68) (n:=(x.i+1)) (k:=n-(Aw P x.i k)) (sz:=2) (news:=(ps.drop (Aw P x.i k)).flatMap We) rfl rfl ZF ZN Wf I Pz hr68 (Src.Cz (λe=>wi<|hRJ0 (zr e)) (λF h9=>by have:=h9.1.1.1.1.1.1.drop hcap (Aw P x.i k);rwa [qc]at this) (by rw[Ah,ar,hn])) O O LF λv73 ob73 hr73=>?_
  obtain⟨rr,hv73,hrn,hrc,hfix⟩:=Q6.fix (w0:=w) (F0:=F) (bs1:=[]) (G:=_) hr73;refine H5 hfix ?_;rw[hv73];refine wR I<|QU ?_
  exact QM ((rr,(ps.take x.i++[(⟨Q8 (zF P x.i (y,k)),r65,k⟩:GS)]++ps.drop (Aw P x.i k)))) I (wO I) (rfl) (λF ⟨⟨⟨⟨⟨⟨⟨hR,hA,hK⟩,hz3⟩,_⟩,_⟩,hrow65⟩,hs67⟩,hrow⟩=>⟨by rw[hrn];rw[show(ps.take x.i).flatMap We++We (⟨Q8 (zF P x.i (y,k)),r65,k⟩:GS)++(ps.drop (Aw P x.i k)).flatMap We=(ps.take x.i++[(⟨Q8 (zF P x.i (y,k)),r65,k⟩:GS)]++ps.drop (Aw P x.i k)).flatMap We from by rw[au,au];simp]at hrow;exact hrow,
 λt ht=>by
  rcases List.mem_append.1 ht with ht | ht
  ·rcases List.mem_append.1 ht with ht | ht
   ·exact hA t (bg ht)
   rw[List.mem_singleton.1 ht];exact⟨by rw[hn65];exact hrow65,by rw[hn65];exact hkl,by rw[hn65];exact hc65⟩
  exact hA t (aR ht),
 by rw[hpl,if_neg hs0,TI,TI,EL,EL,hat,hdr];rfl,by rw[hrn];exact hrc,by rw[hrn,af,af,htl,ar,hn];rfl⟩)
 ·have hs0:(zF P x.i (y,k))=0:=by rw[Uk]at hc;simpa using hc
  refine QMX 7 I<|QA (Es (Aw P x.i k) rfl rfl rfl ZF ZN hJ.2 hcap)<|Yi (bs1:=[]) (ob:=x.ob) (n:=x.i) (k:=n-(Aw P x.i k)) (sz:=2) (news:=(ps.drop (Aw P x.i k)).flatMap We) rfl rfl ZF ZN Wf I Pz x.hr (Src.Cz (λe=>wi<|hRJ0 (zr e)) (λF h9=>by have:=h9.1.1.1.1.drop hcap (Aw P x.i k);rwa [qc]at this) (by rw[Ah,ar,hn])) O O LF λv73 ob73 hr73=>?_
  obtain⟨rr,hv73,hrn,hrc,hfix⟩:=Q6.fix (w0:=w) (F0:=F) (bs1:=[]) (G:=_) hr73;refine H5 hfix ?_;rw[hv73];refine wR I<|QU ?_
  exact QM ((rr,(ps.take x.i++ps.drop (Aw P x.i k)))) I (wO I) (rfl) (λF ⟨⟨⟨⟨⟨hR,hA,hK⟩,hz3⟩,_⟩,_⟩,hrow⟩=>⟨by rw[hrn];rw[<-au]at hrow;exact hrow,
 λt ht=>by
  rcases List.mem_append.1 ht with ht | ht
  ·exact hA t (bg ht)
  exact hA t (aR ht),
 by rw[hpl,if_pos hs0,TI,ao,EL,hat,hdr],by rw[hrn];exact hrc,by rw[hrn,af,htl,ar,hn]⟩)
theorem L9{n:Nat}{ts:List GS}{L:List Tm}(hF:Fits F w)(hR:JC F q n 2 (ts.flatMap We))(hA:WK F ts)(hn:ts.length=n)(hT:Ns ts=Xj L)(hw:∀t∈L,t.2.length=N/\PW t.2)(hz:Sz L)(hl:n<=900000000):
  QS prog 270 [.slice q n cap] w F (λ(c:VW)=>c.1.v) (λc F=>Vl F c.1 c.2 (Xj (XO L))):=by
 have hLl:=MT hT;refine QS.go (G:=λF=>JC F q n 2 (ts.flatMap We)/\WK F ts) func270 hF ⟨hR,hA⟩ ?_;refine QLF<|wR rfl<|QLF<|wR rfl<|QG<|QLF<|wR rfl<|QQ<|XC (ι:=NoJ n) [(0,_)] (λi=>[(3,i.c.1.v),(4,.int .i64 ((i.i:Nat):Int))]) (λi=>[]) (λi F=>Vl F i.c.1 i.c.2 (Xj (XO (L.take i.i)))) (λi=>n-i.i) (⟨0,(⟨none,0,0⟩,[]),aj _⟩) wT wU QKK (λF _=>⟨JC.nil F none 2,λ_ h=>(by cases h),rfl,aq _,rfl⟩) λi=>?_
 have hi:=i.le;refine wA 5 I<|QA (Qc I Mh)<|QMW 3 I ?_
 refine QO I (λhc=>?_) λhc=>?_
 ·have hlt:i.i<n:=wi<|QLr hc
  have htm:=Q2 (show i.i<ts.length by omega);obtain⟨ef,ek⟩:=RQ hT (show i.i<ts.length by omega);have hLm:=Q2 (show i.i<L.length by omega);obtain⟨hwl,hwp⟩:=hw _ hLm;have hnl:=Fm (L.take i.i);rw[aY]at hnl;refine QMX 8 I<|QA (Qo (n:=n) i.i (λF h9=>h9.1.1) rfl rfl Mh ZN O)<|QA (XE (n:=n) (vs:=[tx (el ts i.i).f,.slice (el ts i.i).r.q (el ts i.i).r.n (el ts i.i).r.cap]) ((i.i)*2) (λF h9=>h9.1.1) O rfl ZN I λj v hv=>JR (f:=We) (l:=ts) K3 O hv) ?_
  rw[ef];refine QL I (λw F hF ⟨⟨hR,hA⟩,hC⟩=>yB (k:=(el L i.i).2) hF hC.1 hC.2.1 hC.2.2.2.2 hC.2.2.2.1 (by rw[<-ek];exact hA _ htm) hC.2.2.1 (λt ht=>ak (hz.1 _ _ (aF _ _).symm t ht) wk) (ak (hz.2 _ hLm) wk)
   (λt ht=>by obtain⟨y,hy,e⟩:=EO ht;rw[<-e,hwl];exact hw y (bg hy)) hwp (by rw[hC.AN];omega)) λc16=>?_
  refine wB 2 I<|Qg<|QMY 3 I<|QA (Qn I I O)<|wB 2 I ?_
  exact Qj (⟨i.i+1,c16,hlt⟩) (by show n-(i.i+1)<n-i.i;omega) wV QKK λF h=>⟨h.1.1,by rw[gE O];exact h.2⟩
 have hge:i.i=n:=wi<|QLs hc
 refine JK ?_;refine wA 7 I ?_;exact QM (i.c) rfl (wO I) (rfl) λF h9=>by have h:=h9.2;rwa [hge,show L.take n=L from ai O]at h
theorem pR{n n2 cap2:Nat}{qs:List GS}{A B:List Tm}(hF:Fits F w)(hA:JC F q n 2 (ps.flatMap We))(hAs:WK F ps)(hna:ps.length=n)(hTa:Ns ps=Xj A)(hB:JC F q2 n2 2 (qs.flatMap We))(hBs:WK F qs)(hnb:qs.length=n2)(hTb:Ns qs=Xj B)
  (hw:∀t∈A++B,t.2.length=N/\PW t.2) (hz:Sz (A++B)) (hl:n<=400000000/\n2<=400000000) :
  QS prog 182 [.slice q n cap,.slice q2 n2 cap2] w F (λ(c:VW)=>c.1.v) (λc F=>Vl F c.1 c.2 (Xj (XO (A++B)))):=by
 have hA0:=hA.AF;have hB0:=hB.AF;refine QS.go (G:=λF=>JC F q n 2 (ps.flatMap We)/\WK F ps/\JC F q2 n2 2 (qs.flatMap We)/\WK F qs) func182 hF ⟨hA,hAs,hB,hBs⟩ ?_;refine wA 7 I<|Ky (J2 Mh) ZN λb5=>QJm I<|Cq (ob:=[(b5,.cells ([]++[]:List Value).toArray 319 (0,0))]) (n:=0) (k:=n) (sz:=2) (news:=ps.flatMap We) rfl rfl Mh ZF ZN Wf I Pz (.some rfl rfl (aq _) wk) (Src.Cz hA0 w8 (by rw[Ah];omega)) O O LF λv7 ob7 hr7=>?_
 rw[ae,bK]at hr7;refine QJm I<|Cq (ob:=ob7) (n:=n) (k:=n2) (sz:=2) (news:=qs.flatMap We) rfl rfl Mh ZF ZN Wf I Pz hr7 (Src.Cz hB0 (λF h9=>h9.2.2.1) (by rw[Ah];omega)) O O LF λv9 ob9 hr9=>?_
 rw[ao,<-ao ob9];obtain⟨r,hv,hrn,hrc,hfix⟩:=Q6.fix (w0:=w) (F0:=F) (bs1:=[]) (G:=_) hr9;rw[ao];refine H5 hfix ?_;rw[hv];refine QL I (λw F hF ⟨⟨hA,hAs,hB,hBs⟩,hrow⟩=>L9 (N:=N) (ts:=ps++qs) (L:=A++B) hF (by rw[<-au]at hrow;rw[hrn];exact hrow) (λt ht=>by
  rcases List.mem_append.1 ht with ht | ht
  ·exact hAs t ht
  exact hBs t ht) (by rw[af,hrn];omega) (by rw[TI,EL,hTa,hTb]) hw hz O) λc10=>?_
 refine wR I<|QU ?_
 exact QM (c10) rfl (wO I) (rfl) w9
theorem qF{n:Nat}{L:List Tm}(hF:Fits F w)(hR:JC F q n 2 (ps.flatMap We))(hA:WK F ps)(hn:ps.length=n)(hT:Ns ps=Xj L)(hy:Zv y<=100000)(hsz:∀t∈L,Zv t.1<=100000)(hw:∀t∈Bn y L,t.2.length=N/\PW t.2)(hz:Sz (Bn y L))(hl:n<=400000000):
  QS prog 183 [tx (Q8 y),.slice q n cap] w F (λ(c:VW)=>c.1.v) (λc F=>Vl F c.1 c.2 (Xj (XO (Bn y L)))):=by
 have hLl:=MT hT;refine QS.go (G:=λF=>JC F q n 2 (ps.flatMap We)/\WK F ps) func183 hF ⟨hR,hA⟩ ?_;refine QLF<|wR rfl<|QLF<|wR rfl<|QG<|QLF<|wR rfl<|QQ<|XC (ι:=OtJ (Bn y) L) [(0,_),(1,_)] (λi=>[(5,i.v),(6,.int .i64 ((i.i:Nat):Int))]) (λi=>i.ob) (λi F=>WK F i.out) (λi=>L.length-i.i) (⟨0,_,[],[],aj _,.nil,rfl,aq _⟩) wU wU QKK (λ_ _ _ h=>by cases h) λi=>?_
 have hi:=i.le;refine wA 5 I<|QA (Qc I ZF)<|QMW 3 I ?_
 refine QO I (λhc=>?_) λhc=>?_
 ·have hlt:i.i<L.length:=wi<|QLr hc
  have hlp:i.i<ps.length:=O;have htm:=Q2 hlp;obtain⟨ef,ek⟩:=RQ hT hlp;have hLm:=Q2 hlt;have hil:=i.hl;refine QMX 4 I<|JE tB mixed wj<|QJ (QC I)<|QJ (QC I)<|QJ (QC I)<|QJ (QC I)<|QJ (Qo (n:=n) i.i (λF h9=>h9.1.1) rfl rfl ZF ZN O)<|QJ (QH I Dp Ja)<|QJ (Ql (n:=n) ((i.i)*2+0) (λF h9=>h9.1.1) O rfl Ja (JR (f:=We) (l:=ps) K3 O rfl)) ?_
  rw[ef];refine QZ I (λ_ _ f k=>Th f hy (hsz _ hLm)) (λ_=>QJ (QC I)<|QJ (QC I)<|QJ (Qo (n:=n) i.i (λF h9=>h9.1.1) rfl rfl ZF ZN O)<|QJ (QH I Gi Qu)<|QJ (Ql (n:=n) ((i.i)*2+1) (λF h9=>h9.1.1) O rfl Qu (JR (f:=We) (l:=ps) K3 O rfl))<|QJ (ZT I Ry Wf (wQ I I I)) ?_);refine XU I (J2 Mh) ZN Wf I I (λb27=>?_) (λw h=>h.imp tB w8);rw[<-ao i.ob];refine BW (ob:=i.ob) (n:=i.out.length) (k:=1) (sz:=2) (news:=We (⟨Q8 (y*(el L i.i).1),(el ps i.i).r,(el ps i.i).k⟩:GS)) I I Mh ZN Wf I Pz i.hr (Src.row (off:=0) w9 (λj u hu=>by rw[ae];show((We (⟨Q8 (y*(el L i.i).1),(el ps i.i).r,(el ps i.i).k⟩:GS)).toArray)[j]?=some u;rw[aG];exact hu) rfl) O O (TJ _) QKK (λ_ h=>h.1.1) (λv28 ob28 hr28=>?_);rw[qZ]at hr28;refine QJ (QE I)<|Qy<|Qg<|QMY 3 I<|QA (Qn I I O)<|wB 2 I ?_
  exact Qj (⟨i.i+1,v28,ob28,i.out++[(⟨Q8 (y*(el L i.i).1),(el ps i.i).r,(el ps i.i).k⟩:GS)],hlt,by rw[af];exact hr28,by rw[TI,i.ho,uo hlt,EL];show _++[(Q8 (y*(el L i.i).1),(el ps i.i).k)]=_;rw[ek];rfl,by rw[af];simp;omega⟩) (by show L.length-(i.i+1)<L.length-i.i;omega) wW (by rw[ao];exact bQ _) λF ⟨⟨⟨⟨hR,hA⟩,hO⟩,_⟩,hs27⟩=>⟨⟨hR,hA⟩,hO.snoc (show JJ F (el ps i.i).r (el ps i.i).k from hA _ htm)⟩
 have hge:i.i=L.length:=wi<|QLs hc
 have hil:=i.hl;refine JK ?_;refine QG<|QB ?_
 obtain⟨r,hv,hrn,hrc,hfix⟩:=Q6.fix (w0:=w) (F0:=F) (bs1:=[]) (G:=_) i.hr;refine H5 hfix ?_;rw[hv];refine QJm I<|QL I (λ_ _ f k=>L9 (N:=N) (ts:=i.out) (L:=Bn y L) f (by rw[hrn];exact k.2) k.1.2 hrn.symm (by have h:=i.ho;rwa [hge,bF]at h) hw hz O) λc30=>wR I<|QU ?_
 exact QM (c30) rfl (wO I) (rfl) w9
theorem OE{n v:Nat}{L:List Tm}(hF:Fits F w)(hR:JC F q n 2 (ps.flatMap We))(hA:WK F ps)(hn:ps.length=n)(hT:Ns ps=Xj L)(hv:v<N)(hw0:∀t∈L,t.2.length=N/\PW t.2)(hsz:∀t∈L,Zv t.1<=90000)(hw:∀t∈Gc v L,t.2.length=N/\PW t.2)(hz:Sz (Gc v L))(hl:n<=400000000):
  QS prog 273 [.slice q n cap,.int .i64 (v:Nat)] w F (λ(c:VW)=>c.1.v) (λc F=>Vl F c.1 c.2 (Xj (XO (Gc v L)))):=by
 have hLl:=MT hT;refine QS.go (G:=λF=>JC F q n 2 (ps.flatMap We)/\WK F ps) func273 hF ⟨hR,hA⟩ ?_;refine QLF<|wR rfl<|QLF<|wR rfl<|QG<|QLF<|wR rfl<|QQ<|XC (ι:=OtJ (Gc v) L) [(0,_),(1,_)] (λi=>[(5,i.v),(6,.int .i64 ((i.i:Nat):Int))]) (λi=>i.ob) (λi F=>WK F i.out) (λi=>L.length-i.i) (⟨0,_,[],[],aj _,.nil,rfl,aq _⟩) wU wU QKK (λ_ _ _ h=>by cases h) λi=>?_
 have hi:=i.le;refine wA 5 I<|QA (Qc I ZF)<|QMW 3 I ?_
 refine QO I (λhc=>?_) λhc=>?_
 ·have hlt:i.i<L.length:=wi<|QLr hc
  have hlp:i.i<ps.length:=O;have htm:=Q2 hlp;obtain⟨ef,ek⟩:=RQ hT hlp;have hLm:=Q2 hlt;have hil:=i.hl;obtain⟨hwl,hwp⟩:=hw0 _ hLm;have hkn:=(hA _ htm).2.1;have hkl:(el ps i.i).k.length=N:=by rw[ek];exact hwl
  have hvn:v<(el ps i.i).r.n:=O;have hk1:=hwp.2;have hdb:0<=Qb (el ps i.i).k v/\Qb (el ps i.i).k v<=1000000:=by rw[ek];exact hwp.el O
  have hk0:=(hA _ htm).1.AF;refine QMX 8 I<|QA (Qo (n:=n) i.i (λF h9=>h9.1.1) rfl rfl ZF ZN O)<|QA (QH I Gi Qu)<|QA (Ql (n:=n) ((i.i)*2+1) (λF h9=>h9.1.1) O rfl Qu (JR (f:=We) (l:=ps) K3 O rfl))<|QJm I<|QA (Qo (n:=(el ps i.i).r.n) (v) (λF h9=>((h9.1.2 _ htm)).1) rfl rfl Qd QY O)<|QA (Ql (n:=(el ps i.i).r.n) ((v)*1) (λF h9=>((h9.1.2 _ htm)).1) O rfl QY (JP (o:=(el ps i.i).k) O))<|QMW 9 I ?_
  refine QO I (λhc=>?_) λhc=>?_
  ·have hkp:=QLr hc;refine QLF<|Ky (J2 Qd) QY λb25=>wB 2 I<|QA (Qo (n:=n) i.i (λF h9=>h9.1.1) rfl rfl ZF ZN O)<|QA (QH I Gi Qu)<|QA (Ql (n:=n) ((i.i)*2+1) (λF h9=>h9.1.1) O rfl Qu (JR (f:=We) (l:=ps) K3 O rfl))<|KZ (bs':=i.ob++[(b25,.cells ([]++[]:List Value).toArray 3 (0,0))]) (fb (l₁:=[_]))<|Yi (ob:=[(b25,.cells ([]++[]:List Value).toArray 3 (0,0))]) (n:=0) (k:=(el ps i.i).r.n) (sz:=1) (news:=(el ps i.i).k.map Qs) rfl rfl Qd QY HZ I WR (.some rfl rfl (aq _) wk) (Src.Cz hk0 (λF h9=>(h9.1.2 _ htm).1) (by simp[hkn])) O O (LA _) λv31 ob31 hr31=>?_
   rw[ae,bK]at hr31;obtain⟨bb,cap3,rest,rfl,rfl,e1,e2,e3,e4⟩:=Q6.pos hr31 O;refine QMW 8 I<|QA (Jg I I O)<|QA (Qm (i:=v) rfl rfl Qd QY O)<|QV (vs:=[_]) I I I QY I (Own.skip .here i.ob) (Z5 (by first | omega | (simp only[aH];omega)) ((Qb (el ps i.i).k (v)-1))) wT<|QF<|QD ?_
   obtain⟨r9,hv9,hrn,hrc,hfix9⟩:=Q6.fix (w0:=w) (F0:=F) (bs1:=i.ob) (G:=_) (Q6.some (T:=3) (sz:=1) (b:=bb) (n:=(el ps i.i).r.n) (cap:=cap3) (l:=((el ps i.i).k.set v (Qb (el ps i.i).k v-1)).map Qs) (rest:=rest) (by simpa using e1) (by simpa using e2) e3 e4);refine Da hfix9 ?_;rw[hv9];dsimp only[Sr.v];refine JE tB mixed wj<|QJ (QC I)<|QJ (QC I)<|QJ (QC I)<|QJ (Qo (n:=n) i.i (λF h9=>h9.1.1.1) rfl rfl ZF ZN O)<|QJ (QH I Dp Ja)<|QJ (Ql (n:=n) ((i.i)*2+0) (λF h9=>h9.1.1.1) O rfl Ja (JR (f:=We) (l:=ps) K3 O rfl))<|QJ (QC I)<|QZ I (λ_ _ f k=>Ti f ⟨O,O⟩) λ_=>?_
   rw[ef];refine QZ I (λ_ _ f h=>Th f (ak (hsz _ hLm) wk) (by have h2:=jE (Qb (el ps i.i).k v);have h3:=jF hdb;omega)) (λ_=>QJ (QC I)<|QJ (ZT I Ry Wf (wQ I I I)) ?_);refine XU I (J2 Mh) ZN Wf I I (λb48=>?_) (λw h=>h.imp tB λF h=>h.1.1);rw[<-ao i.ob];refine BW (ob:=i.ob) (n:=i.out.length) (k:=1) (sz:=2) (news:=We (⟨Q8 ((el L i.i).1*((Qb (el ps i.i).k v:Int):Rat)),r9,((el ps i.i).k.set v (Qb (el ps i.i).k v-1))⟩:GS)) I I Mh ZN Wf I Pz i.hr (Src.row (off:=0) w9 (λj u hu=>by rw[ae];show((We (⟨Q8 ((el L i.i).1*((Qb (el ps i.i).k v:Int):Rat)),r9,((el ps i.i).k.set v (Qb (el ps i.i).k v-1))⟩:GS)).toArray)[j]?=some u;rw[aG];exact hu) rfl) O O (TJ _) QKK (λ_ h=>h.1.1.1) (λv49 ob49 hr49=>?_);rw[qZ]at hr49;refine QJ (QE I)<|Qy<|Qg<|QMY 3 I<|QA (Qn I I O)<|wB 2 I ?_
   exact Qj (⟨i.i+1,v49,ob49,i.out++[(⟨Q8 ((el L i.i).1*((Qb (el ps i.i).k v:Int):Rat)),r9,((el ps i.i).k.set v (Qb (el ps i.i).k v-1))⟩:GS)],hlt,by rw[af];exact hr49,by rw[TI,i.ho,qg hlt,EL,show Il v (el L i.i)=[((el L i.i).1*((Qb (el L i.i).2 v:Int):Rat),(el L i.i).2.set v (Qb (el L i.i).2 v-1))]from if_pos (by rw[<-ek];exact hkp)];show _++[(Q8 ((el L i.i).1*((Qb (el ps i.i).k v:Int):Rat)),((el ps i.i).k.set v (Qb (el ps i.i).k v-1)))]=_;rw[ek];rfl,by rw[af];simp;omega⟩) (by show L.length-(i.i+1)<L.length-i.i;omega) wW (by rw[ao];exact bQ _) λF ⟨⟨⟨⟨⟨⟨hR,hA⟩,hO⟩,hrow9⟩,_⟩,_⟩,hs48⟩=>⟨⟨hR,hA⟩,hO.snoc ⟨by rw[hrn];exact hrow9,by rw[hrn,aH];exact hkn,by rw[hrn];exact hrc⟩⟩
  have hkp:=QLs hc;refine QN<|Qg<|QMY 3 I<|QA (Qn I I O)<|wB 2 I ?_
  exact Qj (⟨i.i+1,i.v,i.ob,i.out,hlt,i.hr,by rw[i.ho,qg hlt,show Il v (el L i.i)=[]from if_neg (by rw[<-ek];exact hkp),ao],O⟩) (by show L.length-(i.i+1)<L.length-i.i;omega) wW QKK w7
 have hge:i.i=L.length:=wi<|QLs hc
 have hil:=i.hl;refine JK ?_;refine QG<|QB ?_
 obtain⟨r,hv,hrn,hrc,hfix⟩:=Q6.fix (w0:=w) (F0:=F) (bs1:=[]) (G:=_) i.hr;refine H5 hfix ?_;rw[hv];refine QJm I<|QL I (λ_ _ f k=>L9 (N:=N) (ts:=i.out) (L:=Gc v L) f (by rw[hrn];exact k.2) k.1.2 hrn.symm (by have h:=i.ho;rwa [hge,bF]at h) hw hz O) λc51=>wR I<|QU ?_
 exact QM (c51) rfl (wO I) (rfl) w9
theorem pO{n n2 cap2:Nat}{qs:List GS}{A B:List Tm}(hF:Fits F w)(hA:JC F q n 2 (ps.flatMap We))(hAs:WK F ps)(hna:ps.length=n)(hTa:Ns ps=Xj A)(hB:JC F q2 n2 2 (qs.flatMap We))(hBs:WK F qs)(hnb:qs.length=n2)(hTb:Ns qs=Xj B)
  (hwa:∀t∈A,t.2.length=N/\PW t.2/\Zv t.1<=90000) (hwb:∀t∈B,t.2.length=N/\PW t.2/\Zv t.1<=90000) (hw:∀t∈Xo A B,PW t.2) (hz:Sz (Xo A B)) (hn9:∀l m,Xo A B=l++m->(XO l).length<=900000000) (hl:n<=400000000/\n2<=400000000) :
  QS prog 186 [.slice q n cap,.slice q2 n2 cap2] w F (λ(c:VW)=>c.1.v) (λc F=>Vl F c.1 c.2 (Xj (XO (Xo A B)))):=by
 have hLa:=MT hTa;have hLb:=MT hTb;have hpl:=qR A B;refine QS.go (G:=λF=>JC F q n 2 (ps.flatMap We)/\WK F ps/\JC F q2 n2 2 (qs.flatMap We)/\WK F qs) func186 hF ⟨hA,hAs,hB,hBs⟩ ?_;refine QLF<|wR rfl<|QLF<|wR rfl<|QG<|QLF<|wR rfl<|QQ<|XC (ι:=MlO n) [(0,_),(1,_)] (λi=>[(5,i.c.1.v),(6,.int .i64 ((i.i:Nat):Int))]) (λi=>[]) (λi F=>Vl F i.c.1 i.c.2 (Xj (XO (Xo (A.take i.i) B)))) (λi=>n-i.i) (⟨0,(⟨none,0,0⟩,[]),aj _⟩) wU wU QKK (λF _=>⟨JC.nil F none 2,λ_ h=>(by cases h),rfl,aq _,rfl⟩) λi=>?_
 have hi:=i.le;refine wA 5 I<|QA (Qc I ZF)<|QMW 3 I ?_
 refine QO I (λhc=>?_) λhc=>?_
 ·have hlt:i.i<n:=wi<|QLr hc
  have htmps:=Q2 (show i.i<ps.length by omega);obtain⟨efa,eka⟩:=RQ hTa (show i.i<ps.length by omega);have hAm:=Q2 (show i.i<A.length by omega);obtain⟨hal,hap,haz⟩:=hwa _ hAm;have hra:=(hAs _ htmps).2.1;have hka0:=(hAs _ htmps).1.AF;have hap2:=hap.2;refine QMX 10 I<|XC (ι:=MlO n2) [(0,_),(1,_),(6,_)] (λi2=>[(5,i2.c.1.v),(7,.int .i64 ((i2.i:Nat):Int))]) (λi2=>[]) (λi2 F=>Vl F i2.c.1 i2.c.2 (Xj (XO (Xo (A.take i.i) B++ZU (el A i.i) (B.take i2.i))))) (λi2=>n2-i2.i) (⟨0,i.c,aj _⟩) wV wU QKK (λF h=>by rw[aM,show ZU (el A i.i) []=[]from rfl,ao];exact h.2) λi2=>?_
  have hi2:=i2.le;refine wA 5 I<|QA (Qc I ZF)<|QMW 3 I ?_
  refine QO I (λhc=>?_) λhc=>?_
  ·have hlt2:i2.i<n2:=wi<|QLr hc
   have htmqs:=Q2 (show i2.i<qs.length by omega);obtain⟨efb,ekb⟩:=RQ hTb (show i2.i<qs.length by omega);have hBm:=Q2 (show i2.i<B.length by omega);obtain⟨hbl,hbp,hbz⟩:=hwb _ hBm;have hrb:=(hBs _ htmqs).2.1;have hna3:(el ps i.i).k.length=N:=by rw[eka];exact hal
   have hnb3:(el qs i2.i).k.length=N:=by rw[ekb];exact hbl
   obtain⟨l9,e9⟩:=qQ (B:=B) i2.i (show i.i<A.length by omega);obtain⟨l8,e8⟩:=qQ (B:=B) (i2.i+1) (show i.i<A.length by omega);have hz9:=hz.1 _ _ e9;have hl9:=hn9 _ _ e9;have hm9:((el A i.i).1*(el B i2.i).1,Yg (el A i.i).2 (el B i2.i).2)∈Xo A B:=by rw[e8,RR O];simp
   have hw9:PW (Yg (el A i.i).2 (el B i2.i).2):=hw ((el A i.i).1*(el B i2.i).1,Yg (el A i.i).2 (el B i2.i).2) (by rw[e8,RR O];simp);refine QMX 6 I<|Ky (J2 Qd) QY λb22=>wB 2 I<|QA (Qo (n:=n) i.i (λF h9=>h9.1.1.1) rfl rfl ZF ZN O)<|QA (QH I Gi Qu)<|QA (Ql (n:=n) ((i.i)*2+1) (λF h9=>h9.1.1.1) O rfl Qu (JR (f:=We) (l:=ps) K3 O rfl))<|EP (ob:=[(b22,.cells ([]++[]:List Value).toArray 3 (0,0))]) (n:=0) (k:=(el ps i.i).r.n) (sz:=1) (news:=(el ps i.i).k.map Qs) rfl rfl Qd QY HZ I WR (.some rfl rfl (aq _) wk) (Src.Cz hka0 (λF h9=>(h9.1.1.2.1 _ htmps).1) (by simp[hra])) O O (LA _) λv28 ob28 hr28=>?_
   rw[ae,bK]at hr28;rw[ao];refine QMW 10 I<|XC (ι:=PmK (el ps i.i).r.n (el ps i.i).k (el qs i2.i).k) [(0,_),(1,_),(5,_),(6,_),(7,_)] (λi3=>[(8,i3.v),(9,.int .i64 ((i3.k:Nat):Int))]) (λi3=>i3.ob) (λi3 F=>True) (λi3=>(el qs i2.i).k.length-i3.k) (⟨0,(el ps i.i).k,v28,ob28,aj _,hr28,by simp[Yg]⟩) wX wU QKK wz λi3=>?_
   have hk:=i3.le;refine wA 5 I ?_;obtain⟨q3,c3,hv3⟩:=i3.hr.JW;refine QA (Qc (q:=q3) (n:=(el ps i.i).r.n) (c:=c3) (by show some i3.v=_;rw[hv3]) Qd)<|QMW 3 I ?_
   refine QO I (λhc=>?_) λhc=>?_
   ·obtain⟨k,L,v,ob,hk0,hr,hL⟩:=i3;dsimp only at hk hc ⊢;have hlt3:k<(el qs i2.i).k.length:=wi<|QLr hc
    have hka:k<(el ps i.i).k.length:=O;have hLn:L.length=(el ps i.i).k.length:=by rw[hL];unfold Yg;simp;omega
    have hb1:0<=Qb (el ps i.i).k k/\Qb (el ps i.i).k k<=1000000:=by rw[eka];exact hap.el O
    have hb2:0<=Qb (el qs i2.i).k k/\Qb (el qs i2.i).k k<=1000000:=by rw[ekb];exact hbp.el O
    obtain⟨b,cap,rest,rfl,rfl,e1,e2,e3,e4⟩:=Q6.pos hr O;have hdL:Qb L k=Qb (el ps i.i).k k:=by rw[hL];exact Cg hka hlt3
    refine QMX 4 I<|Je 16 QKK mixed wj wj ?_
    simp only[bj,aM,aB,bT];refine QJ (QC I)<|QJ (QC I)<|QJ (QC I)<|QJ (QC I)<|QJ (Qm (i:=k) rfl rfl Qd QY O)<|QJ (Xh (c:=(L).map Qs++rest) (T':=3) rfl QY .here (Xb (by first | omega | (simp only[aH];omega))))<|QJ (QC I)<|QJ (QC I)<|QJ (Qo (n:=n2) (i2.i) (λF h9=>h9.1.1.1.2.2.1) rfl rfl ZF ZN O)<|QJ (QH I Gi Qu)<|QJ (Ql (n:=n2) ((i2.i)*2+1) (λF h9=>h9.1.1.1.2.2.1) O rfl Qu (JR (f:=We) (l:=qs) K3 O rfl))<|QJ (QC I)<|QJ (Qo (n:=(el qs (i2.i)).r.n) (k) (λF h9=>((h9.1.1.1.2.2.2 _ htmqs)).1) rfl rfl Qd QY O)<|QJ (Ql (n:=(el qs (i2.i)).r.n) ((k)*1) (λF h9=>((h9.1.1.1.2.2.2 _ htmqs)).1) O rfl QY (JP (o:=(el qs (i2.i)).k) O))<|QJ (Qn I I O)<|QJ (Qm (i:=k) rfl rfl Qd QY O)<|X7<|QV (vs:=[_]) I I I QY I .here (Z5 (by first | omega | (simp only[aH];omega)) ((Qb (L) (k)+Qb (el qs (i2.i)).k (k)))) wT<|QF<|Qg<|QMY 3 I<|QA (Qn I I O)<|wB 2 I ?_
    exact Qj (⟨k+1,_,_,_,hlt3,Q6.some (by simpa using e1) (by simpa using e2) e3 e4,by rw[hL,Cg hka hlt3];exact ql hka hlt3⟩) (by show(el qs i2.i).k.length-(k+1)<(el qs i2.i).k.length-k;omega) wZ QKK λF h=>⟨h.1,trivial⟩
   have hge3:i3.k=(el qs i2.i).k.length:=wi<|QLs hc
   have hLe:i3.L=Yg (el ps i.i).k (el qs i2.i).k:=by
    have h1:=i3.hL;rw[hge3,bF]at h1;rw[h1,ai O,bJ O,ao]
   have hLn:(Yg (el ps i.i).k (el qs i2.i).k).length=(el ps i.i).r.n:=by rw[Vq O];exact hra
   refine JK ?_;obtain⟨r9,hv9,hrn,hrc,hfix9⟩:=Q6.fix (w0:=w) (F0:=F) (bs1:=[]) (G:=_) i3.hr;refine Da hfix9 ?_;rw[hv9];dsimp only[Sr.v];refine JE QKK mixed wj<|QJ (QC I)<|QJ (QC I)<|QJ (QC I)<|QJ (Qo (n:=n) i.i (λF h9=>h9.1.1.1.1.1) rfl rfl ZF ZN O)<|QJ (QH I Dp Ja)<|QJ (Ql (n:=n) ((i.i)*2+0) (λF h9=>h9.1.1.1.1.1) O rfl Ja (JR (f:=We) (l:=ps) K3 O rfl))<|QJ (QC I)<|QJ (QC I)<|QJ (Qo (n:=n2) (i2.i) (λF h9=>h9.1.1.1.1.2.2.1) rfl rfl ZF ZN O)<|QJ (QH I Dp Ja)<|QJ (Ql (n:=n2) ((i2.i)*2+0) (λF h9=>h9.1.1.1.1.2.2.1) O rfl Ja (JR (f:=We) (l:=qs) K3 O rfl)) ?_
   rw[efa,efb];refine QZ I (λ_ _ f k=>Th f (ak haz wk) (ak hbz wk)) (λ_=>QJ (QC I)<|QJ (ZT I Ry Wf (wQ I I I)) ?_);refine QZ I (λw F hF ⟨⟨⟨⟨⟨⟨hA,hAs,hB,hBs⟩,hC⟩,hC2⟩,_⟩,hrow⟩,_⟩=>yB (y:=(el A i.i).1*(el B i2.i).1) (k:=Yg (el A i.i).2 (el B i2.i).2) hF hC2.1 hC2.2.1 hC2.2.2.2.2 hC2.2.2.2.1 (by rw[<-eka,<-ekb,<-hLe];exact⟨by rw[hrn];exact hrow,by rw[hrn,hLe];exact hLn,by rw[hrn];exact hrc⟩) hC2.2.2.1 (λt ht=>ak (hz9 t ht) wk) (ak (hz.2 _ hm9) wk)
    (λt ht=>by
     obtain⟨y,hy,e⟩:=EO ht;rw[<-e,Vq O,hal];have hy':y∈Xo A B:=by rw[e9];exact fi _ hy
     exact⟨TP.Xo (λt ht=>(hwa t ht).1) (λt ht=>(hwb t ht).1) y hy',hw y hy'⟩) hw9 (by rw[hC2.AN];have:=Fm (Xo (A.take i.i) B++ZU (el A i.i) (B.take i2.i));omega)) λc65=>?_
   refine QJ (QE I)<|Qy<|Qg<|QMY 3 I<|QA (Qn I I O)<|wB 2 I ?_
   exact Qj (⟨i2.i+1,c65,hlt2⟩) (by show n2-(i2.i+1)<n2-i2.i;omega) wX QKK λF h=>⟨h.1.1.1.1.1,by rw[RR O,<-bD,gD];exact h.2⟩
  have hge2:i2.i=n2:=wi<|QLs hc
  refine JK ?_;refine wA 2 I<|QA (Qn I I O)<|wB 2 I ?_
  exact Qj (⟨i.i+1,i2.c,hlt⟩) (by show n-(i.i+1)<n-i.i;omega) wW QKK λF h=>⟨h.1.1,by rw[qP O];have h3:=h.2;rw[hge2,show B.take n2=B from ai O]at h3;exact h3⟩
 have hge:i.i=n:=wi<|QLs hc
 refine JK ?_;refine wA 7 I ?_;exact QM (i.c) rfl (wO I) (rfl) λF h9=>by have h:=h9.2;rwa [hge,show A.take n=A from ai O]at h
abbrev ZTm:=Int×List Int
def zT(F:Nat)(z:ZTm):Tm:=(ay z.1 F,z.2)
def zS:List ZTm->Nat
 |[]=>0
 |z::Z=>z.1.natAbs+zS Z
theorem q9:∀a b,zS (a++b)=zS a+zS b
 |[],b=>by simp[zS]
 |x::a,b=>by simp[eC,zS,q9 a b];omega
theorem QAX:∀ {Z:List ZTm} {z:ZTm},z∈Z->z.1.natAbs<=zS Z
 |x::Z,z,h=>by
  simp[zS];rcases List.mem_cons.1 h with rfl | h
  ·omega
  have:=QAX h;omega
def IW{a b:Int}{F:Nat}(hF:0<F):ay a F+ay b F=ay (a+b) F:=by
 have h:(F:Int)≠0:=O;rw[Rat.divInt_add_divInt _ _ h h,<-Int.add_mul,fk h]
structure Db(F c:Nat)(L:List Tm):Prop where
 pos:0<F
 ex:∃Z,L=Z.map (zT F)/\zS Z<=F*c
def Db.nil{F:Nat}(h:0<F)(c:Nat):Db F c []:=⟨h,[],rfl,aj _⟩
theorem Db.pre{F:Nat}{l m:List Tm}(h:Db F c (l++m)):Db F c l:=by
 obtain⟨Z,e,h1⟩:=h.ex;obtain⟨a,b,e1,e2,_⟩:=List.map_eq_append_iff.1 e.symm;exact⟨h.pos,a,e2.symm,by grind[q9]⟩
theorem Db.mono{F d:Nat}{L:List Tm}(h:Db F c L)(k:c<=d):Db F d L:=by
 obtain⟨Z,e,h1⟩:=h.ex;exact⟨h.pos,Z,e,ak h1 (aT _ k)⟩
theorem Db.app{F d:Nat}{l m:List Tm}(h:Db F c l)(k:Db F d m):Db F (c+d) (l++m):=by
 obtain⟨Z,e,h1⟩:=h.ex;obtain⟨Y,e2,h2⟩:=k.ex;exact⟨h.pos,Z++Y,by simp_all,by grind[q9,eE]⟩
theorem q8(g:Nat)(f:ZTm->ZTm)(hf:∀z,(f z).1.natAbs=g*z.1.natAbs):∀Z,zS (Z.map f)=g*zS Z
 |[]=>by rfl
 |z::Z=>by simp[aZ,zS,q8 g f hf Z,hf,eE]
theorem Db.lift{F G:Nat}{L:List Tm}(h:Db F c L)(k:0<G):Db (F*G) c L:=by
 obtain⟨Z,rfl,h1⟩:=h.ex;refine⟨ib h.pos k,Z.map λz=>(z.1*G,z.2),?_,?_⟩
 ·rw[ep];refine fq λz _=>?_;show(ay z.1 F,z.2)=(ay _ ((F*G:Nat):Int),z.2)
  grind[bS,fk]
 rw[q8 G _ (λz=>by simp[eP,fD,fX]),fX F G,Nat.mul_assoc];exact aT _ h1
theorem Db.dvd{F G:Nat}{L:List Tm}(h:Db F c L)(k:F ∣ G)(h0:0<G):Db G c L:=by
 obtain⟨g,rfl⟩:=k;exact h.lift (Nat.pos_of_mul_pos_left h0)
def Db.one{F:Nat}(hF:0<F)(hd:y.den ∣ F)(hy:y.num.natAbs<=y.den*c):Db F c [(y,k)]:=by
 have hb:Db y.den c [(y,k)]:=⟨y.den_pos,[(y.num,k)],by simp[zT,fA],by trivial⟩;exact hb.dvd hd hF
theorem QDT{F G:Nat}(s:ZTm):∀B:List ZTm,ZU (zT F s) (B.map (zT G))=(B.map λt=>(s.1*t.1,Yg s.2 t.2)).map (zT (F*G)):=λB=>by
 rw[ZU,ep,ep];refine fq λt _=>?_;show(ay s.1 F*ay t.1 G,_)=(ay _ ((F*G:Nat):Int),_);rw[fg,bS];rfl
theorem QA4{F G:Nat}:∀A B:List ZTm,∃Z,Xo (A.map (zT F)) (B.map (zT G))=Z.map (zT (F*G))/\zS Z=zS A*zS B
 |[],B=>⟨[],rfl,by simp[zS]⟩
 |s::A,B=>by
  obtain⟨Z,e,h⟩:=QA4 (F:=F) (G:=G) A B;refine⟨(B.map λt=>(s.1*t.1,Yg s.2 t.2))++Z,?_,?_⟩
  ·grind[QDT,Xo]
  grind[q9,q8,eP,zS,bU]
theorem Db.prod{F G d:Nat}{A B:List Tm}(h:Db F c A)(k:Db G d B):Db (F*G) (c*d) (Xo A B):=by
 obtain⟨Z,rfl,h1⟩:=h.ex;obtain⟨Y,rfl,h2⟩:=k.ex;obtain⟨X,e,h3⟩:=QA4 Z Y;refine⟨ib h.pos k.pos,X,e,?_⟩;rw[h3]
 calc zS Z*zS Y<=(F*c)*(G*d):=Nat.mul_le_mul h1 h2
  _=F*G*(c*d):=by grind
theorem QFV{F v n:Nat}:∀A:List ZTm,(∀z∈A,0<=Qb z.2 v/\Qb z.2 v<=n)->∃Z,Gc v (A.map (zT F))=Z.map (zT F)/\zS Z<=n*zS A
 |[],_=>⟨[],rfl,by simp[zS]⟩
 |s::A,hd=>by
  obtain⟨Z,e,h⟩:=QFV A (λz hz=>hd z (fh _ hz));have h0:=hd s (fv ..);by_cases hp:0<Qb s.2 v
  ·refine⟨(s.1*Qb s.2 v,s.2.set v (Qb s.2 v-1))::Z,?_,?_⟩
   ·rw[aZ,aZ,<-e];show Il v _++Gc v _=_;rw[Il,show(zT F s).2=s.2 from rfl,if_pos hp];show[(ay s.1 F*((Qb s.2 v:Int):Rat),_)]++_=(ay _ F,_)::_;rw[show((Qb s.2 v:Int):Rat)=ay _ 1 from by conv=>lhs;rw[<-fA ((Qb s.2 v:Int):Rat),Rat.num_intCast,Rat.den_intCast,show((1:Nat):Int)=1 from rfl],fg,Int.mul_one];rfl
   simp[zS,eP,eE];have h5:(Qb s.2 v).natAbs<=n:=O;have:=aT s.1.natAbs h5
   grind
  refine⟨Z,?_,?_⟩
  ·show Il v _++Gc v _=_;rw[Il,show(zT F s).2=s.2 from rfl,if_neg hp,e];rfl
  grind[zS,eE]
theorem Db.der{F v n:Nat}{A:List Tm}(h:Db F c A)(hd:∀t∈A,0<=Qb t.2 v/\Qb t.2 v<=n):Db F (n*c) (Gc v A):=by
 obtain⟨Z,rfl,h1⟩:=h.ex;obtain⟨X,e,h3⟩:=QFV Z (λz hz=>hd _ (bm hz));exact⟨h.pos,X,e,ak h3 (by rw[Nat.mul_left_comm];exact aT _ h1)⟩
theorem QA7{F:Nat}(hF:0<F)(t:ZTm):∀P:List ZTm,∃Z,Xw (P.map (zT F)) (zT F t)=Z.map (zT F)/\zS Z<=zS P+t.1.natAbs
 |[]=>by
  rw[fS,Xw];split
  ·simp
  exact⟨[t],rfl,by simp[zS]⟩
 |x::P=>by
  obtain⟨Z,e,h⟩:=QA7 hF t P;rw[aZ,Xw];split
  ·exact⟨x::Z,by simp_all,by grind[zS]⟩
  split
  ·split
   ·exact⟨P,rfl,by grind[zS]⟩
   refine⟨(x.1+t.1,t.2)::P,?_,?_⟩
   ·congr 1;show(ay x.1 F+ay t.1 F,t.2)=(ay _ F,t.2);rw[IW hF]
   grind[Int.natAbs_add_le,zS]
  split
  ·grind
  exact⟨t::x::P,rfl,by grind[zS]⟩
theorem QB0{F:Nat}(hF:0<F):∀L P:List ZTm,∃Z,(L.map (zT F)).foldl Xw (P.map (zT F))=Z.map (zT F)/\zS Z<=zS P+zS L
 |[],P=>⟨P,rfl,O⟩
 |t::L,P=>by
  obtain⟨Z,e,h⟩:=QA7 hF t P;obtain⟨Y,e2,h2⟩:=QB0 hF L Z
  grind[zS]
theorem Db.norm{F:Nat}{A:List Tm}(h:Db F c A):Db F c (XO A):=by
 obtain⟨Z,rfl,h1⟩:=h.ex;obtain⟨X,e,h3⟩:=QB0 h.pos Z [];exact⟨h.pos,X,e,by grind[zS]⟩
def Ur{a b:Int}(h:a.natAbs<=b.natAbs):sz a<=sz b:=(XK _ _).2 (Nat.lt_of_le_of_lt h ((XK b _).1 (aq _)))
theorem Db.Zv{F c x y:Nat}{A:List Tm}(h:Db F c A)(hx:sz (F:Int)<=x)(hy:sz (c:Int)<=y):∀t∈A,YtphlgddkpboamaaGreatDoor.Zv t.1<=x+y:=λt ht=>by
 obtain⟨Z,rfl,h1⟩:=h.ex;obtain⟨z,hz,rfl⟩:=List.mem_map.1 ht;have h0:=h.pos;refine ak (Vt O) ?_;have h2:sz z.1<=sz ((F:Int)*(c:Int)):=Ur (by exact ak (QAX hz) h1)
 grind[X8]
theorem Db.wide{F c x y:Nat}{A:List Tm}(h:Db F c A)(hx:sz (F:Int)<=x)(hy:sz (c:Int)<=y)(hxy:x+y<=90000):Sz A :=
 ⟨λl m e t ht=>ak ((e ▸ h:Db F c _).pre.norm.Zv hx hy t ht) hxy,λt ht=>ak (h.Zv hx hy t ht) hxy⟩
structure Pg(N:Nat)(d:Int)(V:Nat->Int)(r:Int)(k:List Int):Prop where
 len:k.length=N
 nn:∀x∈k,0<=x
 sum:k.sum<=d
 occ:∀v,Qb k v≠0->V v<=r
def Pg.mono{d e:Int}{r s:Int}(h:Pg N d V r k)(h1:d<=e)(h2:r<=s):Pg N e V s k :=
 ⟨h.len,h.nn,bN h.sum h1,λv hv=>bN (h.occ v hv) h2⟩
theorem QGN(h:∀x∈k,0<=x):∀x∈k,x<=k.sum:=λx hx=>by
 induction k with
 |nil=>cases hx
 |cons a k ih =>
  have h0:0<=k.sum:=by
   have:∀l:List Int,(∀x∈l,0<=x)->0<=l.sum:=λl=>by
    induction l with
    |nil=>trivial
    |cons b l ihl=>intro hl;have h1:=hl b wv;grind
   simp_all
  have ha:=h a wv
  grind
def Pg.le{d:Int}{r:Int}(h:Pg N d V r k):∀x∈k,0<=x/\x<=d:=λx hx=>⟨h.nn x hx,bN (QGN h.nn x hx) h.sum⟩
theorem Pg.pw{d:Int}{r:Int}(h:Pg N d V r k)(hN:N<=1000)(hd:d<=1000000):PW k:=⟨λx hx=>wi<|h.le x hx,by rw[h.len];exact hN⟩
theorem Gb{v:Nat}(h:v<k.length):Qb k v=k[v]:=by simp[Qb,h]
theorem B0{v:Nat}(h:k.length<=v):Qb k v=0:=by grind[Qb]
theorem Pg.Qb{d:Int}{r:Int}(h:Pg N d V r k)(v:Nat)(h0:0<=d):0<=Ig.Qb k v/\Ig.Qb k v<=d:=by
 by_cases hv:v<k.length
 ·rw[Gb hv];exact h.le _ (List.getElem_mem hv)
 grind[B0]
theorem QAA{a b:List Int}(h:a.length=b.length)(v:Nat):Ig.Qb (Yg a b) v=Ig.Qb a v+Ig.Qb b v:=by
 by_cases hv:v<a.length
 ·grind[Gb,Vq,Yg]
 rw[B0 (by grind[Vq]),B0 O,B0 O];rfl
def Pg.add{d e:Int}{r s:Int}{a b:List Int}(h:Pg N d V r a)(k:Pg N e V s b){u:Int}(h1:r<=u)(h2:s<=u):Pg N (d+e) V u (Yg a b):=by
 have hl:a.length=b.length:=by rw[h.len,k.len]
 obtain⟨g1,g2⟩:=uY hl h.nn k.nn;have:=h.sum;have:=k.sum;refine⟨by rw[Vq hl];exact h.len,g1,O,λv hv=>?_⟩;rw[QAA hl]at hv;by_cases h3:Ig.Qb a v=0
 ·exact bN (k.occ v O) h2
 exact bN (h.occ v h3) h1
theorem zZ{l:List Int}{v:Nat}(hv:v<l.length)(z:Int):(l.set v z).sum=l.sum-Ig.Qb l v+z:=by
 induction l generalizing v with
 |nil=>grind
 |cons x l ih =>
  cases v<;>grind[Ig.Qb]
theorem Pg.set{d:Int}{r:Int}(h:Pg N d V r k){v:Nat}(hv:0<Ig.Qb k v):Pg N (d-1) V r (k.set v (Ig.Qb k v-1)):=by
 have hl:v<k.length:=by
  grind[B0]
 refine⟨by rw[aH];exact h.len,λx hx=>?_,by rw[zZ hl];have:=h.sum;omega,λu hu=>?_⟩
 ·rcases eN hx with hx | rfl
  ·exact h.nn x hx
  omega
 by_cases huv:u=v
 ·subst huv;exact h.occ u O
 refine h.occ u ?_;by_cases hu2:u<k.length
 ·rw[Gb (by simp_all),fu O]at hu
  grind[Gb]
 rw[B0 (by simp_all)]at hu;omega
theorem Pg.zero{d:Int}{r:Int}(hd:0<=d):Pg N d V r (aD N 0) :=
 ⟨wv,λx hx=>by simp_all,by simp_all,λv hv=>absurd (by simp[Ig.Qb]) hv⟩
theorem Pg.var{v:Nat}{d:Int}{r:Int}(hv:v<N)(hd:1<=d)(hr:V v<=r):Pg N d V r ((aD N 0).set v 1):=by
 refine⟨wv,λx hx=>?_,by simp_all[zZ,Gb,hd],λu hu=>?_⟩
 ·grind
 grind[Gb,fu,B0]
def Az(N:Nat)(d:Int)(V:Nat->Int)(r:Int)(L:List Tm):Prop:=∀t∈L,Pg N d V r t.2
theorem Az.norm{d:Int}{r:Int}{L:List Tm}(h:Az N d V r L):Az N d V r (XO L):=λt ht=>by
 obtain⟨y,h1,h2⟩:=EO ht;rw[<-h2];exact h y h1
theorem Az.app{d:Int}{r:Int}{L M:List Tm}(h:Az N d V r L)(k:Az N d V r M):Az N d V r (L++M):=λt ht=>(List.mem_append.1 ht).elim (h t) (k t)
theorem Az.pre{d:Int}{r:Int}{L M:List Tm}(h:Az N d V r (L++M)):Az N d V r L:=λt ht=>h t (fi _ ht)
theorem Az.mono{d e:Int}{r s:Int}{L:List Tm}(h:Az N d V r L)(h1:d<=e)(h2:r<=s):Az N e V s L:=λt ht=>(h t ht).mono h1 h2
def Az.scl{d:Int}{r:Int}{L:List Tm}(h:Az N d V r L):Az N d V r (Bn y L):=λt ht=>by
 obtain⟨u,h1,rfl⟩:=List.mem_map.1 ht;exact h u h1
theorem Az.prod{d e:Int}{r s u:Int}{L M:List Tm}(h:Az N d V r L)(k:Az N e V s M)(h1:r<=u)(h2:s<=u):Az N (d+e) V u (Xo L M):=λt ht=>by
 obtain⟨a,ha,ht⟩:=List.mem_flatMap.1 ht;obtain⟨b,hb,rfl⟩:=List.mem_map.1 ht;exact(h a ha).add (k b hb) h1 h2
theorem Az.der{v:Nat}{d:Int}{r:Int}{L:List Tm}(h:Az N d V r L):Az N (d-1) V r (Gc v L):=λt ht=>by
 obtain⟨a,ha,ht⟩:=List.mem_flatMap.1 ht;rw[Il]at ht;split at ht
 ·rename_i hp;rw[List.mem_singleton.1 ht];exact(h a ha).set hp
 trivial
def Az.pw{d:Int}{r:Int}{L:List Tm}(h:Az N d V r L)(hN:N<=1000)(hd:d<=1000000):∀t∈L,t.2.length=N/\PW t.2:=λt ht=>⟨(h t ht).len,(h t ht).pw hN hd⟩
def Nk(b:Nat):List Int->Nat
 |[]=>0
 |x::l=>x.toNat+b*Nk b l
theorem uR{b:Nat}(hb:0<b):∀l:List Int,(∀x∈l,0<=x/\x<(b:Int))->Nk b l<b^l.length
 |[],_=>by simp[Nk]
 |x::l,h=>by
  have h1:=uR hb l λy hy=>h y (by grind);have h2:=h x wv;simp[Nk,aC];have h3:b*Nk b l+b<=b*b^l.length:=by exact aT _ h1
  grind
theorem kA{b:Nat}(hb:0<b):∀l m:List Int,l.length=m.length->(∀x∈l,0<=x/\x<(b:Int))->(∀x∈m,0<=x/\x<(b:Int))->Nk b l=Nk b m->l=m
 |[],[],_,_,_,_=>rfl
 |x::l,y::m,hl,h1,h2,e=>by
  have hx:=h1 x wv;have hy:=h2 y wv;simp[Nk]at e;have e1:(x.toNat+b*Nk b l)%b=(y.toNat+b*Nk b m)%b:=by rw[e]
  rw[eR,eR,fL O,fL O]at e1;have e2:Nk b l=Nk b m:=Nat.eq_of_mul_eq_mul_left hb O;rw[kA hb l m (by simp_all) (λz hz=>h1 z (by grind)) (λz hz=>h2 z (by grind)) e2,show x=y by omega]
theorem QAE{b:Nat}{L:List Tm}(hb:0<b)(h:Canon L)(hL:∀t∈L,t.2.length=N/\∀x∈t.2,0<=x/\x<(b:Int)):L.length<=b^N:=by
 have h1:(L.map λt=>Nk b t.2).Nodup:=by
  rw[List.Nodup,List.pairwise_map];refine(h.srt).imp_of_mem λ{x y} hx hy hxy e=>?_;have:=kA hb x.2 y.2 (by grind) (hL x hx).2 (hL y hy).2 e
  grind[before_irrefl]
 have h2:=NM (b^N) _ h1 λj hj=>by
  obtain⟨t,ht,rfl⟩:=List.mem_map.1 hj
  grind[uR]
 simp_all
theorem Az.LD{r:Int}{L:List Tm}(h:Az N 6 V r L)(hN:N<=9)(hc:Canon L):L.length<=50000000 :=
 ak (QAE (b:=7) wk hc λt ht=>⟨(h t ht).len,λx hx=>wi<|(h t ht).le x hx⟩) (ak (fm wk hN) wk)
section
variable[Dr][df:Df]{P:Program}{Q:Exit->Act->World->Prop}{N:Nat}{m:Sl}{E0:Env}{ops:Array Oper}{l:List Oper}{w0:World}{F0:Gs}{bs:List (Nat×Obj)}{G:Gs->Prop}
theorem Al.QKc(h:Al ⟨w0,F0,bs,G⟩ w F){b:Nat}{c:Array Value}{T:TypeId}{fr:Nat×Nat}(hm:(b,Obj.cells c T fr)∈bs):∃FL,Gs.le F FL/\Fits FL w/\FL b=some (c,T) /\
  ∀w' F',N1 w w'->Gs.le FL F'->(∀i,i<w.heap.size->F' i=FL i)->Fits F' w'->St ⟨w0,F0,bs,G⟩ w':=by
 obtain⟨h1,h2,h3⟩:=h.bx _ hm;have hb:b<w.heap.size:=by
  grind
 have hle:Gs.le F (λi=>if i=b then some (c,T)else F i):=λi x hx=>by
  grind
 refine⟨_,hle,⟨λi c' T' hi=>?_,λi c' fr' hi=>?_⟩,wv,λw' F' e1 e2 e3 e4=>?_⟩
 ·by_cases e:i=b
  ·simp_all
  rw[if_neg e]at hi;exact h.fits.row i c' T' hi
 ·by_cases e:i=b
  ·simp_all
  rw[if_neg e];exact h.fits.all i c' fr' hi
 have hne:∀i x,F i=some x->i≠b:=λi x hx e=>by simp_all
 have hgo:Gs.le F (λi=>if i=b then none else F' i):=λi x hx=>by
  show(if i=b then _ else _)=_;rw[if_neg (hne i x hx)];exact e2 i x (hle i x hx)
 refine⟨λi=>if i=b then none else F' i,Gs.le_trans h.le hgo,λi hi=>?_,⟨λi c' T' hi=>?_,λi c' fr' hi=>?_⟩,h.ext.trans e1,λk hk=>?_,h.nd,λF'' hF=>h.g F'' (Gs.le_trans hgo hF)⟩
 ·have hib:i≠b:=O;rw[if_neg hib,e3 i (bZ hi h.ext.size),if_neg hib];exact h.old i hi
 ·by_cases e:i=b
  ·simp_all
  rw[if_neg e]at hi;exact e4.row i c' T' hi
 ·by_cases e:i=b
  ·subst e;rw[e1.block i hb,h1]at hi;cases hi;have:=h.fits.all _ _ _ h1;simp_all
  rw[if_neg e];exact e4.all i c' fr' hi
 obtain⟨g1,g2,g3⟩:=h.bx k hk;have hlt:k.1<w.heap.size:=by
  grind
 refine⟨by rw[e1.block _ hlt];exact g1,g2,?_⟩;simp_all
theorem Al.QEA(h:Al ⟨w0,F0,bs,G⟩ w F){T:TypeId}{sz n:Nat}{v:Value}{cs:List Value}{ob:List _}(hr:Q6 T sz v n cs ob)(hm:∀k∈ob,k∈bs):∃FL q c,v = .slice q n c/\n<=c/\JC FL q n sz cs/\Gs.le F FL/\Fits FL w /\
  ∀w' F',N1 w w'->Gs.le FL F'->(∀i,i<w.heap.size->F' i=FL i)->Fits F' w'->St ⟨w0,F0,bs,G⟩ w':=by
 cases hr with
 |nil=>exact⟨F,fO,0,rfl,aq _,JC.nil _ _ _,Gs.le_refl F,h.fits,λw' F' e1 e2 e3 e4=>⟨F',by
   have:=h.call e1 e2 e3 e4 wz;simp_all⟩⟩
 |some h1 h2 h3 h4 =>
  rename_i b cap rest;obtain⟨FL,g1,g2,g3,g4⟩:=h.QKc (hm _ (.head _));refine⟨FL,_,_,rfl,h3,⟨h1,λ_=>⟨b,0,_,T,rfl,g3,λj u hu=>?_⟩⟩,g1,g2,g4⟩
  grind
theorem K4{x y:Code}(K:Sl)(M:ι->Sl)(B:ι->List _)(R:ι->Gs->Prop)(_hk:YZ m K)(h1:J P x (Exit.then (λa w=>∃i,JY N (K++M i) a/\St ⟨w0,F0,B i,λF=>G F/\R i F⟩ w) Q) N m ⟨w0,F0,bs,G⟩)
  (h2:∀i,J P y Q N (K++M i) ⟨w0,F0,B i,λF=>G F/\R i F⟩):J P (.seq x y) Q N m ⟨w0,F0,bs,G⟩:=λa w ha hw=>by
 refine wp_seq (wp_mono (h1 a w ha hw) ?_);intro e a' w' h;cases e with
 |normal=>obtain⟨i,h3,h4⟩:=h;exact h2 i a' w' h3 h4
 |_=>exact h
theorem Kb{G':Gs->Prop}{M:ι->Sl}{B:ι->List _}{H:ι->Gs->Prop}(i:ι)(hm:YZ m (M i))(hb:(B i).Sublist bs)(hg:∀F,G' F->H i F):
  Fin (Exit.then (λa w=>∃i,JY N (M i) a/\St ⟨w0,F0,B i,H i⟩ w) Q) .normal N m ⟨w0,F0,bs,G'⟩:=λa w ha hw=>⟨i,ha.sub hm,hw.imp hb hg⟩
section
variable{d:Nat}{ty:TypeId}{pos:String}{aft:Array Edge}{f:FuncId}{args:Array Operand}{tys:Array TypeId}{vs:List Value}{γ:Type}{val:γ->Value}{fact:γ->Prop}
theorem kU{c1 c2:List Value}{sz n:Nat}{v:Value}{ob:List _}(hr:Q6 T sz v n cs ob)(hm:∀k∈ob,k∈bs)(hx:ev m x=some (.func (.func f) c1.toArray c2.toArray))(hv:HM m args.toList=some vs)
  (hc:∀w F q c,v = .slice q n c->n<=c->JC F q n sz cs->Fits F w->G F->QS P f (c1++vs++c2) w F val λc _=>fact c)
  (k:∀c,fact c->JS P ops Q l N ((d,val c)::m) ⟨w0,F0,bs,G⟩) (hd:J1 N (some d)=true:=by rfl):JS P ops Q (⟨some d,.call ⟨.value x,args,tys⟩,ty,pos,aft,none⟩::l) N m ⟨w0,F0,bs,G⟩:=by
 intro a w ha hw;obtain⟨F,hF⟩:=hw;obtain⟨FL,q,c,ev1,hn,hR,hle,hfit,hback⟩:=hF.QEA hr hm;have hcg:=hc w FL q c ev1 hn hR hfit (hF.g _ hle);refine wpList_plain rfl λK hK=>?_;unfold Oper.wp;rw[VS hcg.1 (ha.ev hx)];have e:c1.toArray++args.map a.eval++c2.toArray=(c1++vs++c2).toArray:=by
  have:=ha.HM hv;simp_all
 rw[e];refine hcg.2.mono ?_;rintro e w' ⟨c,F',rfl,h1,h2,h3,h4,h5⟩;exact hK _ _ (k c (h5 F' (Gs.le_refl _)) _ w' (ha.put hd _) (hback w' F' h1 h2 h3 h4))
theorem uc{sz n:Nat}{v:Value}{ob:List _}(hr:Q6 T sz v n cs ob)(hm:∀k∈ob,k∈bs)(hv:HM m args.toList=some vs)
  (hc:∀w F q c,v = .slice q n c->n<=c->JC F q n sz cs->Fits F w->G F->QS P f vs w F val λc _=>fact c)
  (k:∀c,fact c->JS P ops Q l N ((d,val c)::m) ⟨w0,F0,bs,G⟩) (hd:J1 N (some d)=true:=by rfl):JS P ops Q (⟨some d,.call ⟨.value (.func f),args,tys⟩,ty,pos,aft,none⟩::l) N m ⟨w0,F0,bs,G⟩ :=
 kU hr hm rfl hv (by simpa using hc) k hd
end
end
section
variable{P:Program}{N:Nat}{m:Sl}{ty:TypeId}{w0:World}{F0:Gs}{bs:List (Nat×Obj)}{G:Gs->Prop}
def QW{k:Nat}{c:Array Value}{T':TypeId}{u:Value}(j:Nat)(hz:∀F,G F->F b=some (c,T'))(hx:ev m x=some (.pointer (some ⟨b,0+j,none⟩)))(ht:ZZ P T=some (false,k))(hu:c.toList[j]?=some u):Qt P N m (St ⟨w0,F0,bs,G⟩) (.load T x) ty u :=
 Ql (n:=1) (sz:=c.toList.length) j (λF h=>JC.of (by exact hz F h) wv) wk hx ht hu
theorem Jj{k:Nat}{c:Array Value}{T':TypeId}(hz:∀F,G F->F b=some (c,T'))(hx:ev m x=some (.pointer (some ⟨b,0,none⟩)))(ht:ZZ P T=some (true,k))(hl:c.size=k):Qt P N m (St ⟨w0,F0,bs,G⟩) (.load T x) ty (.agg c):=by
 have h:=XE (N:=N) (ty:=ty) (w0:=w0) (F0:=F0) (bs:=bs) (n:=1) (sz:=c.toList.length) 0 (λF h=>JC.of (by exact hz F h) wv) wk hx ht O (λi v hv=>by simp_all);omega
end
theorem Jf:ZZ prog 22=some (false,1):=wj
theorem Xk:GI prog 22=some 80:=wj
theorem ZL:ZZ prog 25=some (true,3):=wj
theorem K9:Z9 prog 25 0=some (0,3):=wj
theorem XP:Z9 prog 25 1=some (1,22):=wj
theorem US:Z9 prog 25 2=some (2,23):=wj
theorem MS:ZZ prog 26=some (false,1):=wj
theorem IN:GI prog 26=some 76:=wj
theorem Mz:ZZ prog 28=some (true,8):=wj
theorem Ks:Z9 prog 28 0=some (0,25):=wj
theorem CH:Z9 prog 28 1=some (3,23):=wj
theorem QB8:Z9 prog 28 2=some (4,3):=wj
theorem QB7:Z9 prog 28 3=some (5,3):=wj
theorem UR:Z9 prog 28 4=some (6,26):=wj
theorem DO:Z9 prog 28 5=some (7,23):=wj
theorem IM:ZZ prog 76=some (true,3):=wj
theorem QIH:Jw prog 76=some [.int .i64 0,.int .i64 0,.int .i64 0]:=wj
theorem xH:Z9 prog 76 0=some (0,3):=wj
theorem xG:Z9 prog 76 1=some (1,3):=wj
theorem QB5:Z9 prog 76 2=some (2,3):=wj
theorem Xd:ZZ prog 78=some (false,1):=wj
theorem YV:GI prog 78=some 89:=wj
theorem XJ:ZZ prog 80=some (true,5):=wj
theorem TM:Jw prog 80=some [.string .empty,.slice none 0 0,.int .i64 0,.string .empty,.slice none 0 0]:=wj
theorem KM:Z9 prog 80 0=some (0,9):=wj
theorem Zz:Z9 prog 80 1=some (1,78):=wj
theorem Yf:Z9 prog 80 2=some (2,3):=wj
theorem BN:Z9 prog 80 3=some (3,48):=wj
theorem Wp:Z9 prog 80 4=some (4,29):=wj
theorem pD:ZZ prog 84=some (false,1):=wj
theorem QKC:Jw prog 84=some [.slice none 0 0]:=wj
theorem Xda:Zf prog 84=some 24:=wj
theorem Uw:GI prog 84=some 4:=wj
theorem Kf:ZZ prog 89=some (true,2):=wj
theorem QDL:Jw prog 89=some [.int .i64 0,.string .empty]:=wj
theorem GQ:Z9 prog 89 0=some (0,3):=wj
theorem BM:Z9 prog 89 1=some (1,48):=wj
theorem Xa4:GI prog 142=some 84:=wj
theorem QAd:ZZ prog 230=some (true,4):=wj
theorem zO:Jw prog 230=some [.int .i64 0,.int .i64 0,.nilFunc,.nilFunc]:=wj
theorem vo:K2 prog 230=some [(0,1),(1,1),(2,1),(3,1)]:=wj
theorem QEO:Z9 prog 230 0=some (0,3):=wj
theorem QEN:Z9 prog 230 1=some (1,3):=wj
theorem QEM:Z9 prog 230 2=some (2,216):=wj
end Go.Proofs.YtphlgddkpboamaaGreatDoor
namespace Go.Proofs.YtphlgddkpboamaaGreatDoor
variable{T e t ty:TypeId}{cs z:List Value}{g:Bool}{ps:List GS}{α ι:Type}{k out:List Int}{N b c cap fuel i j:Nat}{a:Addr}{w w0:World}{F F0:Gs}{q q2:Option Addr}{x:Operand}{y:Rat}{aft:Array Edge}{s:Sr}{G:Gs->Prop}{V:Nat->Int}{xs:List (Fr×Rat)}{S:World->Prop}{sh:Int}{bs:List (Nat×Obj)}{f:Obj->List (Nat×Obj)}
open Go.RowKit Ig
def Se:=Nat->Rat
namespace Se
end Se
end Go.Proofs.YtphlgddkpboamaaGreatDoor
namespace Go.Proofs.YtphlgddkpboamaaGreatDoor
variable{T e t ty:TypeId}{cs z:List Value}{g:Bool}{ps:List GS}{α ι:Type}{k out:List Int}{N b c cap fuel i j:Nat}{a:Addr}{w w0:World}{F F0:Gs}{q q2:Option Addr}{x:Operand}{y:Rat}{aft:Array Edge}{s:Sr}{G:Gs->Prop}{V:Nat->Int}{xs:List (Fr×Rat)}{S:World->Prop}{sh:Int}{bs:List (Nat×Obj)}{f:Obj->List (Nat×Obj)}
open Go.RowKit Ig
section
variable{P:Program}{Q:Exit->Act->World->Prop}{N:Nat}{m:Sl}{ops:Array Oper}{l:List Oper}{w0:World}{F0:Gs}{bs:List (Nat×Obj)}{G:Gs->Prop}{ty:TypeId}{pos:String}{aft:Array Edge}{E0:Env}
theorem Cs{d:Nat}{sz:Nat}(ht:P.underlying t=some (.slice e))(hs:ZZ P e=some (g,sz))(k:∀b,JD P ops Q E0 l N ((d,.slice (some ⟨b,0,none⟩) 0 0)::m) ⟨w0,F0,(b,.cells #[] e (0,0))::bs,G⟩)(hu:GX e=true:=by rfl)(hd:J1 N (some d)=true:=by rfl):
  JD P ops Q E0 (⟨some d,.buildSlice t 0 #[],ty,pos,aft,none⟩::l) N m ⟨w0,F0,bs,G⟩:=λhE a w ha hw=>by
 have hS:=hw.alloc (.cells #[] e (0,0)) (ZD hu);have sub:∀w' b,St ⟨w0,F0,(b,.cells #[] e (0,0))::bs,G⟩ w'->St E0 w':=λw' b h=>hE w' (h.imp (List.sublist_cons_self _ _) λ_ h=>h);refine .inr ⟨rfl,?_⟩;rw[if_pos (by simp[bA])];refine upon_value (v:=.slice (some ⟨w.heap.size,0,none⟩) 0 0) (w':=w.alloc (.cells #[] e)) ?_ ⟨sub _ _ hS,k _ (λw' h=>sub w' _ h) _ _ (ha.put hd _) hS⟩;have hrun:(fF t 0 #[]).run P w = .ok (.slice (some ⟨w.heap.size,0,none⟩) 0 0) (w.alloc (.cells #[] e)):=by
  have hf:ia (λi=>some (i*sz,sz)) (Array.map (λx=>(#[]:Array Value)[x%(#[]:Array Value).size]!) (Array.range 0)) []=some #[]:=by simp[ia]
  simp only[fF,ff,run_underlying ht,bW,Ym hs,eX,if_neg (show ¬0>2^24 by omega),fe,if_true,hf,newRow,run_newObj];rfl
 simp[execOp,hrun]
end
structure SmS(Z T D m:Nat)(rs:List (List Tm)):Prop where
 fac:∀p∈rs,∀u∈p,Zv u.1<=Z/\QFs u.2 (m+1)<=D/\u.2.length=m+1/\∀k∈u.2,0<=k/\k<=12
 len:∀p∈rs,p.length<=T
 hn:rs.length=m
theorem uG{s:List UInt8}{d z:Nat}(h:H9 s d=true)(hz:10^d<=2^z):Zv (J4 s)<=z:=by
 simp only[H9,ax,decide_eq_true_eq,beq_iff_eq]at h;obtain⟨_,hc,h1,h2⟩:=h;have hs:=(ZR hc).1;generalize J4 s=x at hs;have key:∀n:Nat,(fV n).length<=d->n<2^z:=λn hn=>by
  have a:=KF (JF n);rw[Jq]at a;exact bZ (bZ a (fm wk hn)) hz
 have e:numOf (Q8 x)=Xm x.num:=by
  unfold numOf;by_cases h:x.den=1
  ·obtain⟨h1,h2⟩:=DI h;rw[h2,bF,h1]
  exact(Kh h).2.2.1
 rw[hs,e,kN]at h1;have hn:sz x.num<=z:=(XK _ _).2 (key _ O);have hd:sz (x.den:Int)<=z:=by
  refine(XK _ _).2 ?_;rw[fD];by_cases g:x.den=1
  ·have:(1:Nat)<=10^d:=Nat.one_le_pow _ _ wk;have hx:d≠0:=by
    intro h0;have:=VK x.num.natAbs;have h3:(fV x.num.natAbs).length≠0:=λq=>this (List.length_eq_zero_iff.1 q);omega
   have:1<10^d:=Nat.one_lt_pow hx wk;omega
  refine key _ ?_;rw[hs]at h2;unfold MY at h2;rw[if_neg λe=>g ((Mg x).1 e),(Kh g).2.2.2]at h2;omega
 exact Nat.max_le.2 ⟨hn,hd⟩
structure ShB(m:Nat)(x:List SpQ):Prop where
 len:x.length=m
 sz:∀a∈x,Szs a 160
 ord:QIg x
structure TyD(F I E B al T n:Nat)(rs:List (List Tm))(t:SpQ)(vb:List SpQ):Prop where
 f0:0<F
 i0:0<I
 e0:0<E
 inv:∀k,k<n->k+1 ∣ I
 fac:∀i,i<rs.length->∀u∈el rs i,Cl F 1 B u.1/\QFs u.2 (vb.length+1)<=al+1
 len:∀i,i<rs.length->(el rs i).length<=T
 tm:ClS E 1 B t
 box:∀x∈vb,ClS E 1 B x
 hn:rs.length=vb.length
section
variable{F I E B al T n:Nat}{rs:List (List Tm)}{t:SpQ}{vb:List SpQ}(h:TyD F I E B al T n rs t vb)
include h
omit h in
theorem QIO(Q k:Nat):sz ((Q^k:Nat):Int)<=k*sz ((Q:Nat):Int)+1:=by rw[Int.natCast_pow];exact RU _ _
omit h in
theorem zY(a b:Nat):sz ((a*b:Nat):Int)<=sz ((a:Nat):Int)+sz ((b:Nat):Int):=by rw[bS];exact X8 _ _
end
def QA3(hi:i<xs.length)(x:Fr)(r:Rat):Yz (MP xs) (0+i*4) (Cv x) (MP (xs.set i (x,r))):=by
 have e0:xs=xs.take i++el xs i::xs.drop (i+1):=by rw[<-Gj hi,aF]
 have e1:xs.set i (x,r)=xs.take i++(x,r)::xs.drop (i+1):=by
  rw[List.set_eq_take_append_cons_drop,if_pos hi]
 have e2:MP xs=MP (xs.take i)++(Cv (el xs i).1++MP (xs.drop (i+1))):=by
  conv=>lhs;rw[e0]
  unfold MP;rw[au,aQ]
 have e3:MP (xs.set i (x,r))=MP (xs.take i)++(Cv x++MP (xs.drop (i+1))):=by
  rw[e1];unfold MP;rw[au,aQ]
 rw[e2,e3,show 0+i*4=(MP (xs.take i)).length by rw[AX,aY];omega];exact jT I
def kZ.el(h:kZ F xs){i:Nat}(hi:i<xs.length):XV F (el xs i).1 (el xs i).2:=h _ (Q2 hi)
def kZ.set(h:kZ F xs){x:Fr}{r:Rat}(hx:XV F x r)(i:Nat):kZ F (xs.set i (x,r)):=λp hp=>by
 rcases eN hp with hp | rfl
 ·exact h p hp
 exact hx
section
open Go Go.RowKit Ig
section
variable[Dr][df:Df]
section
variable{P:Program}{Q:Exit->Act->World->Prop}
theorem IL{md:Region.Mode}{ops:Array Oper}{S':World->Prop}(h:∀w,S w->S' w):∀(fuel:Nat) (listed:Array Bool) (a:Act) (w:World),wpAnyH P md ops Q S fuel listed a w->wpAnyH P md ops Q S' fuel listed a w
 |0,_,_,_,hh=>hh
 |fuel+1,_,_,_,hh=>⟨hh.1,λi hi=>wpOp_mono (λa' w' h'=>⟨h _ h'.1,IL h fuel _ a' w' h'.2⟩) (hh.2 i hi)⟩
def UC(P:Program)(l:List Oper)(Q:Exit->Act->World->Prop):(World->Prop)->Nat->List Nat->Act->World->Prop
 |_,0,_,a,w=>Q .normal a w
 |S,n+1,r,a,w=>match BD l r with
  |some i=>∃o v,l[i]?=some o/\YieldsIf P l.toArray S o v a/\UC P l Q S n (r.erase i) (a.put o.dst v) w
  |none=>∀i∈r,Y7 l r i=true->wpOp P l.toArray (λ_ _ _=>False) i (λa' w'=>∃S':World->Prop,(∀w,S' w->S w)/\S' w'/\UC P l Q S' n (r.erase i) a' w') a w
theorem uj{l:List Oper}(hB:G7 l=true)(hQ:∀c a d v w,Q (.panic c) (Act.put a d v) w->Q (.panic c) a w):
  ∀(m:Nat) (S:World->Prop) (r:List Nat) (listed:Array Bool) (a:Act) (w:World),r.length=m->r.Pairwise (·<·)->(∀i,i∈r↔i<l.length/\listed.getD i true=false)->listed.size=l.length ->
   (∀j oj,l.toArray[j]?=some oj->listed.getD j false=true->∀e∈oj.after,eT .any e=true->listed.getD e.on false=true)->S w->UC P l Q S m r a w->wpAnyH P .any l.toArray Q S m listed a w:=by
 have hB':=hB;simp only[G7,ax]at hB';obtain⟨⟨hns,hord⟩,_⟩:=hB';have hsel:=Region.noSelect_spec hns;intro m
 induction m with
 |zero =>
  intro S r listed a w hm hs hr hsz hcl hS h;have:r=[]:=List.length_eq_zero_iff.1 hm;subst this;refine⟨?_,h⟩;rw[List.eq_nil_iff_forall_not_mem];intro i hi;obtain⟨h1,o,ho,_⟩:=mem_ready.1 hi;have hlt:i<l.length:=by have:=(Array.getElem?_eq_some_iff.1 ho).1;simpa using this
  have:=(hr i).2 ⟨hlt,h1⟩;cases this
 |succ m ih =>
  intro S r listed a w hm hs hr hsz hcl hS h;have hready:∀j,j∈bY .any l.toArray listed↔j∈r/\Y7 l r j=true:=by
   intro j;rw[mem_ready,hr j];constructor
   ·rintro⟨h1,o,ho,h2⟩;have hlt:j<l.length:=by have:=(Array.getElem?_eq_some_iff.1 ho).1;simpa using this
    refine⟨⟨hlt,h1⟩,?_⟩;unfold Y7;have ho':l[j]?=some o:=by simpa using ho
    rw[ho'];rw[ee];intro e he;cases hb:eT .any e with
    |false=>rfl
    |true =>
     have:=h2 e he hb;simp only[fQ,bV,fG,fj,decide_eq_false_iff_not];intro hmem;have h3:=((hr e.on).1 hmem).2;rw[getD_both h3]at this;cases this
   rintro⟨⟨hlt,h1⟩,h2⟩;obtain⟨o,ho,hed⟩:=Xa hord hlt;refine⟨h1,o,ho,λe he hb=>?_⟩;unfold Y7 at h2;have ho':l[j]?=some o:=by simpa using ho
   rw[ho',ee]at h2;have:=h2 e he;rw[hb]at this;simp only[fQ,bV,fG,fj,decide_eq_false_iff_not]at this;cases hv:listed.getD e.on false with
   |true=>rfl
   |false =>
    have hel:=hed e he hb;exact absurd ((hr e.on).2 ⟨O,getD_in O hv⟩) this
  have next:∀j,j∈bY .any l.toArray listed->∀(S:World->Prop) a' w',S w'->UC P l Q S m (r.erase j) a' w'->wpAnyH P .any l.toArray Q S m (listed.setIfInBounds j true) a' w':=by
   intro j hj S a' w' hS' h';have hjr:=((hready j).1 hj).1;have hjsz:j<listed.size:=by rw[hsz];exact((hr j).1 hjr).1
   refine ih S (r.erase j) _ a' w' (by rw[List.length_erase_of_mem hjr];omega) (hs.sublist List.erase_sublist) (λk=>?_) (by simpa using hsz) (λk ok hk hl e he hb=>?_) hS' h'
   ·rw[List.Nodup.mem_erase_iff (hs.imp λh=>Nat.ne_of_lt h),hr k];by_cases hjk:j=k
    ·subst hjk;simp[hjsz]
    rw[getD_set_ne true hjk];simp[Ne.symm hjk]
   by_cases hjk:j=k
   ·subst hjk;obtain⟨_,oj,hoj,hall⟩:=mem_ready.1 hj;have:ok=oj:=bz (hk.symm.trans hoj);subst this;exact getD_set_true (hall e he hb)
   rw[getD_set_ne false hjk]at hl;exact getD_set_true (hcl k ok hk hl e he hb)
  unfold UC at h;cases hp:BD l r with
  |some j =>
   rw[hp]at h;obtain⟨oj,v,hoj0,hy,h'⟩:=h;have hoj:l.toArray[j]?=some oj:=by simpa using hoj0
   have hjr:j∈r:=aS hp;have hqr:=eF hp;simp only[ax]at hqr;have hq:Jb oj.op=true:=by have:=hqr.1;unfold PI at this;rw[hoj0]at this;exact this
   have hj:j∈bY .any l.toArray listed:=(hready j).2 ⟨hjr,hqr.2⟩;have hjs:=mem_ready.1 hj;have happ:∀k ok,l.toArray[k]?=some ok->k≠j->listed.getD k true=false->(∀e∈ok.after,eT .any e=true->e.on≠j)->oj.apart l.toArray ok=true:=by
    intro k ok hok hkj hun hno;have hnw:bI .any l.toArray k j=false:=by
     cases hv:bI .any l.toArray k j with
     |false=>rfl
     |true =>
      obtain⟨o',ho',e,he,hb,hon⟩:=eV hv;have:o'=ok:=bz (ho'.symm.trans hok);subst this;exact absurd hon (hno e he hb)
    have hnw2:bI .any l.toArray j k=false:=by
     cases hv:bI .any l.toArray j k with
     |false=>rfl
     |true =>
      obtain⟨o',ho',e,he,hb,hon⟩:=eV hv;obtain⟨_,o2,ho2,hall⟩:=hjs;have:o'=o2:=bz (ho'.symm.trans ho2);subst this;have:=hall e he hb;rw[hon,getD_both hun]at this;cases this
    rcases Nat.lt_or_gt_of_ne hkj with hlt | hgt
    ·have:=Gq hB hlt (by simpa using hok) (by simpa using hoj) (by simp[hq]);rw[hnw2]at this;exact BR (by simpa using this)
    have:=Gq hB hgt (by simpa using hoj) (by simpa using hok) (by simp[hq]);rw[hnw]at this;simpa using this
   exact wpAnyH_first hoj hsel (λc a w h=>hQ c a _ v w h) m listed a w happ hj hy hS (next j hj S _ w hS h')
  |none =>
   rw[hp]at h
   match r,hm,hs,hr,h,hready,next with
   |i::r,hm,hs,hr,h,hready,next =>
    have hil:=(hr i).1 wv;have hmin:∀j,j<i->listed.getD j false=true:=by
     intro j hj;cases hv:listed.getD j false with
     |true=>rfl
     |false =>
      have hjl:j<l.length:=O;have:=(hr j).2 ⟨hjl,getD_in O hv⟩;rcases List.mem_cons.1 this with e | e
      ·omega
      have:=(List.pairwise_cons.1 hs).1 j e;omega
    obtain⟨oi,hoi,hed⟩:=Xa hord hil.1;have hri:i∈bY .any l.toArray listed:=mem_ready.2 ⟨hil.2,oi,hoi,λe he hb=>hmin _ (hed e he hb)⟩;refine⟨λh0=>(by rw[h0]at hri;cases hri),λj hj=>?_⟩;have hj':=(hready j).1 hj;exact Mw (wpOp_mono (λa' w' ⟨S',hs,h1,h2⟩=>⟨hs _ h1,IL hs _ _ _ _ (next j hj S' a' w' h1 h2)⟩) (h j hj'.1 hj'.2))
theorem Cw{l:List Oper}{Q':Exit->Act->World->Prop}(hB:G7 l=true)(hQ:∀c a w,¬Q' (.panic c) a w){a:Act}{w:World}(hS:S w)(h:UC P l Q' S l.length (eD 0 l.length) a w):
  wpAny P .any l.toArray Q' l.length (Array.replicate l.length false) a w:=by
 refine wpAny_of_held _ _ _ _ (uj hB (λc a d v w h=>absurd h (hQ c _ w)) l.length S (eD 0 l.length) _ a w wv List.pairwise_lt_range' (λi=>?_) wv (λj oj _ hl=>(by rw[getD_replicate_false]at hl;cases hl)) hS h);rw[List.mem_range'_1];constructor
 ·intro h;have:i<l.length:=O;simp[this]
 intro h;omega
theorem Ib{id:Nat}{a:Act}{l:List Oper}(hm:P.follows .mixedOrders=true)(hB:G7 l=true)(hS:S { w with drawn:=w.drawn+1 })
  (h:UC P l (XW (Q .normal)) S l.length (eD 0 l.length) a { w with drawn:=w.drawn+1 }):(Code.region id l.toArray true).wp P Q a w:=by
 refine wp_region_any hm ?_;have:=Cw (P:=P) (Q':=XW (Q .normal)) hB (λc a w h=>h) hS h;simpa using Kc (Q':=Q) (λe a w h=>by cases e<;>first | exact h | exact h.elim) _ _ _ _ this
end
section
variable{P:Program}{Q:Exit->Act->World->Prop}{N:Nat}{m:Sl}{E E0:Env}{l:List Oper}{r r':List Nat}{w0:World}{F0:Gs}{bs:List (Nat×Obj)}{G:Gs->Prop}
def JV(P:Program)(l:List Oper)(Q:Exit->Act->World->Prop)(E0:Env)(r:List Nat)(N:Nat)(m:Sl)(E:Env):Prop:=(∀w,St E w->St E0 w)->∀a w,JY N m a->St E w->UC P l Q (St E0) r.length r a w
def yi(P:Program)(l:List Oper)(Q:Exit->Act->World->Prop)(E:Env)(r:List Nat):Act->World->Prop:=λa w=>∃S':World->Prop,(∀w,S' w->St E w)/\S' w/\UC P l Q S' r.length r a w
def QAz(P:Program)(l:List Oper)(Q:Exit->Act->World->Prop)(E:Env)(r:List Nat):Act->World->Prop:=λa w=>UC P l Q (St E) r.length r a w
theorem P6(h:JV P l Q E0 r N m E):JD P l.toArray (XW (QAz P l Q E0 r)) E0 [] N m E:=λhE a w ha hw=>h hE a w ha hw
theorem QCq{E1:Env}(h1:∀w,St E1 w->St E0 w)(h2:∀w,St E w->St E1 w)(h:JV P l Q E1 r N m E):JD P l.toArray (XW (yi P l Q E0 r)) E0 [] N m E:=λ_ a w ha hw=>⟨St E1,h1,h2 w hw,h h2 a w ha hw⟩
theorem kT(h:JV P l Q E0 r N m E):JD P l.toArray (XW (yi P l Q E0 r)) E0 [] N m E:=λhE a w ha hw=>⟨St E0,λ_ h=>h,hE w hw,h hE a w ha hw⟩
theorem P7(i:Nat){o:Oper}(hp:BD l r=some i)(ho:l[i]?=some o)(he:r.erase i=r')(h:JD P l.toArray (XW (QAz P l Q E0 r')) E0 [o] N m E):JV P l Q E0 r N m E:=by
 intro hE a w ha hw;subst he;have hi:i∈r:=aS hp;rw[HQ hi];unfold UC;rw[hp];have hq:Jb o.op=true:=by
  have:=eF hp;simp only[ax]at this;have:=this.1;unfold PI at this;rw[ho]at this;exact this
 rcases h hE a w ha hw with ⟨_,v,h1,h2⟩ | ⟨h1,_⟩
 ·exact⟨o,v,ho,h1,h2⟩
 rw[hq]at h1;cases h1
theorem RM{o:Oper}{K:Act->World->Prop}(ho:l[i]?=some o)(hq:Jb o.op=false)(h:JD P l.toArray (XW K) E0 [o] N m E)(hE:∀w,St E w->St E0 w){a:Act}{w:World}(ha:JY N m a)(hw:St E w):
  wpOp P l.toArray (λ_ _ _=>False) i (λa' w'=>St E0 w'/\K a' w') a w:=by
 have ho':l.toArray[i]?=some o:=by simpa using ho
 unfold wpOp;simp only[ho'];rcases h hE a w ha hw with ⟨h1,_⟩ | ⟨_,h2⟩
 ·rw[hq]at h1;cases h1
 split
 ·rename_i g;rw[if_pos g]at h2;exact .inl h2
 rename_i g;rw[if_neg g]at h2;exact h2
theorem qw(i:Nat){o:Oper}(hp:BD l r=none)(hl:r.filter (Y7 l r)=[i])(ho:l[i]?=some o)(hq:Jb o.op=false)(he:r.erase i=r')(h:JD P l.toArray (XW (yi P l Q E0 r')) E0 [o] N m E)(hr:r≠[]:=by decide):JV P l Q E0 r N m E:=by
 intro hE a w ha hw;subst he;obtain⟨x,s,rfl⟩:=eI hr;show UC P l Q (St E0) (s.length+1) (x::s) a w;unfold UC;rw[hp];intro j hj hrd;have hm:j∈(x::s).filter (Y7 l (x::s)):=List.mem_filter.2 ⟨hj,hrd⟩;rw[hl]at hm;cases List.mem_singleton.1 hm;refine wpOp_mono (λa' w' ⟨_,S',h1,h2,h3⟩=>⟨S',h1,h2,?_⟩) (RM ho hq h hE ha hw);have e2:s.length=((x::s).erase i).length:=by
  have:=HQ hj;rw[aC]at this;omega
 rw[e2];exact h3
theorem uZ{id:Nat}{bs0:List (Nat×Obj)}(hb0:bs0.Sublist bs)(hm:P.follows .mixedOrders=true)(hB:G7 l=true)(hr:eD 0 l.length=r)(h:JV P l (XW (Q .normal)) ⟨w0,F0,bs0,G⟩ r N m ⟨w0,F0,bs,G⟩):J P (.region id l.toArray true) Q N m ⟨w0,F0,bs,G⟩:=λa w ha hw=>by
 subst hr;refine Ib hm hB ((hw.imp hb0 λ_ h=>h).drew) ?_;have:=h (λ_ h=>h.imp hb0 λ_ h=>h) a _ ha hw.drew;simpa using this
theorem xu(h:Fin Q .normal N m E):JV P l (XW (Q .normal)) E0 [] N m E:=λ_=>h
end
end
end
structure Lf where
 k:Int
 r:List UInt8
instance :Inhabited Lf:=⟨⟨0,[]⟩⟩
def Uj(f:Lf):List Value:=[Qs f.k,tx f.r]
def YT(f:Lf):(Uj f).length=2:=rfl
structure Xi where
 kd:List UInt8
 fd:Sr
 fl:List Lf
 ou:Int
 st:List UInt8
 cv:Sr
 cl:List (List UInt8)
variable{u:Xi}{us:List Xi}
instance :Inhabited Xi:=⟨⟨[],default,[],0,[],default,[]⟩⟩
def MR(u:Xi):List Value:=[tx u.kd,.slice u.fd.q u.fd.n u.fd.cap,Qs u.ou,tx u.st,.slice u.cv.q u.cv.n u.cv.cap]
def ZI(u:Xi):(MR u).length=5:=rfl
structure RJ(F:Gs)(u:Xi):Prop where
 fd:JC F u.fd.q u.fd.n 2 (u.fl.flatMap Uj)
 cv:JC F u.cv.q u.cv.n 1 (u.cl.map tx)
 E9:u.fl.length=u.fd.n
 Np:u.cl.length=u.cv.n
 C5:u.fd.n<=u.fd.cap
def RJ.le{F':Gs}(h:RJ F u)(k:Gs.le F F'):RJ F' u:=⟨h.fd.le k,h.cv.le k,h.E9,h.Np,h.C5⟩
instance{u:Xi}: Up (λF=>RJ F u):=⟨λk h=>RJ.le h k⟩
structure YB where
 sh:Int
 un:Sr
 ul:List Xi
 ot:Sr
 ol:List Int
@[reducible] def YB.v (p:YB):Value:=.agg #[Qs p.sh,.slice p.un.q p.un.n p.un.cap,.slice p.ot.q p.ot.n p.ot.cap]
structure GR(F:Gs)(p:YB):Prop where
 un:JC F p.un.q p.un.n 5 (p.ul.flatMap MR)
 us:∀u∈p.ul,RJ F u
 ot:JC F p.ot.q p.ot.n 1 (p.ol.map Qs)
 Mf:p.ul.length=p.un.n
 QGG:p.ol.length=p.ot.n
theorem GR.le{F':Gs}{p:YB}(h:GR F p)(k:Gs.le F F'):GR F' p:=⟨h.un.le k,λu hu=>(h.us u hu).le k,h.ot.le k,h.Mf,h.QGG⟩
instance{p:YB}: Up (λF=>GR F p):=⟨λk h=>GR.le h k⟩
def WA:List UInt8:=[105,110,116,101,103,114,97,116,111,114]
def SR:List UInt8:=[97,100,100,101,114]
def K7:List UInt8:=[116,97,98,108,101]
def SQ:WA≠SR/\WA≠K7/\SR≠K7:=wk
def Vp(sh:Int)(f:Lf):Int:=if f.k<0\/f.k>=sh then 10 else if JO f.r≠0 then JO f.r else if f.r=[48]then 6 else 0
def PC(u:Xi):Bool:=(if u.kd=WA then decide (u.fl.length=2)else if u.kd=SR then decide (1<=u.fl.length/\u.fl.length<=8)else decide (u.fl.length=1))&&(if u.kd=K7 then decide (1<=u.cl.length/\u.cl.length<=13)else decide (u.cl.length=0))
def VU(sh:Int)(u:Xi):Int :=
 if ¬(u.kd=WA\/u.kd=SR\/u.kd=K7)then 13 else if PC u=false then 2 else
  if JB (u.fl.map (Vp sh))≠0 then JB (u.fl.map (Vp sh))else if u.ou<1\/u.ou>=sh then 10 else if JO u.st≠0 then JO u.st else JB (u.cl.map JO)
structure G3(sh:Int)(u:Xi):Prop where
 kd:u.kd=WA\/u.kd=SR\/u.kd=K7
 shp:PC u=true
 fd:∀f∈u.fl,(0<=f.k/\f.k<sh)/\JO f.r=0/\J4 f.r≠0
 ou:1<=u.ou/\u.ou<sh
 st:JO u.st=0
 cv:∀a∈u.cl,JO a=0
theorem Lk(h:VU sh u=0):G3 sh u:=by
 unfold VU at h;split at h
 ·cases h
 rename_i h1;split at h
 ·cases h
 rename_i h2;split at h
 ·rename_i h3;exact absurd h h3
 rename_i h3;split at h
 ·cases h
 rename_i h4;split at h
 ·rename_i h5;exact absurd h h5
 rename_i h5;refine⟨Classical.not_not.1 h1,by simpa using h2,λf hf=>?_,O,Classical.not_not.1 h5,λa ha=>HK h _ (bm ha)⟩;have h6:=HK (Classical.not_not.1 h3) _ (bm hf);unfold Vp at h6;split at h6
 ·cases h6
 rename_i h7;split at h6
 ·rename_i h8;exact absurd h6 h8
 rename_i h8;split at h6
 ·cases h6
 rename_i h9;have h10:=Classical.not_not.1 h8;exact⟨O,h10,λe=>h9 (by rw[(ZR h10).1,e,Er])⟩
def QF8(u:Xi):Prop:=u.kd=WA/\∃a b:Lf,u.fl=[a,b]/\b.k=0/\u.cl=[]
def Ng(k:Int):List Xi->Nat->Int
 |[],_=>-1
 |u::us,i=>if u.ou=k then(i:Int)else Ng k us (i+1)
def Va(us:List Xi)(k:Int):Int:=Ng k us 0
def K6(u:Xi):List Lf:=if u.kd=WA then u.fl.drop 1 else u.fl
def Ic(us:List Xi)(out:List Int)(i:Nat):Bool:=!(decide ((i:Int)∈out))&&(K6 (el us i)).all λf=>decide (Va us f.k<0)||decide (Va us f.k∈out)
def pj(us:List Xi)(out:List Int):Option Nat:=(aE us.length).find? (Ic us out)
def vt(us:List Xi):Nat->List Int->List Int
 |0,out=>out
 |n+1,out=>match pj us out with
  |none=>out
  |some i=>vt us n (out++[(i:Int)])
def ZY(us:List Xi):List Int:=vt us us.length []
def yf(n:Nat):List Int:=(aE n).map λk:Nat=>(k:Int)
theorem QBa{n:Nat}{i:Nat}:((i:Int)∈yf n)↔i<n:=by
 unfold yf
 grind
theorem uW{l:List Int}{x:Int}:(l.any λy=>decide (y=x))=decide (x∈l):=by
 grind
def jg(u:Xi):Sr:=if u.kd=WA then⟨if u.fd.cap=1 then u.fd.q else u.fd.q.map λa=>a.add (1*2),u.fd.n-1,u.fd.cap-1⟩else u.fd
theorem QB3(l:List Lf)(j:Nat):(l.flatMap Uj).drop (j*2)=(l.drop j).flatMap Uj:=by
 induction j generalizing l with
 |zero=>simp
 |succ j ih =>
  cases l with
  |nil=>simp
  |cons a l=>rw[aQ,aB,<-ih,show(j+1)*2=2+j*2 by omega,<-eM];rfl
def MX(h:RJ F u)(hc:u.fd.n<=u.fd.cap):JC F (jg u).q (jg u).n 2 ((K6 u).flatMap Uj):=by
 unfold jg K6;split
 ·have:=h.fd.drop hc 1;rw[QB3]at this;omega
 exact h.fd
theorem jf(h:u.fl.length=u.fd.n):(K6 u).length=(jg u).n:=by
 grind[jg,K6,ar]
theorem gI:(jg u).n<=u.fd.n:=by
 unfold jg
 grind
structure dt(us:List Xi)(k:Int) where
 i:Nat
 le:i<=us.length
 h:Va us k=Ng k (us.drop i) i
def dt.next{k:Int}(s:dt us k)(h:s.i<us.length)(hne:(el us s.i).ou≠k):Va us k=Ng k (us.drop (s.i+1)) (s.i+1):=by
 rw[s.h,Gj h,Ng,if_neg hne]
def dt.hit{k:Int}(s:dt us k)(h:s.i<us.length)(e:(el us s.i).ou=k):Va us k=((s.i:Nat):Int):=by
 rw[s.h,Gj h,Ng,if_pos e]
def dt.stop{k:Int}(s:dt us k)(h:us.length<=s.i):Va us k = -1:=by
 rw[s.h,bJ h];rfl
def H8(u:Xi):Bool:=u.kd==WA
def YJ(us:List Xi):Nat:=us.countP H8
structure OwV(T:TypeId)(sz n:Nat)(l:List Value) where
 v:Value
 ob:List (Nat×Obj)
 hr:Q6 T sz v n l ob
structure OwI(T:TypeId)(sz N:Nat)(f:Nat->List Value) where
 i:Nat
 v:Value
 ob:List (Nat×Obj)
 le:i<=N
 hr:Q6 T sz v i (f i) ob
structure DnJ(n:Nat) where
 j:Nat
 le:j<=n
def FF:List (List UInt8)->Rat->Rat
 |[],_=>0
 |c::cs,x=>FF cs x*x+J4 c
theorem S6{x:Rat}(hx:Zv x<=4801):∀ {l:List _},(∀a∈l,JO a=0)->Zv (FF l x)<=l.length*7202+1
 |[],_=>by show Zv 0<=0*7202+1;decide
 |c::cs,h=>by
  have ih:=S6 hx λa ha=>h a (fh _ ha);have h1:=YS (h c (fv ..))
  grind[W3,FF,pH,J4,aC,Zv]
theorem QDg{r:Rat}{b:List UInt8}(hF:Fits F w)(hr:Zv r<=100000)(hb:JO b=0):Qi prog 162 [tx (Q8 r),tx b] w F (tx (Q8 (r+J4 b))):=by
 have h:=OI hF hr (ak (YS hb) wk)
 grind[ZR]
structure S5{α:Type}(l:List α)(p:α->Bool) where
 i:Nat
 le:i<=l.length
def S5.n{α:Type}{l:List α}{p:α->Bool}(s:S5 l p):Nat:=(l.take s.i).countP p
theorem S5.QGQ{l:List α}{p:α->Bool}(s:S5 l p):s.n<=s.i:=by
 grind[List.countP_le_length,aY,S5.n]
def Wu[Inhabited α]{l:List α}{p:α->Bool}{i:Nat}(h:i<l.length):(l.take (i+1)).countP p=(l.take i).countP p+(if p (el l i)=true then 1 else 0):=by
 rw[ZB h,fy,List.countP_singleton]
theorem qJ{n:Nat}{l:List Int}{x:Int}(hF:Fits F w)(hR:JC F q n 1 (l.map Qs))(hn:l.length=n)(hb:n<=1000000000):Qi prog 159 [.slice q n c,.int .i64 x] w F (.bool (decide (x∈l))):=by
 rw[<-uW];refine QS.intro func159 rfl wu rfl rfl hF (λF' hF'=>hR.le hF')<|QLF<|wR rfl<|QG<|QLF<|wR rfl<|QQ<|Jt (ι:=WT l λy=>decide (y=x)) [(0,_),(1,_)] (λi=>[(5,.int .i64 ((i.i:Nat):Int))]) (λi=>l.length-i.i) (WT.start _ _) wU wT λi=>QG<|wS rfl<|QJm rfl<|QA (Qc rfl Qd)<|QA (QP rfl rfl rfl)<|QF<|QD ?_
 refine QO I (λhc2=>?_) λhc2=>?_
 ·have hlt:i.i<l.length:=by simp_all
  refine QMX 8 I<|QA (Qo _ w7 rfl rfl Qd QY O)<|QA (Ql _ w7 O rfl QY (Jo O))<|QMW 4 I ?_
  refine QO I (λhc2=>?_) λhc2=>?_
  ·have heq:decide (el l i.i=x)=true:=O;refine wA 6 I ?_;exact QMn I I (congrArg _ (i.hit hlt heq)) wz
  have hne:decide (el l i.i=x)=false:=O;refine QN<|Qg<|QMY 3 I<|QA (Qn I I O)<|wB 2 I ?_
  exact Qj (i.next hlt hne) (by show l.length-(i.i+1)<l.length-i.i;omega) wV QKK w7
 have hge:l.length<=i.i:=by simp_all
 refine JK ?_;refine wA 6 I ?_;exact QMn I I (congrArg _ (Bool.eq_false_iff.2 (i.stop hge))) wz
theorem OA(hF:Fits F w)(hU:RJ F u)(hc:u.fd.n<=u.fd.cap)(h1:1<=u.fd.n):Qi prog 160 [.agg (MR u).toArray] w F (jg u).v:=by
 refine QS.intro func160 rfl wu rfl rfl hF (λF' hF'=>hU.le hF')<|QLF<|Q9 rfl rfl λb1=>wR rfl<|QG<|QLF<|QA (QH rfl KM Y5)<|QA (Qp rfl Y5 .here .h1)<|QA (Xc rfl rfl)<|QF<|QD ?_
 refine QO I (λhc2=>?_) λhc2=>?_
 ·have hk:u.kd=WA:=by grind[WA]
  refine QLF<|QA (QH I Zz Xd)<|QA (Qp I Xd .here (.skip .h1))<|QA (Es 1 rfl rfl rfl YV Kf h1 hc)<|wR I<|QU ?_
  exact QMn I I (by simp_all[jg,if_pos]) wz
 have hk:u.kd≠WA:=by grind[WA]
 refine QMX 4 I<|QA (QH I Zz Xd)<|QA (Qp I Xd .here (.skip .h1))<|wR I<|QU ?_
 exact QMn I I (by simp_all[jg,if_neg]) wz
theorem qK{p:YB}{k:Int}(hF:Fits F w)(hP:GR F p)(hb:p.un.n<=1000000000):Qi prog 35 [p.v,.int .i64 k] w F (.int .i64 (Va p.ul k)):=by
 have Ax:=hP.Mf;refine QS.intro func35 rfl wu rfl rfl hF (λF' hF'=>hP.le hF')<|QLF<|Q9 rfl rfl λb2=>wR rfl<|QG<|QLF<|wR rfl<|QQ<|Jt (ι:=dt p.ul k) [(1,_),(2,_)] (λi=>[(5,.int .i64 ((i.i:Nat):Int))]) (λi=>p.ul.length-i.i) (⟨0,aj _,rfl⟩) wU wT λi=>QG<|wS rfl<|QA (QH rfl XP Jf)<|QA (Qp rfl Jf .here (.skip .h1))<|QA (Qc rfl Xk)<|QA (QP rfl rfl rfl)<|QF<|QD ?_
 refine QO I (λhc2=>?_) λhc2=>?_
 ·have hlt:i.i<p.ul.length:=by simp_all
  refine QMX 6 I<|QA (QH I XP Jf)<|QA (Qp I Jf .here (.skip .h1))<|QJm I<|QA (Qo _ (λF hP=>hP.un) rfl rfl Xk XJ O)<|QA (QH I Yf QY)<|QA (Ql ((i.i)*5+2) (λF hP=>hP.un) O rfl QY (JR ZI O rfl))<|QMW 4 I ?_
  refine QO I (λhc2=>?_) λhc2=>?_
  ·have heq:(el p.ul i.i).ou=k:=by simp_all
   refine wA 7 I ?_;exact QMn I I (congrArg _ (i.hit hlt heq)) wz
  have hne:(el p.ul i.i).ou≠k:=by simp_all
  refine QN<|Qg<|QMY 3 I<|QA (Qn I I O)<|wB 2 I ?_
  exact Qj (⟨i.i+1,hlt,i.next hlt hne⟩) (by grind) wV QKK w7
 have hge:p.ul.length<=i.i:=by simp_all
 refine JK ?_;refine wA 6 I ?_;exact QMn I I (congrArg _ (i.stop hge)) wz
theorem Rp{p:YB}(hF:Fits F w)(hP:GR F p)(hb:p.un.n<=1000000000):Qi prog 84 [p.v] w F (.int .i64 (YJ p.ul:Nat)):=by
 have Ax:=hP.Mf;refine QS.intro func84 rfl wu rfl rfl hF (λF' hF'=>hP.le hF')<|QLF<|Q9 rfl rfl λb1=>wR rfl<|QLF<|wR rfl<|QG<|QLF<|wR rfl<|QQ<|Jt (ι:=S5 p.ul H8) [(1,_)] (λi=>[(3,.int .i64 ((i.n:Nat):Int)),(4,.int .i64 ((i.i:Nat):Int))]) (λi=>p.ul.length-i.i) (⟨0,aj _⟩) wT wU λi=>?_
 have hin:=i.QGQ;refine wA 4 I<|QA (QH I XP Jf)<|QA (Qp I Jf .here (.skip .h1))<|QA (Qc I Xk)<|QMW 3 I ?_
 refine QO I (λhc2=>?_) λhc2=>?_
 ·have hlt:i.i<p.ul.length:=by simp_all
  refine QMX 6 I<|QA (QH I XP Jf)<|QA (Qp I Jf .here (.skip .h1))<|QJm I<|QA (Qo _ (λF hP=>hP.un) rfl rfl Xk XJ O)<|QA (QH I KM Y5)<|QA (Ql ((i.i)*5+0) (λF hP=>hP.un) O rfl Y5 (JR ZI O rfl))<|QA (Xc I I)<|QF<|QD ?_
  refine QO I (λhc2=>?_) λhc2=>?_
  ·have hk:H8 _=true:=hc2;refine wA 2 I<|QA (Qn I I O)<|wB 2 I<|Qg<|QMY 3 I<|QA (Qn I I O)<|wB 2 I ?_
   exact Qj (⟨i.i+1,hlt⟩) (by grind) ⟨rfl,(congrArg (λz:Int=>some _) (by unfold S5.n;rw[Wu hlt,if_pos hk];rfl)),rfl,trivial⟩ QKK w7
  have hk:H8 _=false:=hc2;refine QN<|Qg<|QMY 3 I<|QA (Qn I I O)<|wB 2 I ?_
  exact Qj (⟨i.i+1,hlt⟩) (by grind) ⟨rfl,(congrArg (λz:Int=>some _) (by unfold S5.n;rw[Wu hlt,if_neg (by simp_all)];rfl)),rfl,trivial⟩ QKK w7
 have hge:p.ul.length<=i.i:=by simp_all
 refine JK ?_;refine wA 7 I ?_;exact QMn I I (congrArg (λn:Nat=>aa .i64 (n:Int)) (by unfold S5.n;rw[ai hge];rfl)) wz
theorem QAs{bs:List _}{n:Int}(hb:n<=1000000):YQ prog 161 [.int .i64 n] ⟨w0,F0,bs,G⟩ (λ(c:OwV 48 1 n.toNat (aD n.toNat (tx [48])))=>c.v) (λc=>⟨w0,F0,c.ob++bs,G⟩):=by
 refine YQ.intro func161 rfl wu rfl rfl<|QLF<|wR rfl<|QLF<|wR rfl<|QG<|QLF<|wR rfl<|QQ<|XC (ι:=OwI 48 1 n.toNat λi=>aD i (tx [48])) [(0,_)] (λi=>[(3,i.v),(4,.int .i64 ((i.i:Nat):Int))]) (λi=>i.ob++bs) (λi F=>True) (λi=>n.toNat-i.i) (⟨0,_,[],aj _,.nil⟩) wT wU QKK wz λi=>?_
 have hi:=i.le;refine wA 8 I ?_;refine QO I (λhc2=>?_) λhc2=>?_
 ·have hlt:i.i<n.toNat:=by simp_all
  refine QMX 6 I<|JG I (J2 Z2) Ja QFe I I λb11=>?_
  refine EP (news:=[tx [48]]) I I Z2 Ja QFe I QFX i.hr (Src.row w9 (λj q hq=>by rw[ae];rw[aG];exact hq) rfl) O O (ZC wT) (λv12 ob12 hr12=>?_);refine wB 2 I<|Qg<|QMY 3 I<|QA (Qn I I O)<|wB 2 I ?_
  exact Qj (⟨i.i+1,v12,ob12,hlt,by grind[List.replicate_succ']⟩) (by grind) wV QKK λF h=>⟨h.1.1,trivial⟩
 have hge:i.i=n.toNat:=by grind
 refine JK ?_;refine wA 7 I ?_;exact G5 (⟨i.v,i.ob,by have h:=i.hr;simp_all⟩) I (wO I) (rfl) λw hw=>hw.imp QKK w8
theorem ur{n:Nat}{l:List _}{x:Rat}(hF:Fits F w)(hR:JC F q n 1 (l.map tx))(hn:l.length=n)(hl:n<=13)(hx:Zv x<=4801)(hc:∀a∈l,JO a=0):Qi prog 87 [.slice q n c,tx (Q8 x)] w F (tx (Q8 (FF l x))):=by
 refine QS.intro func87 rfl wu rfl rfl hF (λF' hF'=>hR.le hF')<|QLF<|wR rfl<|QLF<|wR rfl<|QG<|wS rfl<|QA (Qc rfl Z2)<|QA (Jg rfl rfl O)<|wR rfl<|QQ<|Jt (ι:=DnJ _) [(0,_),(1,_)] (λi=>[(5,tx (Q8 (FF (l.drop i.j) x))),(6,.int .i64 (((i.j:Nat):Int)-1))]) (λi=>i.j) (⟨l.length,aq _⟩) wU ⟨(by show some _=some _;rw[fJ];show _=some (tx (Q8 0));rw[Er]),(congrArg (λz:Int=>some _) (by simp_all)),trivial⟩ λi=>?_
 have hi:=i.le;have hsz:=S6 (l:=l.drop i.j) hx (λa ha=>hc a (aR ha));rw[ar]at hsz;refine wA 7 I ?_;refine QO I (λhc2=>?_) λhc2=>?_
 ·have hpos:1<=i.j:=by grind
  have hcm:=hc _ (Q2 (show i.j-1<l.length by omega));refine QMX 4 I<|JE QKK mixed wj<|QJ (QC I)<|QJ (QC I)<|QZ I (λ_ _ f k=>Th f O O) λ_=>QJ (QC I)<|QJ (QC I)<|QJ (Qo ((i.j-1)) w7 rfl (congrArg (λz:Int=>some _) O) Z2 Ja O)<|QJ (Ql _ w7 O rfl Ja (Jo O))<|QZ I (λ_ _ f k=>QDg f (ak (W3 _ _) O) hcm) λ_=>QJ (QE I)<|Qy<|Qg<|QMY 3 I<|QA (Jg I I O)<|wB 2 I ?_
  exact Qj (⟨i.j-1,O⟩) (by grind) ⟨rfl,rfl,(by show some (tx _)=some (tx _);rw[Gj (i:=i.j-1) O,show i.j-1+1=i.j by omega];rfl),(congrArg (λz:Int=>some (aa .i64 z)) (by grind)),trivial⟩ QKK λF h=>h.1.1
 have h0:i.j=0:=by grind
 refine JK ?_;refine wA 7 I ?_;exact QMn I I (by simp_all) wz
structure S2(us:List Xi)(out:List Int):Prop where
 nd:out.Nodup
 rg:∀x∈out,0<=x/\x<(us.length:Int)
 eq:ZY us=vt us (us.length-out.length) out
 le:out.length<=us.length
theorem Oi:∀(n:Nat) (l:List Int),l.Nodup->(∀x∈l,0<=x/\x<(n:Int))->l.length<=n:=by
 intro n l hl hr;have h1:(l.map Int.toNat).Nodup:=by
  refine List.pairwise_map.2 (hl.imp_of_mem λha hb hne e=>hne ?_)
  grind
 have:=NM n _ h1 λj hj=>by
  grind
 simp_all
def S2.start(us:List Xi):S2 us []:=⟨List.nodup_nil,λx h=>(by cases h),rfl,aj _⟩
theorem QDc{i:Nat}(h:Ic us out i=true):(i:Int)∉out:=by
 simp_all[Ic,ax]
theorem S2.next(s:S2 us out){i:Nat}(hi:i<us.length)(h:pj us out=some i):S2 us (out++[(i:Int)])/\out.length<us.length:=by
 have hr:=eF h;have hn:=QDc hr;have nd:(out++[(i:Int)]).Nodup:=by
  rw[List.nodup_append];exact⟨s.nd,wv,λa ha b hb e=>by simp_all⟩
 have rg:∀x∈out++[(i:Int)],0<=x/\x<(us.length:Int):=λx hx=>by
  rcases List.mem_append.1 hx with hx | hx
  ·exact s.rg x hx
  simp_all
 have hl:=Oi _ _ nd rg;rw[af]at hl;have hl1:[(i:Int)].length=1:=rfl;refine⟨⟨nd,rg,?_,by simp_all⟩,O⟩;rw[s.eq,show us.length-out.length=(us.length-(out++[(i:Int)]).length)+1 by grind,vt,h]
def S2.stop(s:S2 us out)(h:pj us out=none):ZY us=out:=by
 rw[s.eq];cases us.length-out.length with
 |zero=>rfl
 |succ n=>rw[vt,h]
theorem QDo(us:List Xi):∀n out,S2 us out->us.length-out.length<=n->S2 us (ZY us):=by
 intro n
 induction n with
 |zero =>
  intro out s h;have e:ZY us=out:=by rw[s.eq,show us.length-out.length=0 by omega];rfl
  simp_all
 |succ n ih =>
  intro out s h;cases hx:pj us out with
  |none=>rw[s.stop hx];exact s
  |some i =>
   have hi:=List.mem_range.1 (aS hx);exact ih _ (s.next hi hx).1 (by grind)
def jY(us:List Xi):S2 us (ZY us):=QDo us _ [] (S2.start us) (aq _)
def pk(us:List Xi)(out:List Int)(j:Nat):Int:=match ((aE us.length).drop j).find? (Ic us out)with
 |some i=>(i:Int)
 |none=>-1
theorem OH{n:Nat}(h:j<n):(aE n).drop j=j::(aE n).drop (j+1):=by
 grind[List.drop_eq_getElem_cons]
def QDw(us:List Xi)(out:List Int):pk us out us.length = -1:=by
 unfold pk;rw[bJ wv];rfl
theorem QDv(h:j<us.length)(hr:Ic us out j=true):pk us out j=j:=by
 grind[pk,OH]
theorem ya(h:j<us.length)(hr:Ic us out j=false):pk us out j=pk us out (j+1):=by
 grind[pk,OH]
def QFF:pk us out 0=match pj us out with
  |some i=>(i:Int)
  |none=>-1:=rfl
theorem QDu(h:pk us out 0<0):pj us out=none:=by
 rw[QFF]at h
 grind
theorem QDt(h:¬pk us out 0<0):∃i:Nat,pj us out=some i/\i<us.length/\pk us out 0=i:=by
 rw[QFF]at h ⊢;cases hx:pj us out with
 |none=>simp_all
 |some i=>exact⟨i,rfl,List.mem_range.1 (aS hx),rfl⟩
def okF(us:List Xi)(out:List Int)(f:Lf):Bool:=decide (Va us f.k<0)||decide (Va us f.k∈out)
def rdK(us:List Xi)(out:List Int)(i k:Nat):Bool:=!(decide ((i:Int)∈out))&&((K6 (el us i)).take k).all (okF us out)
def QIZ(us:List Xi)(out:List Int)(i:Nat):rdK us out i 0=!(decide ((i:Int)∈out)):=by simp[rdK]
theorem yI{k:Nat}(h:k<(K6 (el us i)).length)(hr:rdK us out i k=true):rdK us out i (k+1)=okF us out (el (K6 (el us i)) k):=by
 simp_all[rdK,ax,ZB,List.all_append]
def QDd{k:Nat}(h:(K6 (el us i)).length<=k):rdK us out i k=Ic us out i:=by
 unfold rdK;rw[ai h];rfl
theorem qL{k:Nat}(h:rdK us out i k=false):Ic us out i=false:=by
 cases hr:Ic us out i with
 |false=>rfl
 |true =>
  have:rdK us out i k=true:=by
   unfold Ic at hr;unfold rdK;rw[ax]at hr ⊢;exact⟨hr.1,List.all_eq_true.2 λf hf=>List.all_eq_true.1 hr.2 f (bg hf)⟩
  simp_all
structure QK4(us:List Xi)(out:List Int)(i:Nat) where
 k:Nat
 b:Bool
 le:k<=(K6 (el us i)).length
 h:b=rdK us out i k
structure QK9(us:List Xi) where
 out:List Int
 v:Value
 ob:List (Nat×Obj)
 ok:S2 us out
 hr:Q6 3 1 v out.length (out.map Qs) ob
def UnB(us:List Xi):Prop:=∀u∈us,1<=u.fd.n/\u.fd.n<=1000000000
def RF(sh:Int)(us:List Xi):List (List UInt8):=us.foldl (λl u=>l.set u.ou.toNat u.st) (aD sh.toNat [48])
theorem PA(sh:Int)(us:List Xi):(RF sh us).length=sh.toNat:=by
 unfold RF
 suffices ∀(us:List Xi) (l:List _),(us.foldl (λl u=>l.set u.ou.toNat u.st) l).length=l.length by simp_all
 intro us
 induction us<;>simp_all
def zh(h:i<us.length):RF sh (us.take (i+1))=(RF sh (us.take i)).set (el us i).ou.toNat (el us i).st:=by
 unfold RF;rw[ZB h,er];rfl
theorem Wl{f:α->Value}{l:List α}{rest:List Value}(hi:i<l.length)(x:α):Yz (l.map f++rest) (0+i*1) [f x] ((l.set i x).map f++rest):=by
 have e0:l=l.take i++l[i]::l.drop (i+1):=wv;have e1:l.set i x=l.take i++x::l.drop (i+1):=by grind
 have a1:l.map f++rest=(l.take i).map f++([f l[i]]++((l.drop (i+1)).map f++rest)):=by
  grind
 have a2:(l.set i x).map f++rest=(l.take i).map f++([f x]++((l.drop (i+1)).map f++rest)):=by
  simp_all
 rw[a1,a2,show 0+i*1=((l.take i).map f).length by grind];exact jT I
theorem L7{p:YB}(hF:Fits F w)(hP:GR F p)(hb:p.un.n<=1000000)(hu:UnB p.ul):QS prog 85 [p.v] w F (λ(c:Sr)=>c.v) (λc F=>JC F c.q c.n 1 ((ZY p.ul).map Qs)/\c.n=(ZY p.ul).length/\c.n<=c.cap):=by
 have Ax:=hP.Mf;refine QS.intro func85 rfl wu rfl rfl hF (λF' hF'=>hP.le hF')<|QLF<|Q9 rfl rfl λb1=>wR rfl<|QG<|JN .here<|QB<|wR rfl<|QQ<|XC (ι:=QK9 p.ul) [(1,_)] (λi=>[(3,i.v)]) (λi=>i.ob) (λi F=>True) (λi=>p.ul.length-i.out.length) (⟨[],_,[],S2.start _,.nil⟩) wT wT QKK wz λi=>?_
 have hole:=i.ok.le;refine wA 9 I<|QA (QH I XP Jf)<|QA (QW 1 (λF h9=>h9.1.2) rfl Jf I)<|QA (Qc I Xk)<|QA (Jg I I O)<|wR I<|QQ<|Jt (ι:=DnJ p.ul.length) [(1,_),(3,_)] (λi2=>[(4,.int .i64 (pk p.ul i.out i2.j)),(5,.int .i64 (((i2.j:Nat):Int)-1))]) (λi2=>i2.j) (⟨p.ul.length,aq _⟩) wU ⟨(congrArg (λz:Int=>some (aa .i64 z)) (by rw[QDw])),(congrArg (λz:Int=>some (aa .i64 z)) (by simp_all)),trivial⟩ λi2=>?_
 have hi2:=i2.le;refine wA 7 I ?_;refine QO I (λhc2=>?_) λhc2=>?_
 ·have hpos:1<=i2.j:=by grind
  have hlt2:i2.j-1<p.ul.length:=O;have hum:=Q2 hlt2;have hu1:=hu _ hum;have hml:=jf (hP.us _ hum).E9;have hmle:=gI (u:=el p.ul (i2.j-1));refine QMX 8 I<|uc i.hr w7 rfl (λw F q c e hcap hR hF ⟨⟨hP,hz1⟩,_⟩=>by rw[e];exact qJ hF hR rfl O) λ_ _=>QA (Xv I)<|QMW 5 I<|QA (QH I XP Jf)<|QA (QW 1 (λF h9=>h9.1.2) rfl Jf I)<|QJm I<|QA (Qo ((i2.j-1)) (λF h9=>h9.1.1.un) rfl wN Xk XJ O)<|QA (XE (((i2.j-1))*5) (λF h9=>h9.1.1.un) O rfl XJ I λj v hv=>JR ZI O hv)<|QL I (λ_ _ f k=>OA f (k.1.1.us _ hum) (k.1.1.us _ hum).C5 hu1.1) λ_=>QMW 10 I<|Jt (ι:=QK4 p.ul i.out (i2.j-1)) [(1,_),(3,_),(4,_),(5,_),(7,_)] (λi3=>[(6,.bool (i3.b)),(8,.int .i64 ((i3.k:Nat):Int))]) (λi3=>(K6 (el p.ul (i2.j-1))).length-i3.k) (⟨0,!(decide (((i2.j-1:Nat):Int)∈i.out)),aj _,(QIZ _ _ _).symm⟩) wX ⟨(congrArg (λz:Int=>some (ah !(decide (z∈i.out)))) O),rfl,trivial⟩ λi3=>?_
  have hk3:=i3.le;refine wA 5 I<|QA (Qc I YV)<|wB 2 I ?_
  refine Qa (t:=32) rfl (λhb32=>?_) λhb32=>?_
  ·have hlt3:i3.k<(K6 (el p.ul (i2.j-1))).length:=by simp_all
   refine QMW 5 I ?_;refine QO I (λhc2=>?_) λhc2=>?_
   ·have hbt:=hc2;refine QMX 5 I<|JE QKK mixed wj<|QJ (Jj (λF h9=>h9.1.1.2) rfl ZL I)<|QJ (QC I)<|QJ (QC I)<|QJ (Qo (i3.k) (λF h9=>(MX (h9.1.1.1.us _ hum) (h9.1.1.1.us _ hum).C5)) I I YV Kf O)<|QJ (QH I GQ QY)<|QJ (Ql ((i3.k)*2+0) (λF h9=>(MX (h9.1.1.1.us _ hum) (h9.1.1.1.us _ hum).C5)) O rfl QY (JR (l:=(K6 (el p.ul (i2.j-1)))) YT O rfl))<|QZ I (λ_ _ f k=>qK f k.1.1.1 O) λ_=>QJ (QE I)<|Qy<|QMY 5 I ?_
    refine Qa (t:=46) rfl (λhb46=>?_) λhb46=>?_
    ·refine wB 6 I<|Qg<|QMY 3 I<|QA (Qn I I O)<|wB 2 I ?_
     exact Qj (⟨i3.k+1,true,hlt3,by rw[yI hlt3 (by rw[<-i3.h];omega)];unfold okF;simp_all⟩) (by grind) wZ QKK w8
    refine wB 5 I<|uc (sz:=1) i.hr w7 rfl (λw F q c e hcap hR hF ⟨⟨⟨⟨hP,hz1⟩,_⟩,_⟩,_⟩=>by rw[e];exact qJ hF hR rfl O) λ_ _=>wB 3 I<|Qg<|QMY 3 I<|QA (Qn I I O)<|wB 2 I ?_
    exact Qj (⟨i3.k+1,decide (Va p.ul (el (K6 (el p.ul (i2.j-1))) i3.k).k∈i.out),hlt3,by rw[yI hlt3 (by rw[<-i3.h];omega)];unfold okF;grind⟩) (by grind) wZ QKK w8
   have hfls:=hc2;refine JK ?_;refine wA 5 I ?_;refine QO I (λhc2=>?_) λhc2=>?_
   ·have hrd:Ic p.ul i.out (i2.j-1)=true:=by
     simp_all
    simp_all
   have hrd:Ic p.ul i.out (i2.j-1)=false:=qL (k:=i3.k) (by rw[<-i3.h];omega);refine QN<|Qg<|QMY 3 I<|QA (Jg I I O)<|wB 2 I ?_
   exact Qj (⟨i2.j-1,O⟩) (by grind) ⟨rfl,rfl,(congrArg (λz:Int=>some (aa .i64 z)) (by grind[ya])),(congrArg (λz:Int=>some (aa .i64 z)) (by grind)),trivial⟩ QKK w8
  have hge3:(K6 (el p.ul (i2.j-1))).length<=i3.k:=by simp_all
  refine QMW 4 I<|Zg I<|JK ?_
  refine wA 5 I ?_;refine QO I (λhc2=>?_) λhc2=>?_
  ·have hrd:Ic p.ul i.out (i2.j-1)=true:=by
    first
    |exact absurd hc2 (by rw[hfls];decide)
    |(rw[<-QDd hge3,<-i3.h];omega)
   refine wA 4 I<|Qg<|QMY 3 I<|QA (Jg I I O)<|wB 2 I ?_
   exact Qj (⟨i2.j-1,O⟩) (by grind) ⟨rfl,rfl,(congrArg (λz:Int=>some (aa .i64 z)) (by grind[QDv])),(congrArg (λz:Int=>some (aa .i64 z)) (by grind)),trivial⟩ QKK w8
  have hrd:Ic p.ul i.out (i2.j-1)=false:=qL (k:=i3.k) (by rw[<-i3.h];omega);refine QN<|Qg<|QMY 3 I<|QA (Jg I I O)<|wB 2 I ?_
  exact Qj (⟨i2.j-1,O⟩) (by grind) ⟨rfl,rfl,(congrArg (λz:Int=>some (aa .i64 z)) (by grind[ya])),(congrArg (λz:Int=>some (aa .i64 z)) (by grind)),trivial⟩ QKK w8
 have h20:i2.j=0:=by grind
 refine JK ?_;refine wA 7 I ?_;refine QO I (λhc2=>?_) λhc2=>?_
 ·have hnone:pj p.ul i.out=none:=QDu (by simp_all);refine QG<|QB ?_
  have hre:=i.ok.stop hnone;obtain⟨rr,hv,hrn,hrc,hfix⟩:=Q6.fix (w0:=w) (F0:=F) (bs1:=[]) (G:=_) i.hr;refine H5 hfix ?_;rw[hv];refine QMW 4 I<|ZS ?_
  exact QM (rr) rfl (wO I) (rfl) λF ⟨⟨⟨hP,hz1⟩,_⟩,hrow⟩=>by simp_all
 obtain⟨k,hk1,hk2,hk3⟩:=QDt (us:=p.ul) (out:=i.out) (by simp_all);have hnext:=i.ok.next hk2 hk1;refine QMX 5 I<|JG I (J2 Qd) QY HZ I I λb58=>Yi (bs1:=[]) (ob:=i.ob) (k:=1) (sz:=1) (news:=[.int .i64 (pk p.ul i.out i2.j)]) I I Qd QY HZ I WR i.hr (Src.row (off:=0) w9 (λj v hv=>by rw[ae];show([.int .i64 (pk p.ul i.out i2.j)].toArray)[j]?=some v;simp_all) rfl) O O (ZC wT) λv59 ob59 hr59=>wB 2 I<|Qg ?_
 exact Qj (⟨i.out++[((k:Nat):Int)],v59,ob59,hnext.1,by rw[bL,af];have:=hr59;rw[h20,hk3]at this;exact this⟩) (by grind) wU QKK λF h=>⟨h.1.1,trivial⟩
structure UnL(u:Xi):Prop where
 fn:u.fd.n<=1000000
 cn:u.cv.n<=1000000
 st:u.st.length<=1000000
 fr:∀f∈u.fl,f.r.length<=1000000
 ca:∀a∈u.cl,a.length<=1000000
structure IxJ(n:Nat) where
 i:Nat
 le:i<=n
def UE(kd:List UInt8):Int:=if kd=WA then 2 else 1
def Ou(kd:List UInt8):Int:=if kd=WA then 2 else if kd=SR then 8 else 1
abbrev gW(kd:List UInt8):Prop:=kd=WA\/kd=SR\/kd=K7
def Ki(u:Xi):Bool:=decide ((u.fl.length:Int)<UE u.kd)||decide ((u.fl.length:Int)>Ou u.kd)||(u.kd==K7&&(decide ((u.cl.length:Int)<1)||decide ((u.cl.length:Int)>13)))||(u.kd != K7&&decide ((u.cl.length:Int)>0))
theorem I0(h:gW u.kd):PC u=!Ki u:=by
 unfold PC Ki UE Ou
 grind
theorem Y3(h:¬gW u.kd):VU sh u=13:=by simp_all[VU,if_pos,WA,SR,K7]
theorem Y2(h:gW u.kd)(hs:Ki u=true):VU sh u=2:=by
 unfold VU;rw[if_neg (Classical.not_not.2 (show u.kd=WA\/u.kd=SR\/u.kd=K7 from h)),if_pos (by rw[I0 h,hs];rfl)]
section
variable{sh:Int}{u:Xi}(h:gW u.kd)(hs:Ki u=false)
include h hs
theorem X5{x:Int}(fe9:JB (u.fl.map (Vp sh))=x)(hx:x≠0):VU sh u=x:=by
 unfold VU;rw[if_neg (Classical.not_not.2 (show u.kd=WA\/u.kd=SR\/u.kd=K7 from h)),if_neg (by grind[I0,decide]),if_pos O,fe9]
theorem W2(fe9:JB (u.fl.map (Vp sh))=0)(ho:u.ou<1\/u.ou>=sh):VU sh u=10:=by
 unfold VU;rw[if_neg (Classical.not_not.2 (show u.kd=WA\/u.kd=SR\/u.kd=K7 from h)),if_neg (by grind[I0,decide]),if_neg (Classical.not_not.2 fe9),if_pos ho]
theorem WU(fe9:JB (u.fl.map (Vp sh))=0)(ho:¬(u.ou<1\/u.ou>=sh)):VU sh u=if JO u.st≠0 then JO u.st else JB (u.cl.map JO):=by
 unfold VU;rw[if_neg (Classical.not_not.2 (show u.kd=WA\/u.kd=SR\/u.kd=K7 from h)),if_neg (by grind[I0,decide]),if_neg (Classical.not_not.2 fe9),if_neg ho]
end
theorem QDY{n:Nat}{l:List _}(hF:Fits F w)(hR:JC F q n 1 (l.map tx))(hl:l.length=n)(hs:∀s∈l,s.length<=1000000)(hn:n<=1000000):Qi prog 158 [.slice q n c] w F (.int .i64 (JB (l.map JO))):=IT hF hR ⟨hl,hs⟩ hn
theorem qE{p:YB}(hF:Fits F w)(hP:GR F p)(hb:p.un.n<=1000000)(hs:1<=p.sh/\p.sh<=1000000)(hou:∀u∈p.ul,0<=u.ou/\u.ou<p.sh):QS prog 86 [p.v] w F (λ(c:Sr)=>c.v) (λc F=>JC F c.q c.n 1 ((RF p.sh p.ul).map tx)/\c.n=p.sh.toNat/\c.n<=c.cap):=by
 have Ax:=hP.Mf;refine QS.intro func86 rfl wu rfl rfl hF (λF' hF'=>hP.le hF')<|QLF<|Q9 rfl rfl λb1=>wR rfl<|QG<|JN .here<|QB<|QA (QH rfl K9 QY)<|QA (QW 0 w9 rfl QY rfl)<|S3 rfl (aW _) (QAs O) λc7=>?_
 obtain⟨v7,ob7,hr7⟩:=c7;obtain⟨b7,cap7,rest7,e1,e2,e3,e4,e5,e6⟩:=hr7.pos O;dsimp only;rw[e1,e2,show aD _ (tx [48])=(RF p.sh (p.ul.take 0)).map tx by simp[RF]];rw[List.length_replicate]at e4;refine QMW 10 I<|XC (ι:=IxJ p.ul.length) [(1,_),(3,_)] (λi=>[(4,.int .i64 ((i.i:Nat):Int))]) (λi=>[(b7,.cells ((RF p.sh (p.ul.take i.i)).map tx++rest7).toArray 48 (0,0))]) (λi F=>True) (λi=>p.ul.length-i.i) (⟨0,aj _⟩) wU wT QKK wz λi=>?_
 have hi:=i.le;refine wA 4 I<|QA (QH I XP Jf)<|QA (QW 1 (λF h9=>h9.1.2) rfl Jf I)<|QA (Qc I Xk)<|QMW 3 I ?_
 refine QO I (λhc2=>?_) λhc2=>?_
 ·have hlt:i.i<p.ul.length:=by simp_all
  have ho:=hou _ (Q2 hlt);refine QMX 4 I<|Je 14 QKK mixed wj wj ?_
  simp only[bj,aM,aB,bT];refine QJ (QC I)<|QJ (QH I XP Jf)<|QJ (QW 1 (λF h9=>h9.1.2) rfl Jf I)<|QJ (QC I)<|QJ (Qo i.i (λF h9=>h9.1.1.un) rfl rfl Xk XJ O)<|QJ (QH I Yf QY)<|QJ (Ql ((i.i)*5+2) (λF h9=>h9.1.1.un) O rfl QY (JR ZI O rfl))<|QJ (QH I XP Jf)<|QJ (QW 1 (λF h9=>h9.1.2) rfl Jf I)<|QJ (QC I)<|QJ (Qo i.i (λF h9=>h9.1.1.un) rfl rfl Xk XJ O)<|QJ (QH I BN Ja)<|QJ (Ql ((i.i)*5+3) (λF h9=>h9.1.1.un) O rfl Ja (JR ZI O rfl))<|QJ (Qm (i:=(el p.ul i.i).ou.toNat) rfl wN Z2 Ja O)<|X7<|QV I I I Ja I .here (Wl (by grind[PA]) (el p.ul i.i).st) wT ?_
  rw[<-zh hlt];refine QF<|Qg<|QMY 3 I<|QA (Qn I I O)<|wB 2 I ?_
  exact Qj (⟨i.i+1,hlt⟩) (by grind) wV QKK λF h=>⟨h.1,trivial⟩
 have hge:p.ul.length<=i.i:=by simp_all
 have hll:=PA p.sh (p.ul.take i.i);refine JK ?_;refine QG<|QB ?_
 obtain⟨rr,hv,hrn,hrc,hfix⟩:=Q6.fix (bs1:=[]) (Q6.some (sz:=1) (l:=(RF p.sh (p.ul.take i.i)).map tx) (rest:=rest7) (by simp_all) (by simp_all) e5 e6);refine H5 hfix ?_;rw[hv];refine QMW 5 I ?_;exact QM (rr) rfl (wO I) (rfl) λF ⟨⟨⟨hP,hz1⟩,_⟩,hrow⟩=>by grind
theorem jS{p:YB}(hF:Fits F w)(hU:RJ F u)(hL:UnL u):Qi prog 83 [p.v,.agg (MR u).toArray] w F (.int .i64 (VU p.sh u)):=by
 have hfl:=hU.E9;have hcl:=hU.Np;have hfn:=hL.fn;have hcn:=hL.cn;refine QS.go (G:=λF=>RJ F u) func83 hF hU ?_;refine QLF<|Q9 I (vs:=[_,_,_]) I λb2=>Q9 I (vs:=[_,_,_,_,_]) I λb3=>wR I<|QG<|JN (b:=b2) .u1<|JN (b:=b3) .here<|QMX 5 I ?_
 refine K4 (ι:=PLift (gW u.kd)) [(2,_),(3,_)] (λk3=>[(5,.int .i64 (UE u.kd)),(6,.int .i64 (Ou u.kd))]) (λk3=>[]) (λk3 F=>True) (by trivial) ?_ ?_
 ·refine QLF<|QA (QH I KM Y5)<|QA (QW 0 w9 rfl Y5 I)<|QMW 5 I<|QA (Xc I I)<|QMW 3 I ?_
  refine QO I (λhc2=>?_) λhc2=>?_
  ·have hkI:u.kd=WA:=by grind[WA]
   refine wA 4 I<|Qg ?_
   exact Kb (⟨.inl hkI⟩) ⟨rfl,rfl,(congrArg (λz:Int=>some (aa .i64 z)) (by simp_all[UE,if_pos])),(congrArg (λz:Int=>some (aa .i64 z)) (by simp_all[Ou,if_pos])),trivial⟩ QKK λF h9=>⟨⟨⟨h9.1.1,h9.1.2⟩,h9.2⟩,trivial⟩
  have hkI:u.kd≠WA:=by grind[WA]
  refine QLF<|QA (Xc I I)<|QMW 3 I ?_
  refine QO I (λhc2=>?_) λhc2=>?_
  ·have hkA:u.kd=SR:=by grind[SR]
   refine wA 4 I<|Qg ?_
   exact Kb (⟨.inr (.inl hkA)⟩) ⟨rfl,rfl,(congrArg (λz:Int=>some (aa .i64 z)) (by simp_all[UE,if_neg])),(congrArg (λz:Int=>some (aa .i64 z)) (by simp_all[Ou,if_neg,if_pos])),trivial⟩ QKK λF h9=>⟨⟨⟨h9.1.1,h9.1.2⟩,h9.2⟩,trivial⟩
  have hkA:u.kd≠SR:=by grind[SR]
  refine QLF<|QA (Xc I I)<|QMW 3 I ?_
  refine QO I (λhc2=>?_) λhc2=>?_
  ·have hkT:u.kd=K7:=by grind[K7]
   refine wA 4 I<|Qg ?_
   exact Kb (⟨.inr (.inr hkT)⟩) ⟨rfl,rfl,(congrArg (λz:Int=>some (aa .i64 z)) (by simp_all[UE,if_neg])),(congrArg (λz:Int=>some (aa .i64 z)) (by simp_all[Ou,if_neg])),trivial⟩ QKK λF h9=>⟨⟨⟨h9.1.1,h9.1.2⟩,h9.2⟩,trivial⟩
  have hkT:u.kd≠K7:=by grind[K7]
  refine wA 5 I<|ZS ?_
  exact QMn I I (congrArg (aa .i64) (by
   first
   |grind[Y3]
   |exact Y2 hk3 (by unfold Ki K7;rw[hfl,hcl];simp_all)
   |exact X5 hk3 hs ((i.hit hlt (by rw[hfe];decide)).trans hfe) wk
   |exact X5 hk3 hs (i.hit hlt h90) h90
   |exact W2 hk3 hs hfz hoo
   |exact WU hk3 hs hfz hko)) wz
 intro k3;have hk3:=k3.down;refine QLF<|QA (QH I Wp Xg)<|QA (QW 4 (λF h9=>h9.1.2) rfl Xg I)<|QA (Qc I Z2)<|QMW 3 I ?_
 refine K4 (ι:=PLift (Ki u=false)) [(2,_),(3,_)] (λks=>[]) (λks=>[]) (λks F=>True) (by trivial) ?_ ?_
 ·refine QLF<|QA (QH I Zz Xd)<|QA (QW 1 (λF h9=>h9.1.2) rfl Xd I)<|QA (Qc I YV)<|wB 3 I ?_
  refine Qa (t:=28) rfl (λhb28=>?_) λhb28=>?_
  ·refine wB 11 I<|Qz I I<|Qz I I<|Qz I I<|Qz I I<|Qz I I<|Qz I I<|wB 7 I<|Qz I I<|Qz I I<|QMW 4 I<|Jv I<|wA 6 I ?_
   exact QMn I I (congrArg (aa .i64) (by
    first
    |exact Y3 λh=>h.elim hkI λh=>h.elim hkA hkT
    |grind[Y2,Ki,K7]
    |exact X5 hk3 hs ((i.hit hlt (by rw[hfe];decide)).trans hfe) wk
    |exact X5 hk3 hs (i.hit hlt h90) h90
    |exact W2 hk3 hs hfz hoo
    |exact WU hk3 hs hfz hko)) wz
  refine QK I I<|QA (QH I Zz Xd)<|QK I I<|QA (QW 1 (λF h9=>h9.1.2) rfl Xd I)<|QK I I<|QA (Qc I YV)<|wB 6 I ?_
  refine Qa (t:=35) rfl (λhb35=>?_) λhb35=>?_
  ·refine wB 4 I<|Qz I I<|Qz I I<|Qz I I<|Qz I I<|Qz I I<|Qz I I<|wB 7 I<|Qz I I<|Qz I I<|QMW 4 I<|Jv I<|wA 6 I ?_
   exact QMn I I (congrArg (aa .i64) (by
    first
    |exact Y3 λh=>h.elim hkI λh=>h.elim hkA hkT
    |grind[Y2,Ki,K7]
    |exact X5 hk3 hs ((i.hit hlt (by rw[hfe];decide)).trans hfe) wk
    |exact X5 hk3 hs (i.hit hlt h90) h90
    |exact W2 hk3 hs hfz hoo
    |exact WU hk3 hs hfz hko)) wz
  refine QK I I<|QA (QH I KM Y5)<|QK I I<|QA (QW 0 (λF h9=>h9.1.2) rfl Y5 I)<|QK I I<|QA (Xc I I)<|wB 2 I ?_
  refine Qa (t:=39) rfl (λhb39=>?_) λhb39=>?_
  ·refine wB 6 I ?_;refine Qa (t:=42) rfl (λhb42=>?_) λhb42=>?_
   ·refine wB 12 I<|Qz I I<|Qz I I<|QMW 4 I<|Jv I<|wA 6 I ?_
    exact QMn I I (congrArg (aa .i64) (by
     first
     |exact Y3 λh=>h.elim hkI λh=>h.elim hkA hkT
     |grind[Y2,Ki,K7]
     |exact X5 hk3 hs ((i.hit hlt (by rw[hfe];decide)).trans hfe) wk
     |exact X5 hk3 hs (i.hit hlt h90) h90
     |exact W2 hk3 hs hfz hoo
     |exact WU hk3 hs hfz hko)) wz
   refine wB 10 I ?_;refine Qa (t:=48) rfl (λhb48=>?_) λhb48=>?_
   ·refine wB 4 I<|Qz I I<|Qz I I<|QMW 4 I<|Jv I<|wA 6 I ?_
    exact QMn I I (congrArg (aa .i64) (by
     first
     |exact Y3 λh=>h.elim hkI λh=>h.elim hkA hkT
     |grind[Y2,Ki,K7]
     |exact X5 hk3 hs ((i.hit hlt (by rw[hfe];decide)).trans hfe) wk
     |exact X5 hk3 hs (i.hit hlt h90) h90
     |exact W2 hk3 hs hfz hoo
     |exact WU hk3 hs hfz hko)) wz
   refine QK I I<|QA (QH I KM Y5)<|QK I I<|QA (QW 0 (λF h9=>h9.1.2) rfl Y5 I)<|QK I I<|QA (Rv I I)<|wB 2 I ?_
   refine Qa (t:=52) rfl (λhb52=>?_) λhb52=>?_
   ·refine QMW 9 I ?_;refine QO I (λhc2=>?_) λhc2=>?_
    ·refine wA 6 I ?_;exact QMn I I (congrArg (aa .i64) (by
      simp_all)) wz
    refine QN ?_;exact Kb (⟨by simp_all⟩) wU QKK λF h9=>⟨⟨⟨⟨h9.1.1.1,h9.1.1.2⟩,h9.1.2⟩,trivial⟩,trivial⟩
   refine QMW 7 I<|Zg I<|QN ?_
   exact Kb (⟨by grind[Ki,K7]⟩) wU QKK λF h9=>⟨⟨⟨⟨h9.1.1.1,h9.1.1.2⟩,h9.1.2⟩,trivial⟩,trivial⟩
  refine wB 3 I<|Qz I I<|Qz I I<|wB 6 I<|QA (QH I KM Y5)<|QK I I<|QA (QW 0 (λF h9=>h9.1.2) rfl Y5 I)<|QK I I<|QA (Rv I I)<|wB 2 I ?_
  refine Qa (t:=52) rfl (λhb52=>?_) λhb52=>?_
  ·refine QMW 9 I ?_;refine QO I (λhc2=>?_) λhc2=>?_
   ·refine wA 6 I ?_;exact QMn I I (congrArg (aa .i64) (by
     first
     |exact Y3 λh=>h.elim hkI λh=>h.elim hkA hkT
     |grind[Y2,Ki,K7]
     |exact X5 hk3 hs ((i.hit hlt (by rw[hfe];decide)).trans hfe) wk
     |exact X5 hk3 hs (i.hit hlt h90) h90
     |exact W2 hk3 hs hfz hoo
     |exact WU hk3 hs hfz hko)) wz
   refine QN ?_;exact Kb (⟨by grind[Ki,K7]⟩) wU QKK λF h9=>⟨⟨⟨⟨h9.1.1.1,h9.1.1.2⟩,h9.1.2⟩,trivial⟩,trivial⟩
  refine QMW 7 I<|Zg I<|QN ?_
  exact Kb (⟨by simp_all⟩) wU QKK λF h9=>⟨⟨⟨⟨h9.1.1.1,h9.1.1.2⟩,h9.1.2⟩,trivial⟩,trivial⟩
 intro ks;have hs:=ks.down;refine wA 7 I<|Jt (ι:=Ya u.fl (Vp p.sh)) [(2,_),(3,_)] (λi=>[(8,.int .i64 ((i.i:Nat):Int))]) (λi=>u.fl.length-i.i) (Ya.start _ _) wU wT λi=>?_
 have hi:=i.le;refine wA 4 I<|QA (QH I Zz Xd)<|QA (QW 1 (λF h9=>h9.1.1.2) rfl Xd I)<|QA (Qc I YV)<|QMW 3 I ?_
 refine QO I (λhc2=>?_) λhc2=>?_
 ·have hlt:i.i<u.fl.length:=by simp_all
  refine QMX 6 I<|QA (QH I Zz Xd)<|QA (QW 1 (λF h9=>h9.1.1.2) rfl Xd I)<|QJm I<|QA (Qo (n:=u.fd.n) i.i (λF h9=>(h9.1.1.1.1).fd) rfl rfl YV Kf O)<|QA (XE (n:=u.fd.n) (vs:=[.int .i64 ((el u.fl i.i).k),tx (el u.fl i.i).r]) ((i.i)*2) (λF h9=>(h9.1.1.1.1).fd) O rfl Kf I λj v hv=>JR (f:=Uj) (l:=u.fl) YT O hv)<|Qk QDL λb9=>QV (vs:=[_,_]) I I I Kf I .here .h2 wU<|QMW 5 I<|QA (QH I GQ QY)<|QA (Qp I QY .here .h1)<|wB 2 I ?_
  refine Qa (t:=72) rfl (λhb72=>?_) λhb72=>?_
  ·have hfe:Vp p.sh (el u.fl i.i)=10:=by simp_all[Vp,if_pos]
   refine QMW 8 I<|Jv I<|wA 5 I<|ZS ?_
   exact QMn I I (congrArg (aa .i64) (by
    first
    |exact Y3 λh=>h.elim hkI λh=>h.elim hkA hkT
    |exact Y2 hk3 (by unfold Ki K7;rw[hfl,hcl];simp_all)
    |exact X5 hk3 hs ((i.hit hlt O).trans hfe) wk
    |exact X5 hk3 hs (i.hit hlt h90) h90
    |exact W2 hk3 hs hfz hoo
    |exact WU hk3 hs hfz hko)) wz
  have hk0:¬(el u.fl i.i).k<0:=by simp_all
  refine QK I I<|QA (QH I GQ QY)<|QK I I<|QA (Qp I QY .here .h1)<|QK I I<|QA (QH I K9 QY)<|QK I I<|QA (QW 0 (λF h9=>h9.1.1.1.2) rfl QY I)<|QMW 5 I ?_
  refine QO I (λhc2=>?_) λhc2=>?_
  ·have hfe:Vp p.sh (el u.fl i.i)=10:=by simp_all[Vp,if_pos]
   refine wA 5 I<|ZS ?_
   exact QMn I I (congrArg (aa .i64) (by
    first
    |exact Y3 λh=>h.elim hkI λh=>h.elim hkA hkT
    |exact Y2 hk3 (by unfold Ki K7;rw[hfl,hcl];simp_all)
    |exact X5 hk3 hs ((i.hit hlt O).trans hfe) wk
    |exact X5 hk3 hs (i.hit hlt h90) h90
    |exact W2 hk3 hs hfz hoo
    |exact WU hk3 hs hfz hko)) wz
  have hkk:¬((el u.fl i.i).k<0\/(el u.fl i.i).k>=p.sh):=λh=>h.elim hk0 (by simp_all);refine QMX 4 I<|QA (QH I BM Ja)<|QA (Qp I Ja .here (.skip .h1))<|QL I (λ_ _ f k=>NG f (ak (hL.fr _ (Q2 hlt)) wk)) λ_=>QMW 3 I ?_
  refine Xq [(2,_),(3,_),(8,_),(73,_),(74,_),(75,_),(76,_),(77,_)] [(10,.int .i64 (Vp p.sh (el u.fl i.i)))] wa ?_ ?_
  ·refine wA 5 I ?_;refine Qa (t:=84) rfl (λhb84=>?_) λhb84=>?_
   ·have hz84:JO (el u.fl i.i).r=0:=by simp_all
    refine QK I I<|QA (QH I BM Ja)<|QK I I<|QA (Qp I Ja .here (.skip .h1))<|QK I I<|QL I (λ_ _ f k=>I1 f) λ_=>QMW 3 I ?_
    refine QO I (λhc2=>?_) λhc2=>?_
    ·have fe6:Vp p.sh (el u.fl i.i)=6:=by simp_all[Vp,if_neg,if_pos]
     refine wA 3 I ?_;exact Jc ⟨rfl,rfl,rfl,rfl,rfl,rfl,rfl,rfl,(congrArg (λz:Int=>some (aa .i64 z)) (by rw[fe6])),trivial⟩ QKK w8
    have fe0:Vp p.sh (el u.fl i.i)=JO (el u.fl i.i).r:=by simp_all[Vp,if_neg]
    refine QN ?_;exact Jc ⟨rfl,rfl,rfl,rfl,rfl,rfl,rfl,rfl,(congrArg (λz:Int=>some (aa .i64 z)) (by rw[fe0])),trivial⟩ QKK w8
   have hz84:JO (el u.fl i.i).r≠0:=by simp_all
   have fe1:Vp p.sh (el u.fl i.i)=JO (el u.fl i.i).r:=by simp_all[Vp,if_neg,if_pos]
   refine QMW 6 I<|Zg I<|QN ?_
   exact Jc ⟨rfl,rfl,rfl,rfl,rfl,rfl,rfl,rfl,(congrArg (λz:Int=>some (aa .i64 z)) (by rw[fe1])),trivial⟩ QKK w7
  refine wA 6 I ?_;refine QO I (λhc2=>?_) λhc2=>?_
  ·have h90:Vp p.sh (el u.fl i.i)≠0:=by simp_all
   refine wA 6 I<|ZS ?_
   exact QMn I I (congrArg (aa .i64) (by
    first
    |exact Y3 λh=>h.elim hkI λh=>h.elim hkA hkT
    |exact Y2 hk3 (by unfold Ki K7;rw[hfl,hcl];simp_all)
    |exact X5 hk3 hs ((i.hit hlt (by rw[hfe];decide)).trans hfe) wk
    |exact X5 hk3 hs (i.hit hlt h90) h90
    |exact W2 hk3 hs hfz hoo
    |exact WU hk3 hs hfz hko)) wz
  have h90:Vp p.sh (el u.fl i.i)=0:=by simp_all
  refine QN<|Qg<|QMY 3 I<|QA (Qn I I O)<|wB 2 I ?_
  exact Qj (i.next hlt h90) (by show u.fl.length-(i.i+1)<u.fl.length-i.i;omega) wV (tB) w8
 have hge:u.fl.length<=i.i:=by simp_all
 have hfz:=i.stop hge;refine JK ?_;refine K4 (ι:=PLift (¬(u.ou<1\/u.ou>=p.sh))) [(3,_)] (λko=>[]) (λko=>[]) (λko F=>True) (by trivial) ?_ ?_
 ·refine QLF<|QA (QH I Yf QY)<|QA (QW 2 (λF h9=>h9.1.1.2) rfl QY I)<|wB 2 I ?_
  refine Qa (t:=95) rfl (λhb95=>?_) λhb95=>?_
  ·have hoo:u.ou<1\/u.ou>=p.sh:=.inl (by simp_all);refine QMW 8 I<|Jv I<|wA 6 I ?_
   exact QMn I I (congrArg (aa .i64) (by
    first
    |exact Y3 λh=>h.elim hkI λh=>h.elim hkA hkT
    |exact Y2 hk3 (by unfold Ki K7;rw[hfl,hcl];simp_all)
    |exact X5 hk3 hs ((i.hit hlt (by rw[hfe];decide)).trans hfe) wk
    |exact X5 hk3 hs (i.hit hlt h90) h90
    |grind[W2]
    |exact WU hk3 hs hfz hko)) wz
  have ho1:¬u.ou<1:=by simp_all
  refine QK I I<|QA (QH I Yf QY)<|QK I I<|QA (QW 2 (λF h9=>h9.1.1.2) rfl QY I)<|QK I I<|QA (QH I K9 QY)<|QK I I<|QA (QW 0 (λF h9=>h9.1.1.1.2) rfl QY I)<|QMW 5 I ?_
  refine QO I (λhc2=>?_) λhc2=>?_
  ·have hoo:u.ou<1\/u.ou>=p.sh:=.inr (by simp_all);refine wA 6 I ?_;exact QMn I I (congrArg (aa .i64) (by
    first
    |exact Y3 λh=>h.elim hkI λh=>h.elim hkA hkT
    |exact Y2 hk3 (by unfold Ki K7;rw[hfl,hcl];simp_all)
    |exact X5 hk3 hs ((i.hit hlt (by rw[hfe];decide)).trans hfe) wk
    |exact X5 hk3 hs (i.hit hlt h90) h90
    |exact W2 hk3 hs hfz hoo
    |exact WU hk3 hs hfz hko)) wz
  have hko:¬(u.ou<1\/u.ou>=p.sh):=λh=>h.elim ho1 (by simpa using hc2);refine QN ?_;exact Kb (⟨hko⟩) wT QKK λF h9=>⟨⟨⟨⟨⟨h9.1.1.1.1,h9.1.1.1.2⟩,h9.1.1.2⟩,trivial⟩,trivial⟩,trivial⟩
 intro ko;have hko:=ko.down;refine QLF<|QA (QH I BN Ja)<|QA (QW 3 (λF h9=>h9.1.1.1.2) rfl Ja I)<|QL I (λ_ _ f k=>NG f (ak hL.st wk)) λ_=>QMW 3 I ?_
 refine Xq [] [(11,.int .i64 (if JO u.st≠0 then JO u.st else JB (u.cl.map JO)))] trivial ?_ ?_
 ·refine wA 6 I ?_;refine QO I (λhc2=>?_) λhc2=>?_
  ·refine QB<|QA (QH I Wp Xg)<|QA (QW 4 (λF h9=>h9.1.1.1.1.2) rfl Xg I)<|QL I (λ_ _ f k=>QDY f k.1.1.1.1.1.1.cv hcl hL.ca hcn) λ_=>wB 2 I ?_
   exact Jc ⟨(congrArg (λz:Int=>some (aa .i64 z)) (by rw[if_neg (by simpa using hc2)])),trivial⟩ QKK w8
  refine QN ?_;exact Jc ⟨(congrArg (λz:Int=>some (aa .i64 z)) (by rw[if_pos (by simpa using hc2)])),trivial⟩ QKK w7
 refine wA 7 I ?_;exact QMn I I (congrArg (aa .i64) (by
  first
  |exact Y3 λh=>h.elim hkI λh=>h.elim hkA hkT
  |exact Y2 hk3 (by unfold Ki K7;rw[hfl,hcl];simp_all)
  |exact X5 hk3 hs ((i.hit hlt (by rw[hfe];decide)).trans hfe) wk
  |exact X5 hk3 hs (i.hit hlt h90) h90
  |exact W2 hk3 hs hfz hoo
  |exact WU hk3 hs hfz hko)) wz
def Md(sh:Int)(k:Int):Bool:=decide (k<0)||decide (k>=sh)
def Nn(us:List Xi)(k:Int):Nat:=us.countP λu=>decide (u.ou=k)
def C8(us:List Xi)(i:Nat):Bool:=decide (Nn us ((i:Int)+1)≠1)
def Ab(sh:Int)(us:List Xi):Bool:=(aE (sh.toNat-1)).any (C8 us)
def QKI(sh:Int)(us:List Xi)(u:Xi):Rat:=FF u.cl (J4 (el u.fl 0).r*J4 (el (RF sh us) (el u.fl 0).k.toNat))
def WW(sh:Int)(us:List Xi)(u:Xi):Bool:=u.kd==K7&&u.st != Q8 (QKI sh us u)
def Vo(p:YB):Int :=
 if p.sh<1\/p.sh>100 then 3 else if p.ul.length>96 then 5 else if JB (p.ul.map (VU p.sh))≠0 then JB (p.ul.map (VU p.sh))else
 if p.ol.length>24 then 5 else if p.ol.any (Md p.sh)=true then 10 else if YJ p.ul>24 then 5 else if Ab p.sh p.ul=true then 19 else
 if(ZY p.ul).length<p.ul.length then 18 else if p.ul.any (WW p.sh p.ul)=true then 30 else 0
theorem Z0(h:G3 sh u):1<=u.fl.length/\u.fl.length<=8:=by
 have h1:=h.shp;unfold PC at h1
 grind
theorem G6(h:G3 sh u):u.cl.length<=13:=by
 have h1:=h.shp;unfold PC at h1
 grind
theorem vM(h:∀u∈us,JO u.st=0):∀s∈RF sh us,JO s=0:=by
 suffices ∀(us:List Xi) (l:List _),(∀u∈us,JO u.st=0)->(∀s∈l,JO s=0)->∀s∈us.foldl (λl u=>l.set u.ou.toNat u.st) l,JO s=0 from
  this us _ h λs hs=>by rw[(List.mem_replicate.1 hs).2];decide
 intro us
 induction us<;>grind
structure QC8(p:YB):Prop where
 un:p.un.n<=1000000
 ot:p.ot.n<=1000000
 us:∀u∈p.ul,UnL u
theorem U6{p:YB}(hF:Fits F w)(hP:GR F p)(hL:QC8 p):Qi prog 33 [p.v] w F (.int .i64 (Vo p)):=by
 have Ax:=hP.Mf;have hol:=hP.QGG;have hun:=hL.un;have hot:=hL.ot;refine QS.go (G:=λF=>GR F p) func33 hF hP ?_;refine QLF<|Q9 I (vs:=[_,_,_]) I λb1=>QMW 5 I<|JN (b:=b1) .here<|QB<|QA (QH I K9 QY)<|QA (QW 0 w9 rfl QY I)<|wB 2 I ?_
 refine Qa (t:=15) rfl (λhb15=>?_) λhb15=>?_
 ·refine QMW 6 I<|Jv I<|wA 6 I ?_
  exact QMn I I (congrArg (aa .i64) (by simp_all[Vo,if_pos])) wz
 have hs1:¬p.sh<1:=by simp_all
 refine QK I I<|QA (QH I K9 QY)<|QK I I<|QA (QW 0 w9 rfl QY I)<|QMW 5 I ?_
 refine QO I (λhc2=>?_) λhc2=>?_
 ·refine wA 6 I ?_;exact QMn I I (congrArg (aa .i64) (by simp_all[Vo,if_pos])) wz
 have h1:¬(p.sh<1\/p.sh>100):=λh=>h.elim hs1 (by simp_all);refine QMX 5 I<|QA (QH I XP Jf)<|QA (QW 1 w9 rfl Jf I)<|QA (Qc I Xk)<|QMW 3 I ?_
 refine QO I (λhc2=>?_) λhc2=>?_
 ·have h2:p.ul.length>96:=by grind
  refine wA 6 I ?_;exact QMn I I (congrArg (aa .i64) (by simp_all[Vo,if_neg,if_pos])) wz
 have h2:¬p.ul.length>96:=by grind
 refine QMX 9 I<|Jt (ι:=Ya p.ul (VU p.sh)) [(1,_)] (λi=>[(3,.int .i64 ((i.i:Nat):Int))]) (λi=>p.ul.length-i.i) (Ya.start _ _) wT wT λi=>?_
 have hi:=i.le;refine wA 4 I<|QA (QH I XP Jf)<|QA (QW 1 w9 rfl Jf I)<|QA (Qc I Xk)<|QMW 3 I ?_
 refine QO I (λhc2=>?_) λhc2=>?_
 ·have hlt:i.i<p.ul.length:=by simp_all
  refine QMX 5 I<|JE QKK mixed wj<|QJ (Jj w9 rfl ZL I)<|QJ (QH I XP Jf)<|QJ (QW 1 w9 rfl Jf I)<|QJ (QC I)<|QJ (Qo (n:=p.un.n) i.i (λF h9=>h9.1.un) rfl rfl Xk XJ O)<|QJ (XE (n:=p.un.n) (vs:=[tx (el p.ul i.i).kd,.slice (el p.ul i.i).fd.q (el p.ul i.i).fd.n (el p.ul i.i).fd.cap,Qs ((el p.ul i.i).ou),tx (el p.ul i.i).st,.slice (el p.ul i.i).cv.q (el p.ul i.i).cv.n (el p.ul i.i).cv.cap]) ((i.i)*5) (λF h9=>h9.1.un) O rfl XJ I λj v hv=>JR (f:=MR) (l:=p.ul) ZI O hv)<|QZ I (λ_ _ f k=>jS f (k.1.us _ (Q2 hlt)) (hL.us _ (Q2 hlt))) λ_=>QJ (QE I)<|Qy<|QMY 7 I ?_
  refine QO I (λhc2=>?_) λhc2=>?_
  ·have h39:VU p.sh (el p.ul i.i)≠0:=by simp_all
   refine wA 6 I<|ZS ?_
   exact QMn I I (congrArg (aa .i64) (by unfold Vo;rw[if_neg h1,if_neg h2,if_pos (by rw[i.hit hlt h39];omega)];exact i.hit hlt h39)) wz
  have h39:VU p.sh (el p.ul i.i)=0:=by simp_all
  refine QN<|Qg<|QMY 3 I<|QA (Qn I I O)<|wB 2 I ?_
  exact Qj (i.next hlt h39) (by show p.ul.length-(i.i+1)<p.ul.length-i.i;omega) wU QKK w8
 have hge:p.ul.length<=i.i:=by simp_all
 have h3:=i.stop hge;have hUO:∀u∈p.ul,G3 p.sh u:=λu hu=>Lk (HK h3 _ (bm hu));have hUB:UnB p.ul:=λu hu=>by have h1:=Z0 (hUO u hu);have h2:=(hP.us _ hu).E9;omega
 refine JK ?_;refine QG<|QLF<|QA (QH I US Qu)<|QA (QW 2 w9 rfl Qu I)<|QA (Qc I Qd)<|QMW 3 I ?_
 refine QO I (λhc2=>?_) λhc2=>?_
 ·have h4:p.ol.length>24:=by grind
  refine wA 6 I ?_;exact QMn I I (congrArg (aa .i64) (by simp_all[Vo,if_neg,if_pos])) wz
 have h4:¬p.ol.length>24:=by grind
 refine QMX 9 I<|Jt (ι:=WT p.ol (Md p.sh)) [(1,_)] (λi2=>[(5,.int .i64 ((i2.i:Nat):Int))]) (λi2=>p.ol.length-i2.i) (WT.start _ _) wT wT λi2=>?_
 have hi2:=i2.le;refine wA 4 I<|QA (QH I US Qu)<|QA (QW 2 w9 rfl Qu I)<|QA (Qc I Qd)<|QMW 3 I ?_
 refine QO I (λhc2=>?_) λhc2=>?_
 ·have hlt2:i2.i<p.ol.length:=by simp_all
  refine QMX 5 I<|JE QKK mixed wj<|QJ (QH I US Qu)<|QJ (QW 2 w9 rfl Qu I)<|QJ (QC I)<|QJ (Qo (n:=p.ot.n) (i2.i) (λF h9=>h9.1.ot) rfl rfl Qd QY O)<|QJ (Ql (n:=p.ot.n) ((i2.i)*1) (λF h9=>h9.1.ot) O rfl QY (Jo (f:=Qs) (l:=p.ol) O))<|QJ (QP I I I)<|QJ (QC I) ?_
  refine KH (t:=58) rfl (λhb58=>?_) λhb58=>?_
  ·refine Q7 I I I<|Q7 I I I<|Q7 I I I<|Q7 I I I<|Q7 I I I<|Q7 I I I<|Q7 I I I<|Q7 I I I<|QJ (QR I I I)<|Qy<|QD<|Jv I<|wA 5 I<|ZS ?_
   exact QMn I I (congrArg (aa .i64) (by unfold Vo;rw[if_neg h1,if_neg h2,if_neg (Classical.not_not.2 h3),if_neg h4,if_pos (i2.hit hlt2 (by unfold Md;simp_all))])) wz
  refine JA I I<|QJ (QH I US Qu)<|JA I I<|QJ (QW 2 w9 rfl Qu I)<|JA I I<|QJ (QC I)<|JA I I<|QJ (Qo (n:=p.ot.n) (i2.i) (λF h9=>h9.1.ot) rfl rfl Qd QY O)<|JA I I<|QJ (Ql (n:=p.ot.n) ((i2.i)*1) (λF h9=>h9.1.ot) O rfl QY (Jo (f:=Qs) (l:=p.ol) O))<|JA I I<|QJ (QH I K9 QY)<|JA I I<|QJ (QW 0 w9 rfl QY I)<|JA I I<|QJ (QP I I I)<|QJ (QT I I I)<|Qy<|QD ?_
  refine QO I (λhc2=>?_) λhc2=>?_
  ·refine wA 5 I<|ZS ?_
   exact QMn I I (congrArg (aa .i64) (by unfold Vo;rw[if_neg h1,if_neg h2,if_neg (Classical.not_not.2 h3),if_neg h4,if_pos (i2.hit hlt2 (by simp_all[Md,decide,el,eW]))])) wz
  refine QN<|Qg<|QMY 3 I<|QA (Qn I I O)<|wB 2 I ?_
  exact Qj (i2.next hlt2 (by unfold Md;simp_all)) (by show p.ol.length-(i2.i+1)<p.ol.length-i2.i;omega) wU QKK w7
 have hge2:p.ol.length<=i2.i:=by simp_all
 have h5:=i2.stop hge2;refine JK ?_;refine QG<|QLF<|QA (Jj w9 rfl ZL I)<|QL I (λ_ _ f k=>Rp f k.1 O) λ_=>QMW 3 I ?_
 refine QO I (λhc2=>?_) λhc2=>?_
 ·have h6:YJ p.ul>24:=by grind
  refine wA 6 I ?_;exact QMn I I (congrArg (aa .i64) (by simp_all[Vo,if_neg,if_pos])) wz
 have h6:¬YJ p.ul>24:=by grind
 refine QMX 9 I<|Jt (ι:=WT (aE (p.sh.toNat-1)) (C8 p.ul)) [(1,_)] (λi3=>[(6,.int .i64 (((i3.i:Nat):Int)+1))]) (λi3=>p.sh.toNat-1-i3.i) (WT.start _ _) wT wT λi3=>?_
 have hi3:=i3.le;rw[bB]at hi3;refine wA 4 I<|QA (QH I K9 QY)<|QA (QW 0 (λF h9=>h9.1.2) rfl QY I)<|QMW 3 I ?_
 refine QO I (λhc2=>?_) λhc2=>?_
 ·have hlt3:i3.i<p.sh.toNat-1:=by grind
  refine QMX 16 I<|Jt (ι:=S5 p.ul λu=>decide (u.ou=((i3.i:Nat):Int)+1)) [(1,_),(6,_)] (λi4=>[(7,.int .i64 ((i4.n:Nat):Int)),(8,.int .i64 ((i4.i:Nat):Int))]) (λi4=>p.ul.length-i4.i) (⟨0,aj _⟩) wU wU λi4=>?_
  have hi4:=i4.le;have hin4:=i4.QGQ;refine wA 4 I<|QA (QH I XP Jf)<|QA (QW 1 (λF h9=>h9.1.2) rfl Jf I)<|QA (Qc I Xk)<|QMW 3 I ?_
  refine QO I (λhc2=>?_) λhc2=>?_
  ·have hlt4:i4.i<p.ul.length:=by simp_all
   refine QMX 6 I<|QA (QH I XP Jf)<|QA (QW 1 (λF h9=>h9.1.2) rfl Jf I)<|QJm I<|QA (Qo (n:=p.un.n) (i4.i) (λF h9=>h9.1.1.un) rfl rfl Xk XJ O)<|QA (QH I Yf QY)<|QA (Ql (n:=p.un.n) ((i4.i)*5+2) (λF h9=>h9.1.1.un) O rfl QY (JR (f:=MR) (l:=p.ul) ZI O rfl))<|QMW 4 I ?_
   refine QO I (λhc2=>?_) λhc2=>?_
   ·refine wA 2 I<|QA (Qn I I O)<|wB 2 I<|Qg<|QMY 3 I<|QA (Qn I I O)<|wB 2 I ?_
    exact Qj (⟨i4.i+1,hlt4⟩) (by grind) ⟨rfl,rfl,(congrArg (λz:Int=>some (aa .i64 z)) (by unfold S5.n;dsimp only;rw[Wu hlt4,if_pos (by simpa using hc2)];rfl)),rfl,trivial⟩ QKK w7
   refine QN<|Qg<|QMY 3 I<|QA (Qn I I O)<|wB 2 I ?_
   exact Qj (⟨i4.i+1,hlt4⟩) (by show p.ul.length-(i4.i+1)<p.ul.length-i4.i;omega) ⟨rfl,rfl,(congrArg (λz:Int=>some (aa .i64 z)) (by unfold S5.n;dsimp only;rw[Wu hlt4,if_neg (by simpa using hc2)];rfl)),rfl,trivial⟩ QKK w7
  have hge4:p.ul.length<=i4.i:=wi<|QLs hc2
  have hcn:i4.n=Nn p.ul (((i3.i:Nat):Int)+1):=by unfold S5.n;rw[ai hge4];rfl
  refine JK ?_;refine wA 6 I ?_;refine QO I (λhc2=>?_) λhc2=>?_
  ·have hbad:C8 p.ul (el (aE (p.sh.toNat-1)) i3.i)=true:=by rw[CL hlt3];unfold C8;rw[<-hcn];exact decide_eq_true λe=>by rw[e]at hc2;exact absurd hc2 wk
   refine wA 5 I<|ZS ?_
   exact QMn I I (congrArg (aa .i64) (by unfold Vo;rw[if_neg h1,if_neg h2,if_neg (Classical.not_not.2 h3),if_neg h4,if_neg h5,if_neg h6,if_pos (show Ab p.sh p.ul=true from i3.hit (by rw[bB];exact hlt3) hbad)])) wz
  have hbad:C8 p.ul (el (aE (p.sh.toNat-1)) i3.i)=false:=by rw[CL hlt3];unfold C8;rw[<-hcn];exact decide_eq_false λe=>e (by have:=hc2;simp at this;omega)
  refine QN<|Qg<|QMY 3 I<|QA (Qn I I O)<|wB 2 I ?_
  exact Qj (i3.next (by rw[bB];exact hlt3) hbad) (by show p.sh.toNat-1-(i3.i+1)<p.sh.toNat-1-i3.i;omega) ⟨rfl,(congrArg (λz:Int=>some (aa .i64 z)) wu),trivial⟩ QKK w7
 have hge3:p.sh.toNat-1<=i3.i:=wi<|QLs hc2
 have h7:¬Ab p.sh p.ul=true:=i3.stop (by rw[bB];exact hge3);refine JK ?_;refine QG<|QG<|JE QKK mixed wj<|QJ (Jj (λF h9=>h9.1.2) rfl ZL I)<|QZ I (λ_ _ f k=>L7 f k.1.1 hun hUB) λc97=>Gm _ (λ_ _ f k=>k.2.2.1) λn97=>QJ (Qc I Qd)<|QJ (QH I XP Jf)<|QJ (QW 1 (λF h9=>h9.1.2) rfl Jf I)<|QJ (Qc I Xk)<|QJ (QP I I I)<|Qy<|QD ?_
 refine QO I (λhc2=>?_) λhc2=>?_
 ·have h8:(ZY p.ul).length<p.ul.length:=wi<|QLr hc2
  refine wA 6 I ?_;exact QMn I I (congrArg (aa .i64) (by unfold Vo;rw[if_neg h1,if_neg h2,if_neg (Classical.not_not.2 h3),if_neg h4,if_neg h5,if_neg h6,if_neg h7,if_pos h8])) wz
 have h8:¬(ZY p.ul).length<p.ul.length:=wi<|QLs hc2
 refine QMX 4 I<|QA (Jj (λF h9=>h9.1.1.2) rfl ZL I)<|QL I (λ_ _ f k=>qE f k.1.1.1 hun ⟨O,O⟩ λu hu=>wi<|(hUO u hu).ou) λc104=>XA _ (λ_ _ f k=>k.2.2.1) λn104=>QMW 10 I<|Jt (ι:=WT p.ul (WW p.sh p.ul)) [(1,_),(9,_)] (λi5=>[(10,.int .i64 ((i5.i:Nat):Int))]) (λi5=>p.ul.length-i5.i) (WT.start _ _) wU wT λi5=>?_
 have hi5:=i5.le;refine wA 4 I<|QA (QH I XP Jf)<|QA (QW 1 (λF h9=>h9.1.1.1.2) rfl Jf I)<|QA (Qc I Xk)<|QMW 3 I ?_
 refine QO I (λhc2=>?_) λhc2=>?_
 ·have hlt5:i5.i<p.ul.length:=wi<|QLr hc2
  refine QMX 6 I<|QA (QH I XP Jf)<|QA (QW 1 (λF h9=>h9.1.1.1.2) rfl Jf I)<|QJm I<|QA (Qo (n:=p.un.n) (i5.i) (λF h9=>h9.1.1.1.1.un) rfl rfl Xk XJ O)<|QA (XE (n:=p.un.n) (vs:=[tx (el p.ul (i5.i)).kd,.slice (el p.ul (i5.i)).fd.q (el p.ul (i5.i)).fd.n (el p.ul (i5.i)).fd.cap,Qs ((el p.ul (i5.i)).ou),tx (el p.ul (i5.i)).st,.slice (el p.ul (i5.i)).cv.q (el p.ul (i5.i)).cv.n (el p.ul (i5.i)).cv.cap]) ((i5.i)*5) (λF h9=>h9.1.1.1.1.un) O rfl XJ I λj v hv=>JR (f:=MR) (l:=p.ul) ZI O hv)<|Qk TM λb11=>QV (vs:=[_,_,_,_,_]) I I I XJ I .here .h5 wX<|QJl<|QG<|JE QKK mixed wj<|QJ (QH I KM Y5)<|QJ (Qp I Y5 .here .h1)<|QJ (Xc I I)<|QJ (QC I) ?_
  refine KH (t:=120) rfl (λhb120=>?_) λhb120=>?_
  ·have hkt:(el p.ul i5.i).kd=K7:=by simpa[K7]using hb120
   have hum:=Q2 hlt5;have huo:=hUO _ hum;have hf1:=(Z0 huo).1;have hff:=(hP.us _ hum).E9;have hfr:=huo.fd _ (Q2 (show 0<(el p.ul i5.i).fl.length by omega));have hsl:=PA p.sh p.ul;have hss:=vM (sh:=p.sh) (λu hu=>(hUO u hu).st) _ (Q2 (show(el (el p.ul i5.i).fl 0).k.toNat<(RF p.sh p.ul).length by omega));refine JA I I<|QJ (QH I BN Ja)<|JA I I<|QJ (Qp I Ja .here (.skip (.skip (.skip .h1))))<|JA I I<|QJ (QH I Wp Xg)<|JA I I<|QJ (Qp I Xg .here (.skip (.skip (.skip (.skip .h1)))))<|JA I I<|QJ (QH I Zz Xd)<|JA I I<|QJ (Qp I Xd .here (.skip .h1))<|JA I I<|QJ (Qo (n:=(el p.ul (i5.i)).fd.n) (0) (λF h9=>((h9.1.1.1.1.us _ (Q2 (show i5.i<p.ul.length from O)))).fd) rfl wN YV Kf O)<|JA I I<|QJ (QH I BM Ja)<|JA I I<|QJ (Ql (n:=(el p.ul (i5.i)).fd.n) ((0)*2+1) (λF h9=>((h9.1.1.1.1.us _ (Q2 (show i5.i<p.ul.length from O)))).fd) O rfl Ja (JR (f:=Uj) (l:=(el p.ul (i5.i)).fl) YT O rfl))<|JA I I<|QJ (QC I)<|JA I I<|QJ (QH I Zz Xd)<|JA I I<|QJ (Qp I Xd .here (.skip .h1))<|JA I I<|QJ (Qo (n:=(el p.ul (i5.i)).fd.n) (0) (λF h9=>((h9.1.1.1.1.us _ (Q2 (show i5.i<p.ul.length from O)))).fd) rfl wN YV Kf O)<|JA I I<|QJ (QH I GQ QY)<|JA I I<|QJ (Ql (n:=(el p.ul (i5.i)).fd.n) ((0)*2+0) (λF h9=>((h9.1.1.1.1.us _ (Q2 (show i5.i<p.ul.length from O)))).fd) O rfl QY (JR (f:=Uj) (l:=(el p.ul (i5.i)).fl) YT O rfl))<|JA I I<|QJ (Qo (n:=c104.n) ((el (el p.ul i5.i).fl 0).k.toNat) (λF h9=>h9.2.1) rfl wN Z2 Ja O)<|JA I I<|QJ (Ql (n:=c104.n) (((el (el p.ul i5.i).fl 0).k.toNat)*1) (λF h9=>h9.2.1) O rfl Ja (Jo (f:=tx) (l:=(RF p.sh p.ul)) O))<|JA I I<|QZ I (λ_ _ f k=>I3 f hfr.2.1 hss) λ_=>JA I I<|QZ I (λ_ _ f h=>ur f (h.1.1.1.1.1.us _ hum).cv (h.1.1.1.1.1.us _ hum).Np (by have:=G6 huo;have:=(h.1.1.1.1.1.us _ hum).Np;omega) (by have h1:=W3 (J4 (el (el p.ul i5.i).fl 0).r) (J4 (el (RF p.sh p.ul) (el (el p.ul i5.i).fl 0).k.toNat));have h2:=YS hfr.2.1;have h3:=YS hss;omega) huo.cv) λ_=>JA I I<|QJ (Rv I I)<|QJ (QR I I I) ?_
   refine Qy<|QD ?_
   refine QO I (λhc2=>?_) λhc2=>?_
   ·have hcon:WW p.sh p.ul (el p.ul i5.i)=true:=by unfold WW;rw[hkt];exact hc2
    refine wA 5 I<|ZS ?_
    exact QMn I I (congrArg (aa .i64) (by unfold Vo;rw[if_neg h1,if_neg h2,if_neg (Classical.not_not.2 h3),if_neg h4,if_neg h5,if_neg h6,if_neg h7,if_neg h8,if_pos (i5.hit hlt5 hcon)])) wz
   have hncon:WW p.sh p.ul (el p.ul i5.i)=false:=by unfold WW;rw[hkt];exact hc2
   refine QN<|Qg<|QMY 3 I<|QA (Qn I I O)<|wB 2 I ?_
   exact Qj (i5.next hlt5 hncon) (by show p.ul.length-(i5.i+1)<p.ul.length-i5.i;omega) wV (tB) λF h=>h.1.1
  have hncon:WW p.sh p.ul (el p.ul i5.i)=false:=by unfold WW;rw[show((el p.ul i5.i).kd==K7)=false by simpa[K7]using hb120];rfl
  refine Q7 I I I<|Q7 I I I<|Q7 I I I<|Q7 I I I<|Q7 I I I<|Q7 I I I<|Q7 I I I<|Q7 I I I<|Q7 I I I<|Q7 I I I<|Q7 I I I<|Q7 I I I<|Q7 I I I<|Q7 I I I<|Q7 I I I<|Q7 I I I<|Q7 I I I<|Q7 I I I<|Q7 I I I<|Q7 I I I<|QJ (QT I I I)<|Qy<|QD<|Zg I<|QN<|Qg<|QMY 3 I<|QA (Qn I I O)<|wB 2 I ?_
  exact Qj (i5.next hlt5 hncon) (by show p.ul.length-(i5.i+1)<p.ul.length-i5.i;omega) wV (tB) w7
 have hge5:p.ul.length<=i5.i:=wi<|QLs hc2
 refine JK ?_;refine wA 6 I ?_;exact QMn I I (congrArg (aa .i64) (by unfold Vo;rw[if_neg h1,if_neg h2,if_neg (Classical.not_not.2 h3),if_neg h4,if_neg h5,if_neg h6,if_neg h7,if_neg h8,if_neg (i5.stop hge5)])) wz
section
variable[Dr][df:Df]{P:Program}{Q:Exit->Act->World->Prop}{N:Nat}{m:Sl}{ops:Array Oper}{lo:List Oper}{w0:World}{F0:Gs}{bs:List (Nat×Obj)}{G:Gs->Prop}{E0:Env}
theorem uq{dT sT elem:TypeId}{g o dLen dCap:Nat}{sLen sCap k sz:Nat}{cur:Array Value}(hu:P.underlying dT=some (.slice elem))(hs:(P.info? elem).map (·.size)=some sz)
  (hg:w.heap[g]?=some (.cells cur t (0,0))) (hk:fH sLen dLen=k) (hn:cs.length=k*sz) (hsrc:∀j v,cs[j]?=some v->w.cell? (a.add j)=some v) (hfit:o+cs.length<=cur.size) (h1:∀v∈cs,v.oneCell'=true) :
  (fK #[dT,sT] ty #[.slice (some ⟨g,o,none⟩) dLen dCap,.slice (some a) sLen sCap]).run P w = .ok (goInt k) (w.setRow g (cur.toList.take o++cs++cur.toList.drop (o+cs.length)).toArray):=by
 have hl:=run_loadCells_list (P:=P) w a cs hsrc;have hst:=_root_.Go.run_storeCells_at P g o t cs 0 cur w hg (by simpa using hfit) h1;cases hq:P.info? elem with
 |none=>simp[hq]at hs
 |some i =>
  have hi:i.size=sz:=by simpa[hq]using hs
  simp[fK,run_underlying hu,Builtin.lenOf,Builtin.firstCells,sizeOf,typeInfo,hq,hi,hk,<-hn,hl,hst]
theorem QAe{sz:Nat}(hs:ZZ P e=some (g,sz)):(P.info? e).map (·.size)=some sz:=by
 unfold ZZ at hs;split at hs
 ·rename_i d' i' hd hi;simp only[bh,eG]at hs;rw[hi,ba,hs.2]
 cases hs
theorem L5{a:Act}{d:Option Nat}{t2:TypeId}{pos:String}{gd:Option (Nat×Bool)}{X Y:Operand}{off dLen dCap k sLen sCap sz:Nat}{ad:Addr}{cur new:List Value}(ha:JY N m a)(hx:ev m X=some (.slice (some ⟨b,off,none⟩) dLen dCap))(hy:ev m Y=some (.slice (some ad) sLen sCap))(ht:GI P t=some e)(hs:ZZ P e=some (g,sz))
  (ho:Own bs b (.cells cur.toArray e (0,0)) f) (hk:fH sLen dLen=k) (hn:cs.length=k*sz) (hrd:∀w,St ⟨w0,F0,bs,G⟩ w->∀j v,cs[j]?=some v->w.cell? (ad.add j)=some v) (h1:∀v∈cs,v.oneCell'=true) (hfit:off+cs.length<=cur.length) (hnew:cur.take off++cs++cur.drop (off+cs.length)=new) (hu:GX e=true) (hw:St ⟨w0,F0,bs,G⟩ w) :
  ∃w',(execOp a.eval ⟨d,.call ⟨.builtin .copy,#[X,Y],#[t,t2]⟩,ty,pos,aft,gd⟩).run P w = .ok (.value (.int .i64 (k:Int))) w'/\St ⟨w0,F0,f (.cells new.toArray e (0,0)),G⟩ w':=by
 have hbw:=hw.own ho;have hrun:=uq (P:=P) (sT:=t2) (ty:=ty) (dCap:=dCap) (sCap:=sCap) (J2 ht) (QAe hs) hbw hk hn (hrd w hw) (by simpa using hfit) h1;refine⟨w.setRow b (cur.take off++cs++cur.drop (off+cs.length)).toArray,?_,?_⟩
 ·simp only[execOp,resolve,invoke,builtin,ff,fe,bW,List.map_toArray,aZ,fS,ha.ev hx,ha.ev hy,hrun,goInt]
 have hlt:b<w.heap.size:=(Array.getElem?_eq_some_iff.1 hbw).1;rw[hnew];obtain⟨pre,post,e1,e2⟩:=ho.split;subst e1;rw[e2];refine hw.write pre ⟨?_,rfl,rfl,rfl,rfl⟩ (ZD hu);apply Array.ext_getElem?;intro j;rw[Array.getElem?_setIfInBounds];by_cases hj:b=j
 ·subst hj;rw[if_pos rfl,if_pos hlt,setRow_heap w b _ _ e _ hbw]
 rw[if_neg hj,setRow_other w b j _ (λe=>hj e.symm)]
section
variable{d:Nat}{ty t t2 e:TypeId}{pos:String}{aft:Array Edge}{X Y:Operand}{b off dLen dCap k sLen sCap sz:Nat}{ad:Addr}{cur cs new:List Value}{g:Bool}{f:Obj->List (Nat×Obj)}
theorem kW(hx:ev m X=some (.slice (some ⟨b,off,none⟩) dLen dCap))(hy:ev m Y=some (.slice (some ad) sLen sCap))(ht:GI P t=some e)(hs:ZZ P e=some (g,sz))
  (ho:Own bs b (.cells cur.toArray e (0,0)) f) (hk:fH sLen dLen=k) (hn:cs.length=k*sz) (hrd:∀w,St ⟨w0,F0,bs,G⟩ w->∀j v,cs[j]?=some v->w.cell? (ad.add j)=some v) (h1:∀v∈cs,v.oneCell'=true) (hfit:off+cs.length<=cur.length) (hnew:cur.take off++cs++cur.drop (off+cs.length)=new)
  (kk:JS P ops Q lo N ((d,.int .i64 (k:Int))::m) ⟨w0,F0,f (.cells new.toArray e (0,0)),G⟩) (hu:GX e=true:=by rfl) (hd:J1 N (some d)=true:=by rfl):JS P ops Q (⟨some d,.call ⟨.builtin .copy,#[X,Y],#[t,t2]⟩,ty,pos,aft,none⟩::lo) N m ⟨w0,F0,bs,G⟩ :=
 QCt (λ_ _ ha hw=>L5 ha hx hy ht hs ho hk hn hrd h1 hfit hnew hu hw) kk hd
end
section
variable{d:Nat}{ty t t2 e:TypeId}{pos:String}{aft:Array Edge}{X Y:Operand}{b off dLen dCap k sLen sCap sz:Nat}{ad:Addr}{cur cs new:List Value}{g:Bool}{f:Obj->List (Nat×Obj)}
theorem kY(hx:ev m X=some (.slice (some ⟨b,off,none⟩) dLen dCap))(hy:ev m Y=some (.slice (some ad) sLen sCap))(ht:GI P t=some e)(hs:ZZ P e=some (g,sz))
  (ho:Own bs b (.cells cur.toArray e (0,0)) f) (hk:fH sLen dLen=k) (hn:cs.length=k*sz) (hrd:∀w,St ⟨w0,F0,bs,G⟩ w->∀j v,cs[j]?=some v->w.cell? (ad.add j)=some v) (h1:∀v∈cs,v.oneCell'=true) (hfit:off+cs.length<=cur.length) (hnew:cur.take off++cs++cur.drop (off+cs.length)=new)
  (h0:∀w,St ⟨w0,F0,f (.cells new.toArray e (0,0)),G⟩ w->St E0 w)
  (kk:JD P ops Q E0 lo N ((d,.int .i64 (k:Int))::m) ⟨w0,F0,f (.cells new.toArray e (0,0)),G⟩) (hu:GX e=true:=by rfl) (hd:J1 N (some d)=true:=by rfl):JD P ops Q E0 (⟨some d,.call ⟨.builtin .copy,#[X,Y],#[t,t2]⟩,ty,pos,aft,none⟩::lo) N m ⟨w0,F0,bs,G⟩:=by
 intro hE a w ha hw;obtain⟨w',h2,h3⟩:=L5 (d:=some d) (ty:=ty) (pos:=pos) (aft:=aft) (gd:=none) (t2:=t2) ha hx hy ht hs ho hk hn hrd h1 hfit hnew hu hw;refine .inr ⟨rfl,?_⟩;rw[if_pos (by simp[bA])];exact upon_value h2 ⟨h0 _ h3,kk h0 _ _ (ha.put hd _) h3⟩
end
theorem TT(hw:St ⟨w0,F0,bs,G⟩ w){a:Addr}{sz j:Nat}{cs:List Value}{u:Value}(hr:∀F,G F->JC F (some a) 1 sz cs)(hu:cs[j]?=some u):w.cell? (a.add j)=some u:=by
 have h0:∃b off,a=⟨b,off,none⟩:=by
  obtain⟨F,hF⟩:=hw;obtain⟨b,off,e⟩:=(hr F hF.hG).ptr wk;exact⟨b,off,bz e⟩
 obtain⟨b,off,rfl⟩:=h0;rw[WS];exact Yl hw hr wk hu
end
def Bi{x:List Value}(h:∀v∈x,v.oneCell'=true):∀n,∀v∈JL x n,v.oneCell'=true
 |0,v,hv=>by cases hv
 |n+1,v,hv=>by
  rw[JL]at hv;rcases List.mem_append.1 hv with hv | hv
  ·exact h v hv
  exact Bi h n v hv
def N5(x:List Value):∀a b,JL x (a+b)=JL x a++JL x b
 |0,b=>by rw[ae];rfl
 |a+1,b=>by rw[show a+1+b=(a+b)+1 by omega,JL,JL,N5 x a b,bD]
def QAV{x:List Value}{k:Nat}{v:Value}(hk:k<=1)(h:(JL x k)[j]?=some v):x[j]?=some v:=by
 match k,hk with
 |0,_=>cases h
 |1,_=>simpa[JL]using h
theorem pM{n k:Nat}{x:List Value}{fr:Nat×Nat}{v:Value}(hw:St ⟨w0,F0,bs,G⟩ w)(ho:Own bs b (.cells (JL x n++z).toArray T fr) f)(hk:k<=n)(hv:(JL x k)[j]?=some v):w.cell? ((⟨b,0,none⟩:Addr).add j)=some v:=by
 rw[WS,Zm (hw.own ho),ae];have hj:j<(JL x k).length:=by rcases eZ j (JL x k).length with g | g;exact g;rw[List.getElem?_eq_none g]at hv;cases hv
 rw[show n=k+(n-k) by omega,N5,bD,List.getElem?_append,if_pos hj];exact hv
def pN{x:List Value}{sz n k:Nat}(hx:x.length=sz)(hz:z.length=sz)(h:n+k<=N):0+n*sz+(JL x k).length<=(JL x n++JL z (N-n)).length:=by
 rw[af,XF,XF,XF,hx,hz,ae,<-bU,<-bU];exact Nat.mul_le_mul_right _ O
structure RpJ(N:Nat) where
 n:Nat
 le:n<=N
 pos:0<N->0<n
def jO{x:List Value}{sz n k:Nat}(hx:x.length=sz)(hz:z.length=sz)(h:n+k<=N):(JL x n++JL z (N-n)).take (0+n*sz)++JL x k++(JL x n++JL z (N-n)).drop (0+n*sz+(JL x k).length)=JL x (n+k)++JL z (N-(n+k)):=by
 have e1:(JL x n).length=n*sz:=by rw[XF,hx]
 have e2:(JL x k).length=k*sz:=by rw[XF,hx]
 have e3:(JL z k).length=k*sz:=by rw[XF,hz]
 rw[ae,e2,<-e1,List.take_left,<-eM,fM,show N-n=k+(N-(n+k)) by omega,N5 z,<-e3,fM,N5 x]
theorem QCW{a b:Nat}(hF:Fits F w)(h:a*b<9223372036854775808)(ha:a<18446744073709551616)(hb:b<18446744073709551616):Qi prog 239 [.int .u64 (a:Int),.int .u64 (b:Int)] w F (.tuple #[.int .u64 0,.int .u64 ((a*b:Nat):Int)]):=by
 refine QS.same (enters_of func239 I I) hF ((Zo a b w ⟨O,by unfold W;omega⟩ ⟨O,by unfold W;omega⟩).mono ?_);rintro e w' ⟨rfl,rfl⟩;refine⟨?_,rfl⟩;unfold XX Jh W;rw[<-bS,Int.ediv_eq_zero_of_lt O O,Int.emod_eq_of_lt O O]
theorem QCV{a b:Nat}(hF:Fits F w)(h:a*b<9223372036854775808)(ha:a<18446744073709551616)(hb:b<18446744073709551616):Qi prog 188 [.int .u64 (a:Int),.int .u64 (b:Int)] w F (.tuple #[.int .u64 0,.int .u64 ((a*b:Nat):Int)]):=by
 refine QS.go (G:=λF=>True) func188 hF trivial ?_;refine wA 7 I<|Zg I<|QMX 6 I<|QL I (λ_ _ f _=>QCW f h ha hb) λ_=>QMW 16 I ?_
 exact X4 (()) I (wP I I) (rfl) wz
theorem QF5{c N:Nat}{x:List Value}(hN:N<=1000000)(hR:∀F,G F->JC F (some a) 1 1 x)(hx:x.length=1)(hone:∀v∈x,v.oneCell'=true):YQ prog 112 [.slice (some a) 1 c,.int .i64 (N:Int)] ⟨w0,F0,bs,G⟩ (λ(c:OwV 3 1 N (JL x N))=>c.v) (λc=>⟨w0,F0,c.ob++bs,G⟩):=by
 refine YQ.intro func112 rfl wu rfl rfl<|QLF<|wR rfl<|QG<|wS rfl<|QA (QP rfl rfl rfl)<|QF<|QD ?_
 refine QO I (λhc2=>?_) λhc2=>?_
 ·exact absurd hc2 (wv)
 refine QMX 5 I<|QA (Qc I Qd)<|QA (PL I vA O5 wk)<|QJm I<|QA (PL I vA O5 O)<|QL I (λ_ _ f k=>QCV (a:=1) (b:=N) f O wk O) λ_=>?_
 rw[fp];refine QMW 20 I ?_;refine QO I (λhc2=>?_) λhc2=>?_
 ·exact absurd hc2 (wy)
 refine QMX 5 I<|QA (NI I vB k_3 O)<|K5 (n:=N) (bytes:=8) rfl rfl Qd QY HZ I WR O O λb7=>QMW 7 I<|kW (off:=0+0*1) (k:=min 1 N) (cs:=JL x (min 1 N)) (sz:=1) (cur:=JL x 0++JL [.int .i64 0] (N-0)) (new:=JL x (0+min 1 N)++JL [.int .i64 0] (N-(0+min 1 N))) I I Qd QY .here rfl (by rw[XF,hx]) (λw hw j v hv=>TT hw (λF h=>hR F h.1) (QAV (bP 1 N) hv)) (Bi hone _) (pN hx rfl O) (jO hx rfl O) ?_
 rw[ae];refine QMW 5 I<|XC (ι:=RpJ N) [(7,_)] (λi=>[(8,.int .i64 ((i.n:Nat):Int))]) (λi=>(b7,.cells (JL x i.n++JL [.int .i64 0] (N-i.n)).toArray 3 (0,0))::bs) (λi F=>True) (λi=>N-i.n) (⟨min 1 N,O,λh=>O⟩) wT wT QKK wz λi=>?_
 have hi:=i.le;have hpos:=i.pos;refine wA 5 I<|QA (Qc I Qd)<|QMW 3 I ?_
 refine QO I (λhc2=>?_) λhc2=>?_
 ·have hlt:i.n<N:=wi<|QLr hc2
  refine QMX 3 I<|JE (.cons _ QKK) mixed wj<|QJ (QC I)<|QJ (QC I)<|QJ (QC I)<|QJ (Es i.n I I I Qd QY i.le (aq _)) ?_
  rw[if_neg (show ¬N=i.n by omega)];simp only[ba,WS];refine QJ (QC I)<|QJ (QC I)<|QJ (Tq i.n I I I Qd QY i.le)<|kY (off:=0+i.n*1) (k:=min i.n (N-i.n)) (cs:=JL x (min i.n (N-i.n))) (sz:=1) (cur:=JL x i.n++JL [.int .i64 0] (N-i.n)) (new:=JL x (i.n+min i.n (N-i.n))++JL [.int .i64 0] (N-(i.n+min i.n (N-i.n)))) I I Qd QY .here rfl (by rw[XF,hx]) (λw hw j v hv=>pM hw .here (bP _ _) hv) (Bi hone _) (pN hx rfl O) (jO hx rfl O) (λw hw=>hw.imp (.cons _ QKK) λ_ h=>h)<|QJ (Qn I I O)<|QJ (QE I)<|Qy<|Qg ?_
  exact Qj (⟨i.n+min i.n (N-i.n),O,λh=>O⟩) (by show N-(i.n+min i.n (N-i.n))<N-i.n;have:=hpos O;omega) ⟨rfl,(congrArg (λz:Int=>some (aa .i64 z)) (by dsimp only;omega)),trivial⟩ QKK λF h=>⟨h.1,trivial⟩
 have hge:i.n=N:=by have:=QLs hc2;have:=i.le;omega
 refine JK ?_;refine wA 7 I ?_;exact G5 (⟨.slice (some ⟨b7,0,none⟩) N N,_,Q6.some (rest:=[]) (by rw[XF,hx]) (by rw[XF,hx];rfl) (aq _) (by show N<=maxLen;unfold maxLen;omega)⟩) I (wO I) (rfl) λw hw=>by rw[hge,eY]at hw;exact hw.imp QKK λ_ h=>h.1.1
theorem QF6{c N:Nat}{x:List Value}(hN:N<=1000000)(hR:∀F,G F->JC F (some a) 1 4 x)(hx:x.length=4)(hone:∀v∈x,v.oneCell'=true):YQ prog 173 [.slice (some a) 1 c,.int .i64 (N:Int)] ⟨w0,F0,bs,G⟩ (λ(c:OwV 116 4 N (JL x N))=>c.v) (λc=>⟨w0,F0,c.ob++bs,G⟩):=by
 refine YQ.intro func173 rfl wu rfl rfl<|QLF<|wR rfl<|QG<|wS rfl<|QA (QP rfl rfl rfl)<|QF<|QD ?_
 refine QO I (λhc2=>?_) λhc2=>?_
 ·exact absurd hc2 (wv)
 refine QMX 5 I<|QA (Qc I RZ)<|QA (PL I vA O5 wk)<|QJm I<|QA (PL I vA O5 O)<|QL I (λ_ _ f k=>QCV (a:=1) (b:=N) f O wk O) λ_=>?_
 rw[fp];refine QMW 20 I ?_;refine QO I (λhc2=>?_) λhc2=>?_
 ·exact absurd hc2 (wy)
 refine QMX 5 I<|QA (NI I vB k_3 O)<|K5 (n:=N) (bytes:=64) rfl rfl RZ Jn VA I QCS O O λb7=>QMW 7 I<|kW (off:=0+0*4) (k:=min 1 N) (cs:=JL x (min 1 N)) (sz:=4) (cur:=JL x 0++JL [.int .i64 0,.slice none 0 0,.int .i64 0,.slice none 0 0] (N-0)) (new:=JL x (0+min 1 N)++JL [.int .i64 0,.slice none 0 0,.int .i64 0,.slice none 0 0] (N-(0+min 1 N))) I I RZ Jn .here rfl (by rw[XF,hx]) (λw hw j v hv=>TT hw (λF h=>hR F h.1) (QAV (bP 1 N) hv)) (Bi hone _) (pN hx rfl O) (jO hx rfl O) ?_
 rw[ae];refine QMW 5 I<|XC (ι:=RpJ N) [(7,_)] (λi=>[(8,.int .i64 ((i.n:Nat):Int))]) (λi=>(b7,.cells (JL x i.n++JL [.int .i64 0,.slice none 0 0,.int .i64 0,.slice none 0 0] (N-i.n)).toArray 116 (0,0))::bs) (λi F=>True) (λi=>N-i.n) (⟨min 1 N,O,λh=>O⟩) wT wT QKK wz λi=>?_
 have hi:=i.le;have hpos:=i.pos;refine wA 5 I<|QA (Qc I RZ)<|QMW 3 I ?_
 refine QO I (λhc2=>?_) λhc2=>?_
 ·have hlt:i.n<N:=wi<|QLr hc2
  refine QMX 3 I<|JE (.cons _ QKK) mixed wj<|QJ (QC I)<|QJ (QC I)<|QJ (QC I)<|QJ (Es i.n I I I RZ Jn i.le (aq _)) ?_
  rw[if_neg (show ¬N=i.n by omega)];simp only[ba,WS];refine QJ (QC I)<|QJ (QC I)<|QJ (Tq i.n I I I RZ Jn i.le)<|kY (off:=0+i.n*4) (k:=min i.n (N-i.n)) (cs:=JL x (min i.n (N-i.n))) (sz:=4) (cur:=JL x i.n++JL [.int .i64 0,.slice none 0 0,.int .i64 0,.slice none 0 0] (N-i.n)) (new:=JL x (i.n+min i.n (N-i.n))++JL [.int .i64 0,.slice none 0 0,.int .i64 0,.slice none 0 0] (N-(i.n+min i.n (N-i.n)))) I I RZ Jn .here rfl (by rw[XF,hx]) (λw hw j v hv=>pM hw .here (bP _ _) hv) (Bi hone _) (pN hx rfl O) (jO hx rfl O) (λw hw=>hw.imp (.cons _ QKK) λ_ h=>h)<|QJ (Qn I I O)<|QJ (QE I)<|Qy<|Qg ?_
  exact Qj (⟨i.n+min i.n (N-i.n),O,λh=>O⟩) (by show N-(i.n+min i.n (N-i.n))<N-i.n;have:=hpos O;omega) ⟨rfl,(congrArg (λz:Int=>some (aa .i64 z)) (by dsimp only;omega)),trivial⟩ QKK λF h=>⟨h.1,trivial⟩
 have hge:i.n=N:=by have:=QLs hc2;have:=i.le;omega
 refine JK ?_;refine wA 7 I ?_;exact G5 (⟨.slice (some ⟨b7,0,none⟩) N N,_,Q6.some (rest:=[]) (by rw[XF,hx]) (by rw[XF,hx];rfl) (aq _) (by show N<=maxLen;unfold maxLen;omega)⟩) I (wO I) (rfl) λw hw=>by rw[hge,eY]at hw;exact hw.imp QKK λ_ h=>h.1.1
def F9(N:Nat)(us:List Xi):List Int:=(aE N).map λk:Nat=>Va us (k:Int)
def VN(N:Nat)(us:List Xi):(F9 N us).length=N:=by simp[F9]
def xZ{k:Nat}(h:k<N):el (F9 N us) k=Va us (k:Int):=by
 rw[ZH (by rw[VN];exact h)];unfold F9;rw[eB,List.getElem_range]
def uU{k:Nat}(h:k<(F9 N us).length):(F9 N us)[k]=Va us (k:Int):=by simp[F9]
theorem qf{k:Int}:∀(a:List Xi) (i:Nat),Ng k (a++[u]) i=if Ng k a i>=0 then Ng k a i else if u.ou=k then((i+a.length:Nat):Int)else -1
 |[],i=>by
  show(if u.ou=k then(i:Int)else -1)=if(-1:Int)>=0 then -1 else if u.ou=k then((i+0:Nat):Int)else -1
  rw[if_neg (show ¬(-1:Int)>=0 by decide),ew]
 |x::a,i=>by
  rw[eC,Ng,Ng];by_cases e:x.ou=k
  ·rw[if_pos e,if_pos e,if_pos (bw i)]
  rw[if_neg e,if_neg e,qf a (i+1),aC,show i+1+a.length=i+(a.length+1) by omega]
theorem CO{k:Int}:∀(us:List Xi) (i:Nat),(Ng k us i<0↔Nn us k=0)/\(Ng k us i<0->Ng k us i = -1)
 |[],i=>⟨⟨λ_=>rfl,λ_=>(by show(-1:Int)<0;decide)⟩,λ_=>rfl⟩
 |x::us,i=>by
  have ih:=CO (k:=k) us (i+1);rw[Ng];unfold Nn at ih ⊢;by_cases e:x.ou=k
  ·rw[if_pos e,List.countP_cons_of_pos (by simpa using e)];exact⟨⟨λh=>absurd h (Int.not_lt.2 (bw i)),λh=>O⟩,λh=>absurd h (Int.not_lt.2 (bw i))⟩
  rw[if_neg e,List.countP_cons_of_neg (by simpa using e)];exact ih
theorem TD{k:Int}:Va us k<0↔Nn us k=0:=(CO us 0).1
def QCF{k:Int}(h:Va us k<0):Va us k = -1:=(CO us 0).2 h
def QCE{i:Nat}{k:Int}(h:i<us.length):Va (us.take (i+1)) k=if Va (us.take i) k>=0 then Va (us.take i) k else if(el us i).ou=k then(i:Int)else -1:=by
 unfold Va;rw[ZB h,qf,aY,Nat.min_eq_left O,ae]
theorem QCT{N i:Nat}(h:i<us.length)(ho:0<=(el us i).ou/\(el us i).ou<(N:Int))(hd:Va (us.take i) (el us i).ou<0):F9 N (us.take (i+1))=(F9 N (us.take i)).set (el us i).ou.toNat (i:Int):=by
 refine bH (by rw[aH,VN,VN]) λk h1 h2=>?_;rw[VN]at h1;rw[fI,uU,uU,QCE h];by_cases e:(el us i).ou.toNat=k
 ·have e2:(el us i).ou=(k:Int):=O;rw[if_pos e,<-e2,if_neg O,if_pos rfl]
 have e2:¬(el us i).ou=(k:Int):=O;rw[if_neg e,if_neg e2];split
 ·rfl
 rename_i g;exact(QCF O).symm
def qi{k:Int}(h:i<us.length):Nn (us.take (i+1)) k=Nn (us.take i) k+(if(el us i).ou=k then 1 else 0):=by
 unfold Nn;rw[Wu h];simp
def QEc{k:Int}:Nn (us.take i) k<=Nn us k:=by
 unfold Nn
 conv=>rhs;rw[<-aF i us,fy]
 omega
structure DvJ(us:List Xi) where
 i:Nat
 le:i<=us.length
 nd:∀k,Nn (us.take i) k<=1
theorem QER(s:DvJ us)(h:s.i<us.length)(hd:Va (us.take s.i) (el us s.i).ou<0):∀k,Nn (us.take (s.i+1)) k<=1:=λk=>by
 rw[qi h];have h0:=s.nd k;split
 ·rename_i e;rw[<-e,TD.1 hd];omega
 omega
theorem QHJ(h:i<us.length)(ho:1<=(el us i).ou/\(el us i).ou<sh)(hd:Va (us.take i) (el us i).ou>=0):Ab sh us=true:=by
 unfold Ab;refine List.any_eq_true.2 ⟨(el us i).ou.toNat-1,List.mem_range.2 O,?_⟩;unfold C8;rw[show(((el us i).ou.toNat-1:Nat):Int)+1=(el us i).ou by omega];refine decide_eq_true λe=>?_;have h1:Nn (us.take (i+1)) (el us i).ou<=1:=by rw[<-e];exact QEc
 rw[qi h,if_pos rfl]at h1;have h2:=TD.2 (show Nn (us.take i) (el us i).ou=0 by omega);omega
theorem QHI(h1:1<=sh)(hn:∀k,Nn us k<=1):decide ((-1:Int)∈(F9 sh.toNat us).drop 1)=Ab sh us:=by
 rw[bO,decide_eq_true_eq];unfold Ab;rw[List.any_eq_true];constructor
 ·intro h;obtain⟨j,hj,e⟩:=List.mem_iff_getElem.1 h;rw[ar,VN]at hj;rw[fB]at e;have e2:Va us (((1+j:Nat):Nat):Int) = -1:=by rw[<-xZ (N:=sh.toNat) (us:=us) O,ZH (by rw[VN];omega)];exact e
  refine⟨j,List.mem_range.2 O,?_⟩;unfold C8;refine decide_eq_true λe3=>?_;have:=TD.1 (show Va us (((1+j:Nat):Nat):Int)<0 by omega);rw[show(((1+j:Nat):Nat):Int)=(j:Int)+1 by omega]at this;omega
 rintro⟨j,hj,hb⟩;have hj:=List.mem_range.1 hj;unfold C8 at hb;have hb:=QLr hb;have h0:=hn ((j:Int)+1);have e:=QCF (TD.2 (show Nn us ((j:Int)+1)=0 by omega));refine List.mem_iff_getElem.2 ⟨j,by rw[ar,VN];omega,?_⟩;rw[fB,<-ZH (by rw[VN];omega),xZ O,show(((1+j:Nat):Nat):Int)=(j:Int)+1 by omega];exact e
theorem QCO(r s:Rat):(Dt r s==0)=decide (r=s):=by
 unfold Dt;by_cases h:r<s
 ·rw[if_pos h,decide_eq_false (λe=>by rw[e]at h;exact absurd h Rat.lt_irrefl)];rfl
 rw[if_neg h];by_cases e:r=s
 ·rw[if_pos e,decide_eq_true e];rfl
 rw[if_neg e,decide_eq_false e];rfl
def QEd(N:Nat):F9 N []=aD N (-1:Int):=by
 unfold F9;refine bH wv λk h1 h2=>?_;rw[eB,eU];rfl
def uh(N:Nat)(us:List Xi):JL [.int .i64 (-1)] N=(F9 N (us.take 0)).map Qs:=by
 rw[aM,QEd,ZM,fw];rfl
def QHK{k:Nat}(h:k<N):Qb (F9 N us) k=Va us (k:Int):=by rw[WO (by rw[VN];exact h),xZ h]
theorem Bt{b:Bool}{e:Int}(hF:Fits F w):Qi prog 94 [.bool b,.int .i64 e] w F (.int .i64 (if b=true then e else 0)):=by
 refine QS.go (G:=λF=>True) func94 hF trivial ?_;refine wA 11 I ?_
 refine QO I (λhc2=>?_) λhc2=>?_
 ·refine wA 7 I ?_;exact QMn I I (congrArg (aa .i64) (by rw[if_pos hc2])) wz
 refine QMX 8 I ?_;exact QMn I I (congrArg (aa .i64) (by rw[if_neg (by rw[hc2];decide)])) wz
theorem EN{n:Nat}{l:List Int}(hF:Fits F w)(hR:JC F q n 1 (l.map Qs))(hn:n<=1000000000):Qi prog 93 [.slice q n c] w F (.int .i64 (JB l)):=by
 have hln:l.length=n:=by have:=hR.1;simpa using this
 have hmap:JB l=JB (l.map id):=by rw[fY]
 refine QS.go (G:=λF=>JC F q n 1 (l.map Qs)) func93 hF hR ?_;refine wA 9 I<|QA (Qc I GL)<|QMW 4 I<|Jt (ι:=Ya l id) [(5,_),(6,_)] (λi=>[(7,.int .i64 ((i.i:Nat):Int))]) (λi=>l.length-i.i) (Ya.start _ _) wU wT λi=>?_
 have hi:=i.le;refine wA 6 I ?_;refine QO I (λhc2=>?_) λhc2=>?_
 ·have hlt:i.i<l.length:=wi<|QLr hc2
  refine QMX 6 I<|QA (Qo (n:=n) i.i w7 rfl rfl GL DY O)<|QA (Ql (n:=n) ((i.i)*1) w7 O rfl DY (Jo (f:=Qs) (l:=l) O))<|QMW 9 I ?_
  refine QO I (λhc2=>?_) λhc2=>?_
  ·have h12:id (el l i.i)≠0:=bne_iff_ne.1 hc2;refine wA 6 I<|ZS ?_
   exact QMn I I (congrArg (aa .i64) (hmap ▸ i.hit hlt h12)) wz
  have h12:id (el l i.i)=0:=bne_eq_false_iff_eq.1 hc2;refine QN<|Qg<|QD<|QB<|QA (Qn I I O)<|wB 2 I ?_
  exact Qj (i.next hlt h12) (by show l.length-(i.i+1)<l.length-i.i;omega) wV QKK w7
 have hge:l.length<=i.i:=wi<|QLs hc2
 refine JK ?_;refine wA 6 I ?_;exact QMn I I (congrArg (aa .i64) (hmap ▸ i.stop hge)) wz
theorem FU{p:YB}{k:Int}(hF:Fits F w):Qi prog 97 [p.v,.int .i64 k] w F (.bool (!Md p.sh k)):=by
 refine QS.go (G:=λF=>True) func97 hF trivial ?_;refine QLF<|Q9 I (vs:=[_,_,_]) I λb2=>QMW 8 I ?_
 refine Qa (t:=7) rfl (λhb7=>?_) λhb7=>?_
 ·refine wB 3 I<|QA (QH I K9 QY)<|QK I I<|QA (Qp I QY .here .h1)<|QMW 7 I ?_
  exact QMn I I (congrArg ah (by unfold Md;rw[show decide (k<0)=false from decide_eq_false (wi<|QLr hb7)];by_cases h:k<p.sh<;>simp[h]<;>omega)) wz
 refine QMW 9 I ?_;exact QMn I I (congrArg ah (by unfold Md;rw[show decide (k<0)=true from decide_eq_true (wi<|QLs hb7)];rfl)) wz
theorem QDk{p:YB}{k:Int}(hF:Fits F w)(hb:F b=some ((#[Qs p.sh,.slice p.un.q p.un.n p.un.cap,.slice p.ot.q p.ot.n p.ot.cap],25))):Qi prog 96 [.int .i64 k,.pointer (some ⟨b,0,none⟩)] w F (.bool (Md p.sh k)):=by
 refine QS.intro (G:=λF=>F b=some ((#[Qs p.sh,.slice p.un.q p.un.n p.un.cap,.slice p.ot.q p.ot.n p.ot.cap],25))) func96 rfl wu rfl rfl hF (λF' hF'=>hF' _ _ hb)<|QLF<|wR rfl<|QLF<|QA (Rx (vs:=[Qs p.sh,.slice p.un.q p.un.n p.un.cap,.slice p.ot.q p.ot.n p.ot.cap]) rfl ZL w7 rfl λj v hv=>by rw[ae];simpa using hv)<|QJm I<|QL I (λ_ _ f k=>FU (p:=p) f) λ_=>QA (Xv I)<|wR I<|QU ?_
 exact QMn I I (congrArg ah (eu _).symm) wz
theorem cF{p:YB}(hF:Fits F w)(hP:GR F p)(hb:p.un.n<=1000000000):Qi prog 98 [p.v] w F (.int .i64 (YJ p.ul:Nat)):=by
 have Ax:=hP.Mf;refine QS.go (G:=λF=>GR F p) func98 hF hP ?_;refine QLF<|Q9 I (vs:=[_,_,_]) I λb1=>QMW 11 I<|QA (QH I XP Jf)<|QA (Qp I Jf .here (.skip .h1))<|QA (Qc I Xk)<|QMW 4 I<|Jt (ι:=S5 p.ul H8) [(7,_),(8,_)] (λi=>[(3,.int .i64 ((i.n:Nat):Int)),(9,.int .i64 ((i.i:Nat):Int))]) (λi=>p.ul.length-i.i) (⟨0,aj _⟩) wU wU λi=>?_
 have hi:=i.le;have hin:=i.QGQ;refine wA 6 I ?_;refine QO I (λhc2=>?_) λhc2=>?_
 ·have hlt:i.i<p.ul.length:=wi<|QLr hc2
  refine QMX 6 I<|QA (Qo (n:=p.un.n) i.i (λF hP=>hP.un) rfl rfl Xk XJ O)<|QA (XE (n:=p.un.n) (vs:=[tx (el p.ul i.i).kd,.slice (el p.ul i.i).fd.q (el p.ul i.i).fd.n (el p.ul i.i).fd.cap,Qs ((el p.ul i.i).ou),tx (el p.ul i.i).st,.slice (el p.ul i.i).cv.q (el p.ul i.i).cv.n (el p.ul i.i).cv.cap]) ((i.i)*5) (λF hP=>hP.un) O rfl XJ I λj v hv=>JR (f:=MR) (l:=p.ul) ZI O hv)<|Qk TM λb5=>QV (vs:=[_,_,_,_,_]) I I I XJ I .here .h5 wX<|QJl<|QLF<|QA (QH I KM Y5)<|QA (Qp I Y5 .here .h1)<|QA (Xc I I)<|QF<|QD ?_
  refine QO I (λhc2=>?_) λhc2=>?_
  ·have hk:H8 (el p.ul i.i)=true:=hc2;refine wA 2 I<|QA (Qn I I O)<|wB 2 I<|Qg<|QD<|QB<|QA (Qn I I O)<|wB 2 I ?_
   exact Qj (⟨i.i+1,hlt⟩) (by show p.ul.length-(i.i+1)<p.ul.length-i.i;omega) ⟨rfl,rfl,(congrArg (λz:Int=>some (aa .i64 z)) (by unfold S5.n;dsimp only;rw[Wu hlt,if_pos hk];rfl)),rfl,trivial⟩ ((.cons _ QKK)) w7
  have hk:H8 (el p.ul i.i)=false:=hc2;refine QN<|Qg<|QD<|QB<|QA (Qn I I O)<|wB 2 I ?_
  exact Qj (⟨i.i+1,hlt⟩) (by show p.ul.length-(i.i+1)<p.ul.length-i.i;omega) ⟨rfl,rfl,(congrArg (λz:Int=>some (aa .i64 z)) (by unfold S5.n;dsimp only;rw[Wu hlt,if_neg (by rw[hk];decide)];rfl)),rfl,trivial⟩ ((.cons _ QKK)) w7
 have hge:p.ul.length<=i.i:=wi<|QLs hc2
 refine JK ?_;refine wA 7 I ?_;exact QMn I I (congrArg (λn:Nat=>aa .i64 (n:Int)) (by unfold S5.n;rw[ai hge];rfl)) wz
theorem QHB{n:Nat}{l:List Int}{x:Int}(hF:Fits F w)(hR:JC F q n 1 (l.map Qs))(hn:l.length=n)(hb:n<=1000000000):QS prog 262 [.slice q n c,.int .i64 x] w F (λ(k:Int)=>.int .i64 k) (λk _=>decide (k>=0)=decide (x∈l)):=by
 rw[<-uW];refine QS.go (G:=λF=>JC F q n 1 (l.map Qs)) func262 hF hR ?_;refine wA 9 I<|QA (Qc I Qd)<|QMW 4 I<|Jt (ι:=WT l λy=>decide (y=x)) [(0,_),(1,_),(7,_)] (λi=>[(8,.int .i64 ((i.i:Nat):Int))]) (λi=>l.length-i.i) (WT.start _ _) wV wT λi=>?_
 have hi:=i.le;refine wA 6 I ?_;refine QO I (λhc2=>?_) λhc2=>?_
 ·have hlt:i.i<l.length:=wi<|QLr hc2
  refine QMX 15 I<|QA (Qo (n:=n) i.i w7 rfl rfl Qd QY O)<|QA (Ql (n:=n) ((i.i)*1) w7 O rfl QY (Jo (f:=Qs) (l:=l) O))<|QMW 3 I ?_
  refine QO I (λhc2=>?_) λhc2=>?_
  ·have heq:decide (el l i.i=x)=true:=decide_eq_true (Eq.symm (by simpa using hc2));refine wA 6 I<|ZS ?_
   exact QM (((i.i:Nat):Int)) I (wO I) (rfl) λF _=>by rw[i.hit hlt heq];exact decide_eq_true (bw _)
  have hne:decide (el l i.i=x)=false:=decide_eq_false (λe=>(by simpa using hc2:¬x=el l i.i) e.symm);refine QN<|Qg<|QD<|QB<|QA (Qn I I O)<|wB 2 I ?_
  exact Qj (i.next hlt hne) (by show l.length-(i.i+1)<l.length-i.i;omega) wW QKK w7
 have hge:l.length<=i.i:=wi<|QLs hc2
 refine JK ?_;refine wA 6 I ?_;exact QM ((-1:Int)) I (wO I) (rfl) λF _=>by rw[Bool.eq_false_iff.2 (i.stop hge)];rfl
theorem QEY{n:Nat}{l:List Int}{x:Int}(hF:Fits F w)(hR:JC F q n 1 (l.map Qs))(hn:l.length=n)(hb:n<=1000000000):Qi prog 170 [.slice q n c,.int .i64 x] w F (.bool (decide (x∈l))):=by
 refine QS.go (G:=λF=>JC F q n 1 (l.map Qs)) func170 hF hR ?_;refine wA 9 I<|QL I (λ_ _ f k=>QHB f k hn hb) λc7=>XA _ (λ_ _ f h=>h.2) λh7=>QMW 5 I ?_
 exact QMn I I (congrArg ah h7.symm) wz
theorem j6{x y:Fr}{r s:Rat}(hF:Fits F w)(h:XV F x r)(h':XV F y s)(hr:Zv r<=100000000)(hs:Zv s<=100000000):Qi prog 104 [x.v,y.v] w F (.bool (decide (r=s))):=by
 refine QS.go (G:=λF=>XV F x r/\XV F y s) func104 hF ⟨h,h'⟩ ?_;refine QLF<|Q9 I (vs:=[_,_,_,_]) I λb2=>Q9 I (vs:=[_,_,_,_]) I λb3=>QMW 5 I<|QA (wJ I Jn .u1)<|QA (wJ I Jn .here)<|QL I (λw F hF ⟨h,h'⟩=>xF hF h h' hr hs) λ_=>QMW 5 I ?_
 exact QMn I I (congrArg ah (QCO r s).symm) wz
theorem cy{p:YB}(hF:Fits F w)(hP:GR F p)(hb:p.un.n<=1000000)(hs:1<=p.sh/\p.sh<=1000000)(hou:∀u∈p.ul,1<=u.ou/\u.ou<p.sh):QS prog 99 [p.v] w F (λ(c:Sr)=>.tuple #[c.v,.bool (!Ab p.sh p.ul)]) (λc F=>Ab p.sh p.ul=false->JC F c.q c.n 1 ((F9 p.sh.toNat p.ul).map Qs)/\c.n=p.sh.toNat/\c.n<=c.cap):=by
 have Ax:=hP.Mf;refine QS.go (G:=λF=>GR F p) func99 hF hP ?_;refine QLF<|Q9 rfl (vs:=[_,_,_]) rfl λb1=>QJn rfl<|wR rfl<|QG<|JN (b:=b1) .here<|QB<|JG rfl (J2 Qd) QY HZ rfl rfl λb7=>QA (QH rfl K9 QY)<|QA (QW 0 (λF h9=>h9.1.2) rfl QY rfl)<|S3 (bs1:=[]) (congrArg (λz:Int=>some [fU (some ⟨b7,0,none⟩) 1 1,aa .i64 z]) (show p.sh=((p.sh.toNat:Nat):Int) by omega)) (aW _) (QF5 (x:=[.int .i64 (-1)]) (N:=p.sh.toNat) O (λF h9=>JC.of h9.2 rfl) rfl (by intro v hv;rw[List.mem_singleton.1 hv];rfl)) λc10=>?_
 obtain⟨v10,ob10,hr10⟩:=c10;obtain⟨b10,cap10,rest10,e1,e2,e3,e4,e5,e6⟩:=hr10.pos O;dsimp only;rw[e1,e2,uh p.sh.toNat p.ul];rw[e3]at e4;refine QMW 6 I<|QA (QH I XP Jf)<|QA (QW 1 (λF h9=>h9.1.2) rfl Jf I)<|QA (Qc I Xk)<|QMW 4 I<|XC (ι:=DvJ p.ul) [(4,_),(12,_),(13,_)] (λi=>[(14,.int .i64 ((i.i:Nat):Int))]) (λi=>[(b10,.cells ((F9 p.sh.toNat (p.ul.take i.i)).map Qs++rest10).toArray 3 (0,0))]) (λi F=>True) (λi=>p.ul.length-i.i) (⟨0,aj _,λk=>by rw[aM];exact aj _⟩) wV wT QKK wz λi=>?_
 have hi:=i.le;refine wA 6 I ?_;refine QO I (λhc2=>?_) λhc2=>?_
 ·have hlt:i.i<p.ul.length:=wi<|QLr hc2
  have ho:=hou _ (Q2 hlt);refine QMX 7 I<|QA (Qo (n:=p.un.n) i.i (λF h9=>h9.1.1.1.un) rfl rfl Xk XJ O)<|QA (XE (n:=p.un.n) (vs:=[tx (el p.ul i.i).kd,.slice (el p.ul i.i).fd.q (el p.ul i.i).fd.n (el p.ul i.i).fd.cap,Qs ((el p.ul i.i).ou),tx (el p.ul i.i).st,.slice (el p.ul i.i).cv.q (el p.ul i.i).cv.n (el p.ul i.i).cv.cap]) ((i.i)*5) (λF h9=>h9.1.1.1.un) O rfl XJ I λj v hv=>JR (f:=MR) (l:=p.ul) ZI O hv)<|Qk TM λb6=>QJn I<|QV (vs:=[_,_,_,_,_]) I I I XJ I .here .h5 wX<|QMW 6 I<|QA (QH I Yf QY)<|QA (Qp I QY .here (.skip (.skip .h1)))<|QA (Qm (i:=(el p.ul i.i).ou.toNat) rfl wN Qd QY O)<|QA (Xh (c:=(F9 p.sh.toNat (p.ul.take i.i)).map Qs++rest10) (T':=3) rfl QY .u1 (Xb (by rw[VN];omega))) ?_
  rw[QHK O,show(((el p.ul i.i).ou.toNat:Nat):Int)=(el p.ul i.i).ou by omega];refine QMW 3 I ?_;refine QO I (λhc2=>?_) λhc2=>?_
  ·have hdp:Va (p.ul.take i.i) (el p.ul i.i).ou>=0:=by simpa using hc2
   have hdv:=QHJ hlt ho hdp;refine QG<|QB ?_
   obtain⟨⟨rq,rn,rc⟩,hv9,hrn,hrc,hfix9⟩:=Q6.fix (w0:=w) (F0:=F) (bs1:=[_]) (G:=_) (Q6.some (T:=3) (sz:=1) (b:=b10) (n:=p.sh.toNat) (cap:=cap10) (l:=(F9 p.sh.toNat (p.ul.take i.i)).map Qs) (rest:=rest10) (by rw[aV,VN];omega) (by rw[aV,VN];omega) e5 e6);dsimp only at hrn hrc hfix9;subst hrn;refine H5 hfix9 ?_;rw[hv9];dsimp only[Sr.v];refine QMW 5 I<|ZS ?_
   exact X4 (⟨rq,p.sh.toNat,rc⟩) I (wP I I) (by rw[hdv];rfl) λF _ h=>by rw[hdv]at h;cases h
  have Ay:Va (p.ul.take i.i) (el p.ul i.i).ou<0:=wi<|QLs hc2
  refine QMX 4 I<|QA (QH I Yf QY)<|QA (Qp I QY .here (.skip (.skip .h1)))<|QJm I<|QA (Qm (i:=(el p.ul i.i).ou.toNat) rfl wN Qd QY O)<|QV (vs:=[_]) I I I QY I .u1 (Z5 (by rw[VN];omega) _) wT ?_
  rw[<-QCT hlt O Ay];refine QF<|Qg<|QD<|QB<|QA (Qn I I O)<|wB 2 I ?_
  exact Qj (⟨i.i+1,hlt,QER i hlt Ay⟩) (by show p.ul.length-(i.i+1)<p.ul.length-i.i;omega) wW ((.cons _ QKK)) λF h=>⟨h.1,trivial⟩
 have hge:p.ul.length<=i.i:=wi<|QLs hc2
 refine JK ?_;refine QG ?_;obtain⟨⟨rq,rn,rc⟩,hv9,hrn,hrc,hfix9⟩:=Q6.fix (w0:=w) (F0:=F) (bs1:=[]) (G:=_) (Q6.some (T:=3) (sz:=1) (b:=b10) (n:=p.sh.toNat) (cap:=cap10) (l:=(F9 p.sh.toNat (p.ul.take i.i)).map Qs) (rest:=rest10) (by rw[aV,VN];omega) (by rw[aV,VN];omega) e5 e6);dsimp only at hrn hrc hfix9;subst hrn;refine Da hfix9 ?_;rw[hv9];dsimp only[Sr.v];have htk:p.ul.take i.i=p.ul:=ai hge;have hde:=QHI hs.1 (htk ▸ i.nd);refine wA 3 I<|QA (Es 1 rfl rfl rfl Qd QY O hrc)<|QL I (λ_ _ f k=>QEY (l:=(F9 p.sh.toNat (p.ul.take i.i)).drop 1) f (by have:=k.2.drop hrc 1;rw[<-List.map_drop]at this;exact this) (by rw[ar,VN]) O) λ_=>QA (Xv I)<|QMW 5 I ?_
 exact X4 (⟨rq,p.sh.toNat,rc⟩) I (wP I I) (by rw[htk,hde]) λF ⟨⟨⟨⟨⟨hP,hz1⟩,hs7⟩,_⟩,hrow⟩,_⟩ _=>by rw[htk]at hrow;exact⟨hrow,rfl,hrc⟩
section
variable{P:Program}{w0:World}{F0:Gs}{bs:List (Nat×Obj)}{G:Gs->Prop}{Q:Exit->Act->World->Prop}{N:Nat}{m:Sl}{E:Env}{l rest:List Oper}{ops:Array Oper}
def QDa(r:Loop):Option Code->Loop
 |none=>r
 |some c=>{ r with state:=.done,pending:=some c }
theorem xt{g:Operand}{ps:Array Tmp}{assign body:Code}{gf:Nat}{lb:Array Value}(B:ι->List (Nat×Obj))(R:ι->Gs->Prop)(pd:ι->Option Code)(Dn:ι->Prop)(hg:ev m g=some (.func (.func gf) #[] lb))(he:Enters P gf)
  (hcall:∀(L D:Nat) (r:Loop) (w:World),TV N m ps assign body r->St ⟨w0,F0,(L,.loop r)::(D,.deferred (some []))::bs,G⟩ w ->
   Calls P gf (#[.func (.yield L) #[] #[]]++lb) w λe w'=>(∃v,e = .returned v)/\∃s,Dn s/\St ⟨w0,F0,(L,.loop (QDa r (pd s)))::(D,.deferred (some []))::B s,λF=>G F/\R s F⟩ w')
  (k:∀D s,Dn s->pd s=none->Fin (df:=Vi D) Q .normal N m ⟨w0,F0,(D,.deferred (some []))::B s,λF=>G F/\R s F⟩)
  (k2:∀D s c,Dn s->pd s=some c->J (df:=Vi D) P c Q N m ⟨w0,F0,(D,.deferred (some []))::B s,λF=>G F/\R s F⟩):J (df:=Y0) P (.rangeFunc g ps assign body) Q N m ⟨w0,F0,bs,G⟩:=λa w ha hw=>by
 refine(wpIn_wide (n:=0)).1 (wpIn_rangeFunc λfn _=>?_);obtain⟨r,hr⟩:∃r:Loop,r={ state:=.ready,pending:=none,fn,tmps:=a.tmps,params:=ps,assign,body,defers:=w.heap.size }:=⟨_,rfl⟩;have hs1:St ⟨w0,F0,(w.heap.size+1,.loop r)::(w.heap.size,.deferred (some []))::bs,G⟩ ((w.alloc (.deferred (some []))).alloc (.loop r)):=by
  have h1:=hw.alloc (.deferred (some [])) (λc fr e=>by cases e);have h2:=h1.alloc (.loop r) λc fr e=>by cases e
  rwa [World.size_alloc]at h2
 have hd:a.defers=[]:=ha.df;refine⟨w.heap.size+1,[{ target:=.collected w.heap.size,args:=#[] }],(w.alloc (.deferred (some []))).alloc (.loop r),{ target:=.fn (.func gf) lb,args:=#[.func (.yield (w.heap.size+1)) #[] #[]] },(w.alloc (.deferred (some []))).alloc (.loop r),gf,
  #[.func (.yield (w.heap.size+1)) #[] #[]]++lb,(w.alloc (.deferred (some []))).alloc (.loop r),?_,?_,λ_ _=>trivial,?_,λe=>(by cases e),?_⟩
 ·rw[hr];exact run_enterLoop_outer _ _ _ _ _
 ·simp only[resolve,ha.ev hg];simp[go_sem]
 ·simpa[invoke,go_sem]using he _ _
 refine(callsIn_wide.2 (hcall _ _ r _ ⟨by rw[hr],by rw[hr],by rw[hr],by rw[hr],by rw[hr],⟨by rw[hr];exact ha.size,rfl,by rw[hr];exact ha.get⟩⟩ hs1)).mono ?_;rintro e w' ⟨⟨v,rfl⟩,s,Ay,hs⟩;have hsl:JY (df:=Vi w.heap.size) N m { a with defers:=[{ target:=.collected w.heap.size,args:=#[] }]++a.defers }:=JY.mk (df:=Vi w.heap.size) (JY.size (df:=Y0) (a:=a) ha) (by show _++a.defers=_;rw[hd];rfl) (λt v h=>JY.get (df:=Y0) (a:=a) ha t v h);have hl:=hs.own .here;cases hp:pd s with
 |none =>
  rw[hp]at hl hs;refine⟨none,w'.putObj (w.heap.size+1) (.loop { r with state:=.exhausted }),?_,k w.heap.size s Ay hp _ _ hsl ?_⟩
  ·have h1:=run_endLoop (P:=P) hl (by show r.state≠_;rw[hr];intro e;cases e);rw[h1];show Result.ok r.pending _=_;rw[hr];rfl
  exact(hs.put (.loop { r with state:=.exhausted }) .here λc fr e=>by cases e).imp (.cons _ QKK) λ_ h=>h
 |some c =>
  rw[hp]at hl hs;refine⟨some c,w'.putObj (w.heap.size+1) (.loop { QDa r (some c)with state:=.exhausted }),?_,wpIn_wide.2 (k2 w.heap.size s c Ay hp _ _ hsl ?_)⟩
  ·exact run_endLoop (P:=P) hl (by intro e;cases e)
  exact(hs.put (.loop { QDa r (some c)with state:=.exhausted }) .here λc fr e=>by cases e).imp (.cons _ QKK) λ_ h=>h
theorem QCx{L:Nat}{r:Loop}{R:Ending->World->Prop}(ho:Own bs L (.loop r) f)(k:∀w,St ⟨w0,F0,f (.loop { r with state:=.done,pending:=some .ret }),G⟩ w->R (.returned (.bool false)) w):Fin (roundPost P L R) .ret N m ⟨w0,F0,bs,G⟩ :=
 λa w ha hw=>⟨_,_,run_endRound (some .ret) (hw.own ho),k _ (hw.put _ ho λc fr e=>by cases e)⟩
theorem QHp{F:Fence}(h:Fin Q .ret N m E):JI F P .ret Q N m E:=λa w ha hw=>wpIn_ret (h a w ha hw)
def UA{K:Act->World->Prop}:∀(l:List Oper) (a:Act) (w:World),W8 l=true->wpList P ops (XW K) l a w->(∀a w,K a w->wpListIn aX 0 P ops Q rest a w)->wpListIn aX 0 P ops Q (l++rest) a w
 |[],a,w,_,h,hk=>hk a w h
 |o::l,a,w,hd,h,hk=>by
  simp only[W8,List.all_cons,ax]at hd;rw[eC];unfold wpList at h;unfold wpListIn;split
  ·rename_i hw;rw[if_pos hw]at h;rcases h with h | ⟨_,h⟩
   ·exact G9.op (PX hd.1) (λ_ _ _ h=>h.elim) (λ_ _ h=>h.elim) (λa w h=>UA l a w hd.2 h hk) h
   obtain⟨_,_,h⟩:=h;exact h.elim
  rename_i hw;rw[if_neg hw]at h;exact⟨λf _=>trivial,UA l _ _ hd.2 h hk⟩
def QCu(hd:W8 l=true)(h:JS P ops (XW λa w=>wpListIn aX 0 P ops Q rest a w) l N m E):ud P ops Q (l++rest) N m E:=λa w ha hw=>UA l a w hd (h a w ha hw) λ_ _ h=>h
def xz(h:ud P ops Q rest N m E):Fin (XW λa w=>wpListIn aX 0 P ops Q rest a w) .normal N m E:=h
theorem QAP{id:Nat}(h:ud P l.toArray Q l N m E):J P (.region id l.toArray false) Q N m E:=λa w ha hw=>(wpIn_wide (n:=0)).1 (wpIn_region_lit (h a w ha hw))
theorem qu{id:Nat}(n:Nat)(hd:W8 (l.take n)=true)(h:JS P l.toArray (XW λa w=>wpListIn aX 0 P l.toArray Q (l.drop n) a w) (l.take n) N m E):J P (.region id l.toArray false) Q N m E:=by
 refine QAP ?_;have:=QCu (rest:=l.drop n) hd h
 rwa [aF]at this
theorem dh{d r:Nat}{args:Array Operand}{tys:Array TypeId}{vs:List Value}{pos:String}{E':ι->Env}{bv:ι->Bool}(hx:ev m x=some (.func (.yield r) #[] #[]))(hv:HM m args.toList=some vs)
  (hy:∀w,St E w->YieldAt aX 0 P r vs.toArray w λe w'=>∃s,e = .returned (.bool (bv s))/\St (E' s) w')
  (k:∀s,ud P ops Q l N ((d,.bool (bv s))::m) (E' s)) (hd:J1 N (some d)=true:=by rfl):ud P ops Q (⟨some d,.call ⟨.value x,args,tys⟩,ty,pos,aft,none⟩::l) N m E:=by
 intro a w ha hw;refine wpListIn_plain rfl λK hK=>?_;obtain⟨fn,tmps,assign,body,hr,hR⟩:=hy w hw;refine⟨λf _=>trivial,?_⟩;have e2:args.map a.eval=vs.toArray:=by rw[<-ha.HM hv];apply Array.ext';simp
 have hrun:(execOp a.eval ⟨some d,.call ⟨.value x,args,tys⟩,ty,pos,aft,none⟩).run P w = .ok (.round r fn tmps assign body) w:=by
  simp only[execOp,resolve,ha.ev hx,Deferred.ofValue,ff,fe,bW,invoke,e2];simpa using hr
 rw[Oper.semAt_plain aX a.eval _ (λc e=>by cases e),hrun];refine⟨λe=>(by cases e),hR.mono ?_⟩;rintro e w' ⟨s,rfl,hs⟩;exact hK _ _ (k s _ w' (ha.put hd (.bool (bv s))) hs)
theorem QHo{d:Option Tmp}{o:Op}{pos:String}{g t:Nat}{want:Bool}(hg:(ops[g]?).bind (·.dst)=some t)(hb:look m t=some (.bool want))(h:ud P ops Q (⟨d,o,ty,pos,aft,none⟩::l) N m E):ud P ops Q (⟨d,o,ty,pos,aft,some (g,want)⟩::l) N m E:=by
 intro a w ha hw;have h1:=h a w ha hw;unfold wpListIn at h1 ⊢;rw[if_pos (by simp[bA])]at h1;rw[if_pos (by simp[bA,W1 ha hg hb])];exact h1
end
theorem QA2{P:Program}{m:Sl}{ft:TypeId}{fo n f:Nat}{v:Value}(hf:Z9 P T f=some (fo,ft))(hs:ZZ P ft=some (false,n))(hx:ev m x=some (.agg cs.toArray))(hv:cs[fo]?=some v):Qt P N m S (.field T x f) ty v:=λa w _ _ _ _ ha _=>by
 unfold Z9 at hf;split at hf
 ·rename_i fs hu;split at hf
  ·rename_i fx hx2;simp only[bh,eG]at hf;obtain⟨rfl,rfl⟩:=hf;simp[execOp,ha.ev hx,Instr.field,run_underlying hu,hx2,asAgg,part,S7 hs,hv]
  cases hf
 cases hf
section
variable{P:Program}{N:Nat}{m:Sl}{w0:World}{F0:Gs}{bs:List (Nat×Obj)}{G:Gs->Prop}{ty:TypeId}{κ:Type}[DecidableEq κ]{K:κ->Value}{kv:List (κ×Value)}{b:Nat}{f:Obj->List (Nat×Obj)}
def cq(kv:List (κ×Value))(k:κ)(z:Value):Value×Bool:=match Y4 kv k 0 with
 |some (_,v)=>(v,true)
 |none=>(z,false)
theorem yO{kt et:TypeId}{y:Operand}{k:κ}{z v:Value}{ok:Bool}(hq:TQ P kt K)(hx:ev m x=some (.map (some b)))(hy:ev m y=some (K k))(ht:T9 P T kt et=true)(hz:zvB P et=some z)(ho:Own bs b (Wd K kv) f)(hf:cq kv k z=(v,ok)):
  Qt P N m (St ⟨w0,F0,bs,G⟩) (.lookup T x y true) ty (.tuple #[v,.bool ok]):=by
 unfold cq at hf;cases hfq:Y4 kv k 0 with
 |none=>rw[hfq]at hf;cases hf;exact qN hq hx hy ht hz ho hfq
 |some r=>obtain⟨i,v'⟩:=r;rw[hfq]at hf;cases hf;exact yN hq hx hy ht ho hfq
theorem cD{kt et:TypeId}{y:Operand}{k:κ}{z v:Value}{ok:Bool}(hq:TQ P kt K)(hx:ev m x=some (.map (some b)))(hy:ev m y=some (K k))(ht:T9 P T kt et=true)(hz:zvB P et=some z)(ho:Own bs b (Wd K kv) f)(hf:cq kv k z=(v,ok)):
  Qt P N m (St ⟨w0,F0,bs,G⟩) (.lookup T x y false) ty v:=λa w _ _ _ _ ha hw=>by
 have hb:=hw.own ho;unfold Wd at hb;have hu:=SC ht;unfold cq at hf;cases hfq:Y4 kv k 0 with
 |none =>
  rw[hfq]at hf;cases hf;simp[execOp,ha.ev hx,ha.ev hy,fP,run_underlying hu,eQ hb,hq.chk,hq.find,hfq,Iw hz]
 |some r =>
  obtain⟨i,v'⟩:=r;rw[hfq]at hf;cases hf;simp[execOp,ha.ev hx,ha.ev hy,fP,run_underlying hu,eQ hb,hq.chk,hq.find,hfq]
theorem IH{Q:Exit->Act->World->Prop}{ops:Array Oper}{l:List Oper}{pos:String}{kt et:TypeId}{y z:Operand}{k:κ}{v:Value}(hq:TQ P kt K)(hx:ev m x=some (.map (some b)))(hy:ev m y=some (K k))(hz:ev m z=some v)(ht:T9 P T kt et=true)(ho:Own bs b (Wd K kv) f)
  (kk:JS P ops Q l N m ⟨w0,F0,f (Wd K (Bs kv k v)),G⟩):JS P ops Q (⟨none,.insert T x y z,ty,pos,aft,none⟩::l) N m ⟨w0,F0,bs,G⟩:=λa w ha hw=>by
 refine wpList_plain rfl λKk hK=>?_;have h1:=qx (ops:=ops) (Q:=XW Kk) (l:=[]) (N:=N) (ty:=ty) (pos:=pos) (aft:=aft) (x:=x) (y:=y) (z:=z) hq hx hy hz ht ho (G:=G) (w0:=w0) (F0:=F0) (λa' w' ha' hw'=>(hK _ _ (kk a' w' ha' hw'):Kk a' w')) a w ha hw;unfold wpList at h1;rw[if_pos (by simp[bA])]at h1;rcases h1 with h1 | ⟨_,h1⟩
 ·unfold Oper.wp at h1 ⊢;have e:(execOp a.eval ⟨none,.insert T x y z,ty,pos,aft,none⟩).run P w=(execOp a.eval ⟨none,.mapUpdate T x y z,ty,pos,aft,none⟩).run P w:=rfl;rw[e];generalize (execOp a.eval ⟨none,.mapUpdate T x y z,ty,pos,aft,none⟩).run P w=r at h1;cases r with
  |ok x w'=>cases x<;>simp only[Oper.upon]at h1 ⊢<;>first | exact h1 | exact h1.elim | (exact h1.mono λe w'' h=>by cases e<;>first | exact h | exact h.elim | (obtain⟨_,_,h⟩:=h;exact h.elim))
  |halt x w'=>cases x<;>simp only[Oper.upon]at h1 ⊢<;>exact h1.elim
 obtain⟨_,_,h1⟩:=h1;exact h1.elim
end
section
variable[Dr][df:Df]{P:Program}{Q:Exit->Act->World->Prop}{N:Nat}{m:Sl}{E E0:Env}{l:List Oper}{r r1 r2:List Nat}
theorem QJk(i j:Nat){o o':Oper}(hp:BD l r=none)(hl:r.filter (Y7 l r)=[i,j])(ho:l[i]?=some o)(ho':l[j]?=some o')(hq:Jb o.op=false)(hq':Jb o'.op=false)(he:r.erase i=r1)(he':r.erase j=r2)
  (h:JD P l.toArray (XW (yi P l Q E0 r1)) E0 [o] N m E) (h':JD P l.toArray (XW (yi P l Q E0 r2)) E0 [o'] N m E) (hr:r≠[]:=by decide):JV P l Q E0 r N m E:=by
 intro hE a w ha hw;subst he;subst he';obtain⟨x,s,rfl⟩:=eI hr;show UC P l Q (St E0) (s.length+1) (x::s) a w;unfold UC;rw[hp];intro k hk hrd;have hm:k∈(x::s).filter (Y7 l (x::s)):=List.mem_filter.2 ⟨hk,hrd⟩;rw[hl]at hm;have e2:s.length=((x::s).erase k).length:=by
  have:=HQ hk;rw[aC]at this;omega
 rcases List.mem_cons.1 hm with rfl | hm
 ·refine wpOp_mono (λa' w' ⟨_,S',h1,h2,h3⟩=>⟨S',h1,h2,?_⟩) (RM ho hq h hE ha hw);rw[e2];exact h3
 cases List.mem_singleton.1 hm;refine wpOp_mono (λa' w' ⟨_,S',h1,h2,h3⟩=>⟨S',h1,h2,?_⟩) (RM ho' hq' h' hE ha hw);rw[e2];exact h3
end
theorem NQ:T9 prog 232 9 230=true:=wj
theorem QDQ:ZZ prog 216=some (false,1):=wj
theorem qz:zvB prog 230=some (.agg #[.int .i64 0,.int .i64 0,.nilFunc,.nilFunc]):=wj
def kL(kd:List UInt8):Int:=if kd=WA then 2 else if kd=SR then 1 else if kd=K7 then 1 else 0
def kX(kd:List UInt8):Int:=if kd=WA then 2 else if kd=SR then 8 else if kd=K7 then 1 else 0
def kF(kd:List UInt8):Value:=if kd=WA then .func (.func 259) #[] #[]else if kd=SR then .func (.func 258) #[] #[]else if kd=K7 then .func (.func 258) #[] #[]else .nilFunc
def kH(kd:List UInt8):Value:=if kd=WA then .nilFunc else if kd=SR then .func (.func 260) #[] #[]else if kd=K7 then .func (.func 261) #[] #[]else .nilFunc
def kV(kd:List UInt8):Value:=.agg #[.int .i64 (kL kd),.int .i64 (kX kd),kF kd,kH kd]
def kB(kd:List UInt8):Bool:=decide (kd=WA)||decide (kd=SR)||decide (kd=K7)
def kdM:List (List UInt8×Value):=[(WA,kV WA),(SR,kV SR),(K7,kV K7)]
def gV(kd:List UInt8):cq kdM kd (.agg #[.int .i64 0,.int .i64 0,.nilFunc,.nilFunc])=(.agg #[.int .i64 (kL kd),.int .i64 (kX kd),kF kd,kH kd],kB kd):=by
 obtain⟨e1,e2,e3⟩:=SQ;unfold cq kdM Y4 Y4 Y4 Y4;by_cases h1:kd=WA
 ·subst h1;rw[if_pos rfl];unfold kB;rw[decide_eq_true rfl];rfl
 rw[if_neg h1];by_cases h2:kd=SR
 ·subst h2;rw[if_pos rfl];unfold kB;rw[decide_eq_true (p:=SR=SR) rfl,eW];rfl
 rw[if_neg h2];by_cases h3:kd=K7
 ·subst h3;rw[if_pos rfl];unfold kB;rw[decide_eq_true (p:=K7=K7) rfl,eW];rfl
 rw[if_neg h3];simp only[kL,kX,kF,kH,kB,if_neg h1,if_neg h2,if_neg h3,decide_eq_false h1,decide_eq_false h2,decide_eq_false h3];rfl
def QKf:kV WA = .agg #[.int .i64 2,.int .i64 2,.func (.func 259) #[] #[],.nilFunc]:=by unfold kV kL kX kF kH;rw[if_pos rfl,if_pos rfl,if_pos rfl,if_pos rfl]
def QKg:kV SR = .agg #[.int .i64 1,.int .i64 8,.func (.func 258) #[] #[],.func (.func 260) #[] #[]]:=by
 have h:=SQ.1.symm;simp only[kV,kL,kX,kF,kH,if_neg h,eq_self,if_true]
def QKe:kV K7 = .agg #[.int .i64 1,.int .i64 1,.func (.func 258) #[] #[],.func (.func 261) #[] #[]]:=by
 have h:=SQ.2.1.symm;have h2:=SQ.2.2.symm;simp only[kV,kL,kX,kF,kH,if_neg h,if_neg h2,eq_self,if_true]
def QEF:Bs (Bs (Bs [] WA (.agg #[.int .i64 2,.int .i64 2,.func (.func 259) #[] #[],.nilFunc])) SR (.agg #[.int .i64 1,.int .i64 8,.func (.func 258) #[] #[],.func (.func 260) #[] #[]])) K7 (.agg #[.int .i64 1,.int .i64 1,.func (.func 258) #[] #[],.func (.func 261) #[] #[]])=kdM:=by
 obtain⟨e1,e2,e3⟩:=SQ;unfold kdM;rw[QKf,QKg,QKe];simp only[Bs,if_neg e1.symm,if_neg e2.symm,if_neg e3.symm]
def kf2(kd:List UInt8):Nat:=if kd=WA then 259 else 258
def QKh{kd:List UInt8}(h:gW kd):kF kd = .func (.func (kf2 kd)) #[] #[]:=by
 unfold kF kf2;by_cases h1:kd=WA
 ·rw[if_pos h1,if_pos h1]
 rw[if_neg h1,if_neg h1];rcases h with h | h | h
 ·exact absurd h h1
 ·rw[if_pos h]
 by_cases h2:kd=SR
 ·rw[if_pos h2]
 rw[if_neg h2,if_pos h]
theorem jv:YQ prog 169 [] ⟨w0,F0,bs,G⟩ (λ(c:Nat)=>.map (some c)) (λc=>⟨w0,F0,(c,Wd tx kdM)::bs,G⟩):=by
 refine YQ.intro func169 rfl wu rfl rfl<|QLF<|wR rfl<|QLF<|wR rfl<|QLF<|Cp tx λb2=>QA (ZT rfl vo zO (.cons (vs:=[_]) rfl rfl rfl .h1 (.cons (vs:=[_]) rfl rfl rfl (.skip .h1) (.cons (vs:=[_]) rfl rfl rfl (.skip (.skip .h1)) (.cons (vs:=[_]) rfl rfl rfl (.skip (.skip (.skip .h1))) .nil)))))<|IH (k:=WA) (v:=.agg #[.int .i64 2,.int .i64 2,.func (.func 259) #[] #[],.nilFunc]) UG rfl rfl rfl NQ .here<|QJm rfl<|QA (ZT rfl vo zO (.cons (vs:=[_]) rfl rfl rfl .h1 (.cons (vs:=[_]) rfl rfl rfl (.skip .h1) (.cons (vs:=[_]) rfl rfl rfl (.skip (.skip .h1)) (.cons (vs:=[_]) rfl rfl rfl (.skip (.skip (.skip .h1))) .nil)))))<|IH (k:=SR) (v:=.agg #[.int .i64 1,.int .i64 8,.func (.func 258) #[] #[],.func (.func 260) #[] #[]]) UG rfl rfl rfl NQ .here<|QJm rfl<|QA (ZT rfl vo zO (.cons (vs:=[_]) rfl rfl rfl .h1 (.cons (vs:=[_]) rfl rfl rfl (.skip .h1) (.cons (vs:=[_]) rfl rfl rfl (.skip (.skip .h1)) (.cons (vs:=[_]) rfl rfl rfl (.skip (.skip (.skip .h1))) .nil)))))<|IH (k:=K7) (v:=.agg #[.int .i64 1,.int .i64 1,.func (.func 258) #[] #[],.func (.func 261) #[] #[]]) UG rfl rfl rfl NQ .here<|QJm rfl<|wR rfl<|QU ?_
 exact G5 (b2) rfl (wO I) (rfl) λw hw=>by rw[QEF]at hw;exact hw
theorem QG1(hF:Fits F w):Qi prog 258 [.agg (MR u).toArray] w F u.fd.v:=by
 refine QS.go (G:=λF=>True) func258 hF trivial ?_;refine QLF<|Q9 I (vs:=[_,_,_,_,_]) I λb1=>QMW 5 I<|QA (QH I Zz Xd)<|QA (Qp I Xd .here (.skip .h1))<|wR I<|QU ?_
 exact QMn I I (rfl) wz
theorem QG0(hF:Fits F w)(hc:u.fd.n<=u.fd.cap)(h1:1<=u.fd.n):Qi prog 259 [.agg (MR u).toArray] w F (.slice (if u.fd.cap=1 then u.fd.q else u.fd.q.map λa=>a.add (1*2)) (u.fd.n-1) (u.fd.cap-1)):=by
 refine QS.go (G:=λF=>True) func259 hF trivial ?_;refine QLF<|Q9 I (vs:=[_,_,_,_,_]) I λb1=>QMW 5 I<|QA (QH I Zz Xd)<|QA (Qp I Xd .here (.skip .h1))<|QA (Es 1 rfl rfl rfl YV Kf h1 hc)<|wR I<|QU ?_
 exact QMn I I (rfl) wz
theorem QG2(hF:Fits F w)(hc:u.fd.n<=u.fd.cap)(h1:1<=u.fd.n):Qi prog (kf2 u.kd) [.agg (MR u).toArray] w F (jg u).v:=by
 unfold kf2 jg;by_cases h:u.kd=WA
 ·rw[if_pos h,if_pos h];exact QG0 hF hc h1
 rw[if_neg h,if_neg h];exact QG1 hF
theorem QBc{p:YB}(hF:Fits F w):QS prog 172 [p.v,s.v,.agg (MR u).toArray] w F (λ(c:Nat×Nat)=>.func (.func 263) #[] #[.pointer (some ⟨c.1,0,none⟩),.pointer (some ⟨c.2,0,none⟩)]) (λc F=>F c.1=some ((MR u).toArray,80)/\F c.2=some (#[s.v],23)):=by
 refine QS.go (G:=λF=>True) func172 hF trivial ?_;refine QLF<|Q9 I (vs:=[_,_,_]) I λb3=>Q9 I (vs:=[_]) I λb4=>Q9 I (vs:=[_,_,_,_,_]) I λb5=>QMW 5 I<|Nx (b:=b5) .here<|Nx (b:=b4) .here<|QA (Et I)<|wR I<|QU ?_
 exact QM ((b5,b4)) I (wO I) (rfl) λF h=>⟨h.1.2,h.2⟩
structure RmI{α:Type}(l:List α)(p:α->Bool) where
 k:Nat
 le:k<=l.length
 ok:∀x∈l.take k,p x=true
section
variable{α:Type}[Inhabited α]{l:List α}{p:α->Bool}
def RmI.next(s:RmI l p)(h:s.k<l.length)(e:p (el l s.k)=true):RmI l p:=⟨s.k+1,h,λx hx=>by
 rw[ZB h]at hx;rcases List.mem_append.1 hx with hx | hx
 ·exact s.ok x hx
 rw[List.mem_singleton.1 hx];exact e⟩
def RmI.hit(s:RmI l p)(h:s.k<l.length)(e:p (el l s.k)=false):l.all p=false:=List.all_eq_false.2 ⟨_,Q2 h,by rw[e];decide⟩
omit [Inhabited α] in
theorem RmI.stop(s:RmI l p)(h:l.length<=s.k):l.all p=true:=List.all_eq_true.2 λx hx=>s.ok x (by rw[ai h];exact hx)
end
section
variable[Dr][df:Df]{P:Program}{Q:Exit->Act->World->Prop}{N:Nat}{m:Sl}{E0:Env}{ops:Array Oper}{l:List Oper}{w0:World}{F0:Gs}{bs:List (Nat×Obj)}{G G':Gs->Prop}
theorem QEu(h:∀F,G F->G' F)(k:JD P ops Q E0 l N m ⟨w0,F0,bs,G'⟩)(h2:∀w,St ⟨w0,F0,bs,G'⟩ w->St E0 w:=by exact λ_ h=>h):JD P ops Q E0 l N m ⟨w0,F0,bs,G⟩:=λ_ a w ha hw=>k h2 a w ha (hw.TO h)
end
theorem cN{B:Bool->List (Nat×Obj)}{H:Gs->Prop}{N c2 b1 b2 L:Nat}{okf:Lf->Bool} 
  (hH:∀F,H F->F b1=some ((MR u).toArray,80)/\F b2=some (#[.slice q2 N c2],23)/\RJ F u/\JC F q2 N 1 ((F9 N us).map Qs)) (hml:(K6 u).length=(jg u).n)
  (hfc:u.fd.n<=u.fd.cap) (hf1:1<=u.fd.n) (hfn:u.fd.n<=1000000) (hk3:gW u.kd) (hkN:∀f∈K6 u,0<=f.k/\f.k<(N:Int)) (hok:∀f:Lf,Va us f.k<0->okf f=true)
  (hround:∀(C:Nat×Obj) (j:Nat) (W:World),j<(K6 u).length->0<=Va us (el (K6 u) j).k->St ⟨w0,F0,C::B true,H⟩ W->YieldAt aX 0 prog L #[.int .i64 (Va us (el (K6 u) j).k)] W λe W'=>e = .returned (.bool (okf (el (K6 u) j)))/\St ⟨w0,F0,C::B (okf (el (K6 u) j)),H⟩ W') :
  YQ prog 263 [.func (.yield L) #[] #[],.pointer (some ⟨b1,0,none⟩),.pointer (some ⟨b2,0,none⟩)] ⟨w0,F0,B true,H⟩ (λ(_:{b:Bool // b=(K6 u).all okf})=>.tuple #[]) (λb=>⟨w0,F0,B b.1,H⟩):=by
 have hmle:=gI (u:=u);refine YQ.intro func263 rfl wu rfl rfl<|QG<|uZ (r:=[0,1,2,3,4,5,6,7,8]) QKK mixed wj rfl<|P7 1 wj rfl rfl<|QJ (QH rfl KM Y5)<|P6<|P7 2 wj rfl rfl<|QJ (Eu (c:=(MR u).toArray) (T':=80) rfl Y5 (λF h=>(hH F h).1) rfl)<|P6<|P7 5 wj rfl rfl<|QJ (Rx (c:=(MR u).toArray) (T':=80) (vs:=MR u) rfl XJ (λF h=>(hH F h).1) rfl λj v hv=>by rw[ae];simpa using hv)<|P6<|P7 8 wj rfl rfl<|QJ (QC I)<|P6<|qw 0 wj wj rfl rfl rfl<|Ny I (aW _) jv (λc w h=>h.imp (.cons _ QKK) λ_ h=>h) λc7=>QCq (E1:=⟨w0,F0,(c7,Wd tx kdM)::B true,H⟩) (λw h=>h.imp (.cons _ QKK) λ_ h=>h) w7<|P7 3 wj rfl rfl<|QJ (cD UG I I NQ qz .here (gV u.kd))<|P6<|P7 4 wj rfl rfl<|QJ (QA2 QEM QDQ (cs:=[_,_,_,_]) I I)<|P6<|qw 6 wj wj rfl rfl rfl<|Aq (f:=kf2 u.kd) (c1:=[]) (c2:=[]) (by show some (kF u.kd)=_;rw[QKh hk3]) rfl (λ_ _ f h=>QG2 f hfc hf1) λ_=>QEu (G':=H) w8<|kT<|P7 7 wj rfl rfl<|QJ (Qc rfl YV)<|P6<|xu<|QD<|QQ<|XC (ι:=RmI (K6 u) okf) [(0,_),(2,_),(13,_),(14,_)] (λi=>[(15,.int .i64 ((i.k:Nat):Int))]) (λi=>B true) (λi F=>True) (λi=>(K6 u).length-i.k) (⟨0,aj _,λx hx=>by cases hx⟩) wW wT (.cons _ QKK) wz λi=>?_
 have hi:=i.le;refine wA 6 I ?_;refine QO I (λhc2=>?_) λhc2=>?_
 ·have hlt:i.k<(K6 u).length:=wi<|QLr hc2
  have hkk:=hkN _ (Q2 hlt);refine QMX 6 I<|QA (Qo (n:=(jg u).n) (i.k) (λF h9=>(MX (hH _ h9.1).2.2.1 hfc)) I I YV Kf O)<|QA (XE (n:=(jg u).n) (vs:=[Qs ((el (K6 u) (i.k)).k),tx (el (K6 u) (i.k)).r]) ((i.k)*2) (λF h9=>(MX (hH _ h9.1).2.2.1 hfc)) O rfl Kf I λj v hv=>JR (f:=Uj) (l:=(K6 u)) YT O hv)<|Qk QDL λb5=>QV (vs:=[_,_]) I I I Kf I .here .h2 wU<|QJl<|QLF<|QA (Eu (c:=#[.slice q2 N c2]) (T':=23) rfl Qu (λF h9=>(hH _ h9.1).2.1) rfl)<|QA (QH I GQ QY)<|QA (Qp I QY .here .h1)<|QA (Qo (n:=N) ((el (K6 u) i.k).k.toNat) (λF h9=>(hH _ h9.1).2.2.2) rfl wN Qd QY O)<|QA (Ql (n:=N) ((el (K6 u) i.k).k.toNat*1) (λF h9=>(hH _ h9.1).2.2.2) O rfl QY (Jo (f:=Qs) (l:=F9 N us) (by rw[VN];omega))) ?_
  rw[xZ O,show(((el (K6 u) i.k).k.toNat:Nat):Int)=(el (K6 u) i.k).k by omega];refine QMW 3 I ?_;refine EK (ι:={b:Bool // b=!okf (el (K6 u) i.k)}) [(0,_),(2,_),(13,_),(14,_),(15,_)] (λi4=>[(31,.bool (i4.1))]) (λi4=>(b5,.cells (Uj (el (K6 u) i.k)).toArray 89 (0,0))::B (!i4.1)) (λi4 F=>True) wX ?_ ?_
  ·refine qu 5 rfl ?_;simp only[bj,aM,aB,bT];refine wB 3 I ?_;refine Qa (t:=26) rfl (λhb26=>?_) λhb26=>?_
   ·refine QK I I ?_;refine wB 4 I<|xz ?_
    have hpos:0<=Va us (el (K6 u) i.k).k:=QLr hb26;refine QHo I I ?_;refine dh (ι:={b:Bool // b=okf (el (K6 u) i.k)}) (bv:=λb=>b.1) (E':=λb=>⟨w0,F0,(b5,.cells (Uj (el (K6 u) i.k)).toArray 89 (0,0))::B b.1,λF=>(H F/\True)⟩) I I (λW hW=>?_) λb29=>?_
    ·obtain⟨fn,tmps,assign,body,e1,e2⟩:=hround (b5,.cells (Uj (el (K6 u) i.k)).toArray 89 (0,0)) i.k W hlt hpos (hW.TO λF h=>h.1);exact⟨fn,tmps,assign,body,e1,e2.mono λe w' ⟨h2,h3⟩=>⟨⟨_,rfl⟩,h2,h3.TO λF h=>⟨h,trivial⟩⟩⟩
    refine xv (λ⟨_,_,h⟩=>h) rfl<|QK I I<|QA (Xv I)<|wB 2 I ?_
    exact ZP (⟨!b29.1,by rw[b29.2]⟩) (by repeat first | exact trivial | refine⟨rfl,?_⟩) (by dsimp only;rw[eu];exact bQ _) λF h=>⟨h,trivial⟩
   refine wB 1 I ?_;refine wB 2 I<|xz<|xv (λ⟨_,_,h⟩=>h) rfl<|wB 4 I ?_
   exact ZP (⟨false,by rw[hok _ (wi<|QLs hb26)];rfl⟩) (by repeat first | exact trivial | refine⟨rfl,?_⟩) QKK λF h=>⟨h,trivial⟩
  intro i4;refine QO I (λhc2=>?_) λhc2=>?_
  ·refine ZS ?_;exact G5 (⟨false,(i.hit hlt (by have:=i4.2;rw[hc2]at this;simpa using this.symm)).symm⟩) I .nil (rfl) λw hw=>by rw[hc2]at hw;exact hw.imp (.cons _ QKK) λF h=>h.1.1
  refine QN<|Qg<|QD<|QB<|QA (Qn I I O)<|wB 2 I ?_
  exact Qj (i.next hlt (by have:=i4.2;rw[hc2]at this;simpa using this.symm)) (by show(K6 u).length-(i.k+1)<(K6 u).length-i.k;omega) wX ((by rw[hc2];exact .cons _ QKK)) λF h=>⟨h.1.1,trivial⟩
 have hge:(K6 u).length<=i.k:=wi<|QLs hc2
 refine Yh ?_
 repeat first|refine Jy ?_|refine Jp wu ?_
 refine Jz<|dp ?_
 exact G5 (⟨true,(i.stop hge).symm⟩) I .nil (rfl) λw hw=>hw.imp QKK w8
theorem uK{k:Int}:∀(us:List Xi) (i:Nat),Ng k us i<((i+us.length:Nat):Int)
 |[],i=>by show(-1:Int)<_;omega
 |x::us,i=>by
  rw[Ng];have ih:=uK (k:=k) us (i+1);rw[aC];split
  ·omega
  rw[show i+(us.length+1)=i+1+us.length by omega];exact ih
def xK(us:List Xi)(k:Int):Va us k<(us.length:Int):=by
 have:=uK (k:=k) us 0
 rwa [ae]at this
def dnF(us:List Xi)(dl:List Bool)(f:Lf):Bool:=decide (Va us f.k<0)||el dl (Va us f.k).toNat
theorem QDb{p:YB}{b1 b2 b3 N c2 n3 c3:Nat}{q3:Option Addr}{dl:List Bool}(hF:Fits F w)(h1:F b1=some (#[Qs p.sh,.slice p.un.q p.un.n p.un.cap,.slice p.ot.q p.ot.n p.ot.cap],25))(h2:F b2=some (#[.slice q2 N c2],23))(h3:F b3=some (#[.slice q3 n3 c3],84))(hU:RJ F u)(hby:JC F q2 N 1 ((F9 N p.ul).map Qs))(Ay:JC F q3 n3 1 (dl.map ah))
  (hdl:dl.length=n3) (hn3:p.ul.length=n3) (hf1:1<=u.fd.n) (hfn:u.fd.n<=1000000) (hk3:gW u.kd) (hkN:∀f∈K6 u,0<=f.k/\f.k<(N:Int)):Qi prog 171 [.agg (MR u).toArray,.pointer (some ⟨b1,0,none⟩),.pointer (some ⟨b2,0,none⟩),.pointer (some ⟨b3,0,none⟩)] w F (.bool ((K6 u).all (dnF p.ul dl))):=by
 have hml:=jf hU.E9;have hfc:=hU.C5;refine QS.gZ (G:=λF=>F b1=some (#[Qs p.sh,.slice p.un.q p.un.n p.un.cap,.slice p.ot.q p.ot.n p.ot.cap],25)/\F b2=some (#[.slice q2 N c2],23)/\F b3=some (#[.slice q3 n3 c3],84)/\RJ F u/\JC F q2 N 1 ((F9 N p.ul).map Qs)/\JC F q3 n3 1 (dl.map ah)) func171 I wu rfl rfl hF (λF' hF'=>⟨hF' _ _ h1,hF' _ _ h2,hF' _ _ h3,hU.le hF',hby.le hF',Ay.le hF'⟩)<|QLF<|Q9 I (vs:=[_,_,_,_,_]) I λb4=>Qk z_4 λb5=>QMW 4 I<|JN (b:=b4) .u1<|QB<|QA (Rx (c:=#[Qs p.sh,.slice p.un.q p.un.n p.un.cap,.slice p.ot.q p.ot.n p.ot.cap]) (T':=25) (vs:=[Qs p.sh,.slice p.un.q p.un.n p.un.cap,.slice p.ot.q p.ot.n p.ot.cap]) I ZL (λF h9=>h9.1.1) rfl λj v hv=>by rw[ae];simpa using hv)<|QA (Eu (c:=#[.slice q2 N c2]) (T':=23) rfl Qu (λF h9=>h9.1.2.1) rfl)<|QA (Jj w9 rfl XJ I)<|QL I (λ_ _ f k=>QBc (p:=p) (u:=u) (s:=⟨q2,N,c2⟩) f) λc10=>QJl<|QQ<|QCp (λG hG=>?_)
 have hfacts:∀F,G F->F c10.1=some ((MR u).toArray,80)/\F c10.2=some (#[.slice q2 N c2],23)/\RJ F u/\JC F q2 N 1 ((F9 N p.ul).map Qs):=λF h=>by
  obtain⟨⟨⟨h1,h2,h3,hU,hby,Ay⟩,hz4⟩,h10⟩:=hG F h;exact⟨h10.1,h10.2,hU,hby⟩
 have hdone:∀F,G F->F b3=some (#[.slice q3 n3 c3],84)/\JC F q3 n3 1 (dl.map ah):=λF h=>by
  obtain⟨⟨⟨h1,h2,h3,hU,hby,Ay⟩,hz4⟩,h10⟩:=hG F h;exact⟨h3,Ay⟩
 refine xt (ι:={b:Bool // b=(K6 u).all (dnF p.ul dl)}) (λs=>[(b5,.cells [.bool false].toArray 4 (0,0))]) (λs F=>True) (λs=>if s.1 then none else some .ret) (λs=>True) rfl (enters_of func263 wu rfl) (λL D r W hrec hst=>?_) ?_ λD s c hs hp=>?_
 ·have hm:=cN (w0:=w) (F0:=F) (B:=λb=>(L,.loop (QDa r (if b then none else some .ret)))::(D,.deferred (some []))::[(b5,.cells [.bool false].toArray 4 (0,0))]) (H:=G) (u:=u) (us:=p.ul) (N:=N) (c2:=c2) (b1:=c10.1) (b2:=c10.2) (L:=L) (q2:=q2) (okf:=dnF p.ul dl) hfacts hml hfc hf1 hfn hk3 hkN (λf hf=>by unfold dnF;rw[decide_eq_true hf];rfl) λC j W hj hpos hst=>?_
  ·refine(hm.2 W hst).mono ?_;rintro e w' ⟨c,rfl,h⟩;exact⟨⟨_,rfl⟩,c,trivial,h.TO λF h=>⟨h,trivial⟩⟩
  letI:Df:=Y0;change St ⟨w,F,C::(L,.loop r)::(D,.deferred (some []))::[(b5,.cells [.bool false].toArray 4 (0,0))],G⟩ W at hst;have hlt:=xK p.ul (el (K6 u) j).k;refine TW hst .u1 (by rw[hrec.params];rfl) (IS hrec _ wk) ?_;rw[hrec.assign,hrec.body];refine ER (Wm L) (λ⟨_,_,h⟩=>h) rfl<|wB 2 I<|zA .u1 hrec.state<|Cr<|di<|ER (Wm L) (λ⟨_,_,h⟩=>h) rfl<|QA (Eu (c:=#[.slice q3 n3 c3]) (T':=84) rfl pD (λF h=>(hdone F h).1) rfl)<|QJm I<|QA (Qo (n:=n3) (Va p.ul (el (K6 u) j).k).toNat (λF h=>(hdone F h).2) rfl wN Uw Zi O)<|QA (Ql (n:=n3) ((Va p.ul (el (K6 u) j).k).toNat*1) (λF h=>(hdone F h).2) O rfl Zi (Jo (f:=ah) (l:=dl) O))<|QA (Xv I)<|QF<|zB ?_
  refine uf I (λhc=>?_) λhc=>?_
  ·have hno:dnF p.ul dl (el (K6 u) j)=false:=by unfold dnF;rw[decide_eq_false O];simpa using hc
   refine di<|ER (Wm L) (λ⟨_,_,h⟩=>h) rfl<|QV (vs:=[_]) I I I Zi I .u3 .h1 wT<|QF<|zB<|QHp<|DD<|QCx .u1 λw1 hw1=>?_
   rw[hno];exact⟨rfl,hw1⟩
  have hyes:dnF p.ul dl (el (K6 u) j)=true:=by unfold dnF;rw[decide_eq_false O];simpa using hc
  refine ue<|Qg<|xw .u1 λw1 hw1=>?_
  rw[hyes];refine⟨rfl,?_⟩;rw[Tl hrec]at hw1;exact hw1
 rotate_left
 ·have hs2:s.1=false:=by cases h:s.1 with
   |false=>rfl
   |true=>rw[h]at hp;cases hp
  rw[hs2]at hp;cases hp;letI:Df:=Vi D;refine ZS ?_;refine xx .here ?_;letI:Df:=Y0;exact QM (()) I (.kC rfl Zi .u1 .h1 .nil) (congrArg ah (s.2 ▸ hs2)) wz
 intro D s hs hp;have hs2:s.1=true:=by cases h:s.1 with
  |true=>rfl
  |false=>rw[h]at hp;cases hp
 letI:Df:=Vi D;refine Qg<|QD<|QLF<|QV (vs:=[_]) I I I Zi I .u1 .h1 wT<|QJl<|QU<|xx .here ?_
 letI:Df:=Y0;exact QM (()) I (.kC rfl Zi .u1 .h1 .nil) (congrArg ah (s.2 ▸ hs2)) wz
def dD(us:List Xi)(out:List Int):List Bool:=(aE us.length).map λi:Nat=>decide ((i:Int)∈out)
def Hw(us:List Xi)(out:List Int):(dD us out).length=us.length:=by simp[dD]
def xN{i:Nat}(h:i<us.length):el (dD us out) i=decide ((i:Int)∈out):=by
 rw[ZH (by rw[Hw];exact h)];simp[dD]
theorem QET{i:Nat}(h:i<us.length):(dD us out).set i true=dD us (out++[(i:Int)]):=by
 refine bH (by rw[aH,Hw,Hw]) λk h1 h2=>?_;rw[aH,Hw]at h1;rw[fI,<-ZH (by rw[Hw];exact h1),<-ZH (by rw[Hw];exact h1),xN h1,xN h1];by_cases e:i=k
 ·subst e;simp
 rw[if_neg e,bO,decide_eq_true_eq,decide_eq_true_eq,List.mem_append,List.mem_singleton];constructor
 ·exact .inl
 rintro(h | h)
 ·exact h
 omega
def QEU(us:List Xi):JL [.bool false] us.length=(dD us []).map ah:=by
 rw[ZM];unfold dD;rw[ep];refine bH wv λk h1 h2=>?_;rw[eU,eB];simp
theorem QJW{f:Lf}:dnF us (dD us out) f=okF us out f:=by
 unfold dnF okF;by_cases h:Va us f.k<0
 ·rw[decide_eq_true h];rfl
 have hl:=xK us f.k;rw[decide_eq_false h,bV,bV,xN O,show(((Va us f.k).toNat:Nat):Int)=Va us f.k by omega]
structure QK8(us:List Xi) where
 out:List Int
 v:Value
 ob:List (Nat×Obj)
 ok:S2 us out
 hr:Q6 3 1 v out.length (out.map Qs) ob
structure NrI(us:List Xi)(out:List Int) where
 j:Nat
 le:j<=us.length
 no:∀i,i<j->Ic us out i=false
theorem NrI.find(s:NrI us out)(h:s.j<us.length)(e:Ic us out s.j=true):pj us out=some s.j:=by
 unfold pj;rw[List.find?_range_eq_some];exact⟨e,List.mem_range.2 h,λi hi=>by rw[s.no i hi];rfl⟩
theorem NrI.none(s:NrI us out)(h:us.length<=s.j):pj us out=fO:=by
 unfold pj;rw[List.find?_range_eq_none];intro i hi;rw[s.no i O];rfl
def S2.full(s:S2 us out)(h:us.length<=out.length):ZY us=out:=by
 rw[s.eq,show us.length-out.length=0 by omega];rfl
def C4(us:List Xi):Bool:=decide ((ZY us).length=us.length)
theorem QDn{p:YB}{N c2:Nat}(hF:Fits F w)(hP:GR F p)(hby:JC F q2 N 1 ((F9 N p.ul).map Qs))(hb:p.un.n<=1000000)(hu:∀u∈p.ul,1<=u.fd.n/\u.fd.n<=1000000)(hkd:∀u∈p.ul,gW u.kd)(hkN:∀u∈p.ul,∀f∈K6 u,0<=f.k/\f.k<(N:Int)):
  QS prog 100 [p.v,.slice q2 N c2] w F (λ(c:Sr)=>.tuple #[c.v,.bool (C4 p.ul)]) (λc F=>C4 p.ul=true->JC F c.q c.n 1 ((ZY p.ul).map Qs)/\c.n=(ZY p.ul).length/\c.n<=c.cap):=by
 have Ax:=hP.Mf;refine QS.go (G:=λF=>GR F p/\JC F q2 N 1 ((F9 N p.ul).map Qs)) func100 hF ⟨hP,hby⟩ ?_;refine QLF<|Q9 I (vs:=[_,_,_]) I λb2=>Q9 I (vs:=[_]) I λb3=>QMW 4 I<|ua<|QG<|JN (b:=b2) .u1<|JN (b:=b3) .here<|QMX 6 I<|QA (QH I XP Jf)<|QA (QW 1 (λF h9=>h9.1.2) rfl Jf I)<|QA (Qc I Xk)<|K5 (n:=p.un.n) (bytes:=1) rfl rfl Uw Zi z_4 I QHR O O λb14=>?_
 rw[<-Ax,QEU,Ax];refine Qk QKC (λb7=>QV (vs:=[_]) I I I pD I .here .h1 wT<|QJl<|QG<|JN (b:=b7) .here<|QB<|QA (Et I)<|wR I<|QG<|ub<|QMY 3 I<|XC (ι:=QK8 p.ul) [(2,_),(7,_),(8,_)] (λi=>[(6,i.v)]) (λi=>(b14,.cells ((dD p.ul i.out).map ah).toArray 4 (0,0))::i.ob) (λi F=>True) (λi=>p.ul.length-i.out.length) (⟨[],_,[],S2.start _,.nil⟩) wV wT QKK wz λi=>?_);have hole:=i.ok.le;refine wA 4 I<|QA (U9 I i.hr Qd)<|QA (QH I XP Jf)<|QA (QW 1 (λF h9=>h9.1.1.1.2) rfl Jf I)<|QA (Qc I Xk)<|QMW 3 I ?_
 refine QO I (λhc2=>?_) λhc2=>?_
 ·have hole2:i.out.length<p.ul.length:=wi<|QLr hc2
  refine QMX 6 I<|QA (QH I XP Jf)<|QA (QW 1 (λF h9=>h9.1.1.1.2) rfl Jf I)<|QA (Qc I Xk)<|QMW 4 I<|Jt (ι:=NrI p.ul i.out) [(2,_),(7,_),(8,_),(23,_),(24,_)] (λi2=>[(6,i.v),(25,.int .i64 ((i2.j:Nat):Int))]) (λi2=>p.ul.length-i2.j) (⟨0,aj _,λi hi=>O⟩) wX wU λi2=>?_
  have hi2:=i2.le;refine wA 6 I ?_;refine QO I (λhc2=>?_) λhc2=>?_
  ·have hlt2:i2.j<p.ul.length:=wi<|QLr hc2
   have hum:=Q2 hlt2;have hu1:=hu _ hum;refine QMX 7 I<|QA (Qo (n:=p.un.n) (i2.j) (λF h9=>h9.1.1.1.1.1.un) rfl rfl Xk XJ O)<|QA (XE (n:=p.un.n) (vs:=[tx (el p.ul (i2.j)).kd,.slice (el p.ul (i2.j)).fd.q (el p.ul (i2.j)).fd.n (el p.ul (i2.j)).fd.cap,Qs ((el p.ul (i2.j)).ou),tx (el p.ul (i2.j)).st,.slice (el p.ul (i2.j)).cv.q (el p.ul (i2.j)).cv.n (el p.ul (i2.j)).cv.cap]) ((i2.j)*5) (λF h9=>h9.1.1.1.1.1.un) O rfl XJ I λj v hv=>JR (f:=MR) (l:=p.ul) ZI O hv)<|Qk TM λb10=>QJn I<|QV (vs:=[_,_,_,_,_]) I I I XJ I .here .h5 wX<|QJl<|QLF<|QA (Ql (n:=1) ((0)*1) (λF h9=>(JC.of (n:=1) (sz:=1) h9.1.2 I)) O rfl pD I)<|QJm I<|QA (Qm (i:=i2.j) rfl rfl Uw Zi O)<|QA (Xh (c:=(dD p.ul i.out).map ah) (T':=4) rfl Zi .u1 (by rw[ae];exact Jo (f:=ah) (l:=dD p.ul i.out) (by rw[Hw];omega))) ?_
   rw[xN O];refine QA (Xv I)<|QJm I ?_
   refine Qa (t:=35) rfl (λhb35=>?_) λhb35=>?_
   ·have hnd:decide (((i2.j:Nat):Int)∈i.out)=false:=by simpa using hb35
    refine wB 3 I<|QA (Qh (vs:=[_,_,_,_,_]) I XJ .here .h5 rfl)<|QK I I ?_
    refine kU (T:=4) (sz:=1) (n:=p.un.n) (v:=.slice (some ⟨b14,0,none⟩) p.un.n p.un.n) (cs:=(dD p.ul i.out).map ah) (c1:=[]) (c2:=[.pointer (some ⟨b2,0,none⟩),.pointer (some ⟨b3,0,none⟩),.pointer (some ⟨b7,0,none⟩)]) (Q6.some (rest:=[]) (by rw[aV,Hw];omega) (by rw[aV,Hw];show _+0=_;omega) (aq _) (by unfold maxLen;omega)) (λk hk=>by rw[ao]at hk;rw[List.mem_singleton.1 hk];exact .tail _ (.head _)) I I (λw F q c e hcap hR hF ⟨⟨⟨⟨⟨hP,hby⟩,hz2⟩,hz3⟩,hz7⟩,_⟩=>by
     cases e;exact QDb hF hz2 hz3 hz7 (hP.us _ hum) hby hR (by rw[Hw];omega) Ax hu1.1 hu1.2 (hkd _ hum) (hkN _ hum)) λ_ _=>?_
    rw[show((K6 (el p.ul i2.j)).all (dnF p.ul (dD p.ul i.out)))=((K6 (el p.ul i2.j)).all (okF p.ul i.out))from by congr 1;funext f;exact QJW];refine QMW 3 I ?_;refine QO I (λhc2=>?_) λhc2=>?_
    ·have hrd:Ic p.ul i.out i2.j=true:=by unfold Ic;rw[hnd];exact hc2
     have hnx:=i2.find hlt2 hrd;have hnext:=i.ok.next hlt2 hnx;refine QLF<|QA (Ql (n:=1) ((0)*1) (λF h9=>(JC.of (n:=1) (sz:=1) h9.1.2 I)) O rfl pD I)<|QJm I<|QA (Qm (i:=i2.j) rfl rfl Uw Zi O)<|QV (vs:=[_]) I I I Zi I .u1 (by have:=Wl (f:=ah) (l:=dD p.ul i.out) (rest:=[]) (i:=i2.j) (by rw[Hw];omega) true;rw[ao,ao]at this;exact this) wT ?_
     rw[QET O];refine QMW 6 I<|JG I (J2 Qd) QY HZ I I λb45=>?_
     refine Yi (bs1:=[_,_]) (ob:=i.ob) (n:=i.out.length) (k:=1) (sz:=1) (news:=[Qs (i2.j:Nat)]) I I Qd QY HZ I WR i.hr (Src.row (off:=0) w9 (λj q hq=>by rw[ae];rw[aG];exact hq) rfl) O O (by intro v hv;rw[List.mem_singleton.1 hv];rfl) (λv46 ob46 hr46=>?_);refine wR I<|Yh ?_
     repeat first|refine Jy ?_|refine Jp wu ?_
     refine Jz ?_;exact Qj (⟨i.out++[((i2.j:Nat):Int)],v46,ob46,hnext.1,by rw[bL,af];exact hr46⟩) (by show p.ul.length-(i.out++[((i2.j:Nat):Int)]).length<p.ul.length-i.out.length;rw[af];have h1:[((i2.j:Nat):Int)].length=1:=rfl;have:=hnext.2;omega) wW ((.cons _ QKK)) λF h=>⟨h.1.1,trivial⟩
    have hnr:Ic p.ul i.out i2.j=false:=by unfold Ic;rw[hnd];exact hc2
    refine QN<|Qg<|QD<|QB<|QA (Qn I I O)<|wB 2 I ?_
    exact Qj (⟨i2.j+1,hlt2,λk hk=>by rcases Nat.lt_succ_iff_lt_or_eq.1 hk with h | h;exact i2.no k h;subst h;exact hnr⟩) (by show p.ul.length-(i2.j+1)<p.ul.length-i2.j;omega) wZ ((.cons _ QKK)) w7
   have hnr:Ic p.ul i.out i2.j=false:=by unfold Ic;rw[show decide (((i2.j:Nat):Int)∈i.out)=true by simpa using hb35];rfl
   refine QMW 6 I<|Zg I<|QN<|Qg<|QD<|QB<|QA (Qn I I O)<|wB 2 I ?_
   exact Qj (⟨i2.j+1,hlt2,λk hk=>by rcases Nat.lt_succ_iff_lt_or_eq.1 hk with h | h;exact i2.no k h;subst h;exact hnr⟩) (by show p.ul.length-(i2.j+1)<p.ul.length-i2.j;omega) wZ ((.cons _ QKK)) w7
  have hge2:p.ul.length<=i2.j:=wi<|QLs hc2
  have hstop:=i.ok.stop (i2.none hge2);have hob:C4 p.ul=false:=by unfold C4;rw[hstop];exact decide_eq_false O
  refine JK ?_;refine wA 6 I<|ZS ?_
  refine QHu ?_;exact X4 (⟨none,0,0⟩) I (wP I I) (by rw[hob]) λF _ h=>by rw[hob]at h;cases h
 have hole2:p.ul.length<=i.out.length:=wi<|QLs hc2
 have hfull:=i.ok.full hole2;have hob:C4 p.ul=true:=by unfold C4;rw[hfull];exact decide_eq_true O
 refine JK ?_;refine QG<|QB ?_
 obtain⟨rr,hv,hrn,hrc,hfix⟩:=Q6.fix (w0:=w) (F0:=F) (bs1:=[_]) (G:=_) i.hr;refine H5 hfix ?_;rw[hv];refine QMW 6 I<|QHu ?_
 exact X4 (rr) rfl (wP I I) (by rw[hob]) λF ⟨⟨⟨⟨⟨⟨hP,hby⟩,hz2⟩,hz3⟩,hz7⟩,_⟩,hrow⟩ _=>by rw[hfull];exact⟨by rw[hrn];exact hrow,hrn,by rw[hrn];exact hrc⟩
def QBy(x:Fr):∀v∈Cv x,v.oneCell'=true:=by
 intro v hv;simp only[Cv,List.mem_cons,List.not_mem_nil,or_false]at hv;rcases hv with rfl | rfl | rfl | rfl<;>rfl
def C9(x:Fr)(r:Rat):∀n,JL (Cv x) n=MP (aD n (x,r))
 |0=>rfl
 |n+1=>by rw[JL,C9 x r n,List.replicate_succ];rfl
def cE{rest:List Value}(hi:i<xs.length)(x:Fr)(r:Rat):Yz (MP xs++rest) (0+i*4) (Cv x) (MP (xs.set i (x,r))++rest):=I5 (QA3 hi x r)
structure BgI(sh:Int)(us:List Xi) where
 i:Nat
 xs:List (Fr×Rat)
 le:i<=us.length
 hx:xs.map (·.2)=(RF sh (us.take i)).map J4
def BgI.len(s:BgI sh us):s.xs.length=sh.toNat:=by
 have:=congrArg fZ s.hx;simpa[PA]using this
structure BkS{ι:Type}(pos:ι->Nat)(n:Nat) where
 s:ι
 le:pos s<=n
theorem QEh{B:ι->List (Nat×Obj)}{H:ι->Gs->Prop}{pos:ι->Nat}{n b1 L:Nat}{l:List (List UInt8)} 
  (hH:∀s F,H s F->F b1=some (#[.slice q n c],29)/\JC F q n 1 (l.map tx)) (hn:l.length=n) (hb:n<=1000000)
  (hround:∀(G:Gs->Prop) (s:ι) (j:Nat) (W:World),j<n->pos s=j+1->St ⟨w0,F0,B s,λF=>G F/\H s F⟩ W->YieldAt aX 0 prog L #[.int .i64 (j:Nat),tx (el l j)] W λe W'=>e = .returned (.bool true)/\∃s',pos s'=j/\St ⟨w0,F0,B s',λF=>G F/\H s' F⟩ W')
  (s0:ι) (h0:pos s0=n) :
  YQ prog 264 [.func (.yield L) #[] #[],.pointer (some ⟨b1,0,none⟩)] ⟨w0,F0,B s0,H s0⟩ (λ(_:{ s:ι // pos s=0 })=>.tuple #[]) (λs=>⟨w0,F0,B s.1,H s.1⟩):=by
 refine YQ.intro func264 rfl wu rfl rfl<|QLF<|QA (Eu (c:=#[.slice q n c]) (T':=29) rfl Xg (λF hs0=>(hH _ _ hs0).1) rfl)<|QA (Qc rfl Z2)<|QA (Jg rfl rfl O)<|wR rfl<|QQ<|XC (ι:=BkS pos n) [(0,_),(1,_)] (λi=>[(3,.int .i64 (((pos i.s:Nat):Int)-1))]) (λi=>B i.s) (λi F=>H i.s F) (λi=>pos i.s) (⟨s0,Nat.le_of_eq h0⟩) wU ⟨(congrArg (λz:Int=>some (aa .i64 z)) (by dsimp only;rw[h0])),trivial⟩ QKK w7 λi=>?_
 have hi:=i.le;refine wA 7 I ?_;refine QO I (λhc2=>?_) λhc2=>?_
 ·have hpos:1<=pos i.s:=wi<|QLr hc2
  refine QMX 5 I<|qu 6 rfl ?_
  simp only[bj,aM,aB,bT];refine wB 2 I<|QA (Eu (c:=#[.slice q n c]) (T':=29) rfl Xg (λF h9=>(hH _ _ h9.1).1) rfl)<|QJm I<|QA (Qo (n:=n) (pos i.s-1) (λF h9=>(hH _ _ h9.1).2) rfl wN Z2 Ja O)<|QA (Ql (n:=n) ((pos i.s-1)*1) (λF h9=>(hH _ _ h9.1).2) O rfl Ja (Jo (f:=tx) (l:=l) O))<|QF<|xz ?_
  rw[show(((pos i.s:Nat):Int)-1)=((pos i.s-1:Nat):Int) by omega];refine qy (E':=λs':{ s:ι // pos s=pos i.s-1 }=>⟨w0,F0,B s'.1,λF=>H s0 F/\H s'.1 F⟩) I I (λW hW=>?_) λs17=>?_
  ·obtain⟨fn,tmps,assign,body,e1,e2⟩:=hround (λF=>H s0 F) i.s (pos i.s-1) W O O hW;exact⟨fn,tmps,assign,body,e1,e2.mono λe w' ⟨h2,s',h3,h4⟩=>⟨h2,⟨s',h3⟩,h4⟩⟩
  refine xv (λ⟨_,_,h⟩=>by obtain⟨_,h,_⟩:=h;cases h) rfl<|QA (Xv rfl)<|QF<|QD ?_
  refine QO I (λhc2=>?_) λhc2=>?_
  ·exact absurd hc2 wk
  refine QN<|Qg<|QMY 3 I<|QA (Jg I I O)<|wB 2 I ?_
  exact Qj (⟨s17.1,by rw[s17.2];omega⟩) (by show pos s17.1<pos i.s;rw[s17.2];omega) ⟨rfl,rfl,(congrArg (λz:Int=>some (aa .i64 z)) (by dsimp only;rw[s17.2])),trivial⟩ QKK w7
 have hz:pos i.s=0:=wi<|QLs hc2
 refine Yh ?_
 repeat first|refine Jy ?_|refine Jp wu ?_
 refine Jz<|dp ?_
 exact G5 (⟨i.s,hz⟩) I .nil (rfl) λw h=>h.imp QKK w9
theorem dM(hF:Fits F w):QS prog 174 [s.v] w F (λ(c:Nat)=>.func (.func 264) #[] #[.pointer (some ⟨c,0,none⟩)]) (λc F=>F c=some (#[s.v],29)):=by
 refine QS.go (G:=λF=>True) func174 hF trivial ?_;refine QLF<|Q9 I (vs:=[_]) I λb1=>QMW 5 I<|Nx (b:=b1) .here<|QA (Et I)<|wR I<|QU ?_
 exact QM (b1) rfl (wO I) (rfl) w9
structure VlS(n:Nat) where
 j:Nat
 x:Fr
 le:j<=n
theorem FT{n:Nat}{l:List (List UInt8)}{x0:Fr}{r:Rat}(hF:Fits F w)(hGl:Ka F)(hR:JC F q n 1 (l.map tx))(hX:XV F x0 r)(hn:l.length=n)(hl:n<=13)(hr:Zv r<=4801)(hc:∀a∈l,JO a=0)(hla:∀a∈l,a.length<=1000000):YA prog 103 [.slice q n c,x0.v] w F (FF l r):=by
 refine QS.gZ (G:=λF=>Ka F/\JC F q n 1 (l.map tx)/\XV F x0 r) func103 I wu rfl rfl hF (λF' hF'=>⟨hGl.le hF',hR.le hF',hX.le hF'⟩)<|QLF<|Q9 I (vs:=[_,_,_,_]) I λb3=>Qk VA λb4=>QJl<|QLF<|QL I (λ_ _ f k=>f_g (n:=0) f O O) λc8=>Qk VA λb5=>QV (vs:=[_,_,_,_]) I I I Jn I .here .h4 wW<|QMW 4 I<|JN (b:=b3) .u2<|wA 2 I<|QL I (λ_ _ f k=>dM (s:=⟨q,n,c⟩) f) λc10=>QJl<|QQ<|QCp (λG hG=>?_)
 have hfacts:∀F,G F->F c10=some (#[.slice q n c],29)/\JC F q n 1 (l.map tx):=λF h=>by
  obtain⟨⟨⟨⟨hGl,hR,hX⟩,h8⟩,hz3⟩,h10⟩:=hG F h;exact⟨h10,hR⟩
 have hfx:∀F,G F->F b3=some ((Cv x0).toArray,116)/\XV F x0 r/\Ka F:=λF h=>by
  obtain⟨⟨⟨⟨hGl,hR,hX⟩,h8⟩,hz3⟩,h10⟩:=hG F h;exact⟨hz3,hX,hGl⟩
 have hf8:∀F,G F->XV F c8 ((0:Int):Rat):=λF h=>by
  obtain⟨⟨⟨⟨hGl,hR,hX⟩,h8⟩,hz3⟩,h10⟩:=hG F h;exact h8
 refine IX (ι:=VlS n) (λs=>[(b5,.cells (Cv s.x).toArray 116 (0,0)),(b4,.cells [.int .i64 0,.slice none 0 0,.int .i64 0,.slice none 0 0].toArray 116 (0,0))]) (λs F=>XV F s.x (FF (l.drop s.j) r)) (λs=>s.j=0) rfl (enters_of func264 wu rfl) (λL D rr W hrec hst=>?_) λD s hs=>?_
 ·have hm:=QEh (ι:=VlS n) (w0:=w) (F0:=F) (B:=λs=>(L,.loop rr)::(D,.deferred (some []))::[(b5,.cells (Cv s.x).toArray 116 (0,0)),(b4,.cells [.int .i64 0,.slice none 0 0,.int .i64 0,.slice none 0 0].toArray 116 (0,0))]) (H:=λs F=>G F/\XV F s.x (FF (l.drop s.j) r)) (pos:=λs=>s.j) (q:=q) (n:=n) (c:=c) (b1:=c10) (L:=L) (l:=l) (λs F h=>hfacts F h.1) hn O (λG' s j W hj hp hst=>?_) ⟨n,c8,aq _⟩ rfl
  ·refine(hm.2 W (hst.TO λF h=>⟨h,by show XV F c8 (FF (l.drop n) r);rw[<-hn,fJ];have:=hf8 F h;simpa[FF]using this⟩)).mono ?_;rintro e w' ⟨c,rfl,h⟩;exact⟨⟨_,rfl⟩,c.1,c.2,h⟩
  letI:Df:=Y0;have hca:=hc _ (Q2 (show j<l.length by omega));have hla:=hla _ (Q2 (show j<l.length by omega));have hsz:=S6 (l:=l.drop (j+1)) hr (λa ha=>hc a (aR ha));rw[ar]at hsz;have hza:=YS hca;change s.j=j+1 at hp;refine TW hst .here (by rw[hrec.params];rfl) (IQ hrec _ _ wk wk) ?_;rw[hrec.assign,hrec.body,hp];refine ER (Wm L) (λ⟨_,_,h⟩=>h) rfl<|wB 2 I<|zA .here hrec.state<|Cr<|ER (Wm L) (λ⟨_,_,h⟩=>h) rfl<|QA (Qh (vs:=Cv s.x) rfl Jn .u2 (DE.all _) rfl)<|QA (Rx (c:=(Cv x0).toArray) (T':=116) (vs:=Cv x0) rfl Jn (λF h=>(hfx F h.2.1).1) rfl λj v hv=>by rw[ae];simpa using hv)<|QL I (λ_ F f h=>Fy f h.2.2 (hfx F h.2.1).2.1 O O) λc15=>QJm I<|QL I (λ_ F f h=>Pm (r:=J4 (el l j)) f (hfx F h.1.2.1).2.2 (ZR hca).1 O) λc17=>QL I (λ_ _ f h=>gv f h.1.2 h.2 (wi<|W3 (FF (l.drop (j+1)) r) r) O) λc18=>QV (vs:=Cv c18) rfl rfl rfl Jn I .u2 (I6 I) wW<|QF<|Qg ?_
  refine xw .here (λw1 hw1=>⟨rfl,⟨j,c18,O⟩,rfl,?_⟩);rw[Tl hrec]at hw1;refine St.imp hw1 QKK (λF h=>⟨h.1.1.1.1,h.1.1.1.2.1,?_⟩);show XV F c18 (FF (l.drop j) r);rw[Gj (show j<l.length by omega)];exact h.2
 letI:Df:=Vi D;refine Qg<|QD<|QLF<|QA (wJ I Jn .u1)<|QV (vs:=[_,_,_,_]) I I I Jn I .u2 .h4 wW<|QJl<|QU<|xx .here ?_
 letI:Df:=Y0;exact QM (s.x) rfl (.J5 (c:=[_,_,_,_]) I Jn .u2 .nil) (rfl) λF h=>by have h2:=h.2;rw[hs]at h2;exact h2
theorem QEg{p:YB}(hF:Fits F w)(hGl:Ka F)(hP:GR F p)(hb:p.un.n<=1000000)(hs:1<=p.sh/\p.sh<=1000000)(hou:∀u∈p.ul,0<=u.ou/\u.ou<p.sh)(hst:∀u∈p.ul,JO u.st=0/\u.st.length<=1000000):QS prog 101 [p.v] w F (λ(c:Sr×List (Fr×Rat))=>c.1.v) (λc F=>JC F c.1.q c.1.n 4 (MP c.2)/\kZ F c.2/\c.2.map (·.2)=(RF p.sh p.ul).map J4/\c.1.n=p.sh.toNat/\c.1.n<=c.1.cap):=by
 have Ax:=hP.Mf;refine QS.go (G:=λF=>Ka F/\GR F p) func101 hF ⟨hGl,hP⟩ ?_;refine QLF<|Q9 I (vs:=[_,_,_]) I λb1=>wR I<|QG<|JN (b:=b1) .here<|JE QKK mixed wj<|QZ I (λ_ _ f k=>f_g (n:=0) f O O) λc6=>?_
 refine XU I (J2 RZ) Jn VA I I (λb7=>?_) (λw h=>h.imp .slnil w8);refine QJ (QH I K9 QY)<|QJ (QW 0 w9 rfl QY I)<|Ny (bs1:=[]) (congrArg (λz:Int=>some [fU (some ⟨b7,0,none⟩) 1 1,aa .i64 z]) (show p.sh=((p.sh.toNat:Nat):Int) by omega)) (aW _) (QF6 (x:=Cv c6) (N:=p.sh.toNat) O (λF h9=>JC.of h9.2 I) rfl (QBy c6)) (λc w h=>h.imp tB λF h=>h.1.1) λc10=>?_
 obtain⟨v10,ob10,hr10⟩:=c10;obtain⟨b10,cap10,rest10,e1,e2,e3,e4,e5,e6⟩:=hr10.pos O;dsimp only;rw[e1,e2,C9 c6 0];rw[e3]at e4;refine QJ (QE I)<|Qy<|QMY 4 I<|QA (QH I XP Jf)<|QA (QW 1 (λF h9=>h9.1.1.2) rfl Jf I)<|QA (Qc I Xk)<|QMW 4 I<|XC (ι:=BgI p.sh p.ul) [(3,_),(12,_),(13,_)] (λi=>[(14,.int .i64 ((i.i:Nat):Int))]) (λi=>[(b10,.cells (MP i.xs++rest10).toArray 116 (0,0))]) (λi F=>kZ F i.xs) (λi=>p.ul.length-i.i) (⟨0,aD p.sh.toNat (c6,0),aj _,by simp only[fw,RF,aM,List.foldl_nil];rw[show J4 [48]=0 from by decide +kernel]⟩) wV wT QKK (λF h=>λx hx=>by rw[(List.mem_replicate.1 hx).2];have:=h.1.2;simpa using this) λi=>?_
 have hi:=i.le;have hxl:=i.len;refine wA 6 I ?_;refine QO I (λhc2=>?_) λhc2=>?_
 ·have hlt:i.i<p.ul.length:=wi<|QLr hc2
  have ho:=hou _ (Q2 hlt);have ho2:=hst _ (Q2 hlt);refine QMX 6 I<|QA (Qo (n:=p.un.n) i.i (λF h9=>h9.1.1.1.1.2.un) rfl rfl Xk XJ O)<|QA (XE (n:=p.un.n) (vs:=[tx (el p.ul i.i).kd,.slice (el p.ul i.i).fd.q (el p.ul i.i).fd.n (el p.ul i.i).fd.cap,Qs ((el p.ul i.i).ou),tx (el p.ul i.i).st,.slice (el p.ul i.i).cv.q (el p.ul i.i).cv.n (el p.ul i.i).cv.cap]) ((i.i)*5) (λF h9=>h9.1.1.1.1.2.un) O rfl XJ I λj v hv=>JR (f:=MR) (l:=p.ul) ZI O hv)<|Qk TM λb5=>QV (vs:=[_,_,_,_,_]) I I I XJ I .here .h5 wX<|QJl<|JE (.cons_cons _ (.cons _ .slnil)) mixed wj<|QJ (QC I)<|QJ (QH I Yf QY)<|QJ (Qp I QY .here (.skip (.skip .h1)))<|QJ (QH I BN Ja)<|QJ (Qp I Ja .here (.skip (.skip (.skip .h1))))<|QZ I (λ_ _ f k=>Pm (r:=J4 (el p.ul i.i).st) f k.1.1.1.1.1 (ZR ho2.1).1 O) λc23=>QJ (Qm (i:=(el p.ul i.i).ou.toNat) rfl wN RZ Jn O)<|Jx (vs:=Cv c23) rfl rfl rfl Jn I .u1 QKK w8 (cE (xs:=i.xs) (i:=(el p.ul i.i).ou.toNat) (by rw[i.len];omega) c23 (J4 (el p.ul i.i).st)) wW<|Qy<|Qg<|QD<|QB<|QA (Qn I I O)<|wB 2 I ?_
  exact Qj (⟨i.i+1,i.xs.set (el p.ul i.i).ou.toNat (c23,J4 (el p.ul i.i).st),hlt,by rw[zh hlt,fR,fR,i.hx]⟩) (by show p.ul.length-(i.i+1)<p.ul.length-i.i;omega) wW ((.cons _ QKK)) λF ⟨⟨⟨⟨⟨⟨hGl,hP⟩,hz1⟩,h6⟩,hs7⟩,hS⟩,h23⟩=>⟨⟨⟨⟨⟨hGl,hP⟩,hz1⟩,h6⟩,hs7⟩,hS.set h23 _⟩
 have hge:p.ul.length<=i.i:=wi<|QLs hc2
 refine JK ?_;refine QG ?_;obtain⟨⟨rq,rn,rc⟩,hv9,hrn,hrc,hfix9⟩:=Q6.fix (w0:=w) (F0:=F) (bs1:=[]) (G:=_) (Q6.some (T:=116) (sz:=4) (b:=b10) (n:=p.sh.toNat) (cap:=cap10) (l:=MP i.xs) (rest:=rest10) (by rw[AX,hxl]) (by rw[AX,hxl];omega) e5 e6);dsimp only at hrn hrc hfix9;subst hrn;refine Da hfix9 ?_;rw[hv9];dsimp only[Sr.v];refine QMX 6 I ?_;exact QM ((⟨rq,p.sh.toNat,rc⟩,i.xs)) I (wO I) (rfl) λF h9=>⟨h9.2,h9.1.2,by rw[i.hx,ai hge],rfl,hrc⟩
def QJB{kd:List UInt8}:kB kd=true↔gW kd:=by unfold kB gW;simp[or_assoc]
def QAB(u:Xi):Bool:=if u.kd=K7 then decide (1<=(u.cl.length:Int))&&decide ((u.cl.length:Int)<=13)else decide ((u.cl.length:Int)=0)
def De(h:gW u.kd):Ki u=(decide ((u.fl.length:Int)<kL u.kd)||decide ((u.fl.length:Int)>kX u.kd)||!QAB u):=by
 obtain⟨e1,e2,e3⟩:=SQ;unfold Ki UE Ou kL kX QAB;rw[bO];generalize u.cl.length=n;generalize u.fl.length=m;rcases h with h | h | h<;>simp[h,e1,e2,e3,e1.symm,e2.symm,e3.symm]<;>omega
def Ie(sh:Int)(u:Xi):Int:=if u.ou<1\/u.ou>=sh then 10 else JO u.st
def jB{k:Int}:Md sh k=true↔k<0\/k>=sh:=by unfold Md;simp
theorem QEL(sh:Int)(f:Lf):JB [if(!(!Md sh f.k))=true then 10 else 0,JO f.r,if(f.r==[48])=true then 6 else 0]=Vp sh f:=by
 unfold Vp;rw[eu];by_cases h:f.k<0\/f.k>=sh
 ·rw[if_pos h,if_pos (jB.2 h)];rfl
 rw[if_neg h,if_neg (λg=>h (jB.1 g))];show JB [0,JO f.r,_]=_;rw[JB,if_pos rfl,JB];by_cases h2:JO f.r=0
 ·rw[if_pos h2,if_neg (Classical.not_not.2 h2)];by_cases h3:f.r=[48]
  ·rw[if_pos h3,if_pos (by rw[h3];rfl)];rfl
  rw[if_neg h3,if_neg (by simpa using h3)];rfl
 rw[if_neg h2,if_pos h2]
def QIf{bb:Bool}(hb:bb=true)(h:u.ou<1):JB [if bb=true then 10 else 0,JO u.st]=Ie sh u:=by
 unfold Ie;rw[if_pos hb,if_pos (Or.inl h)];rfl
theorem QIe{bb:Bool}(hb:bb=(!(!Md sh u.ou)))(h:u.ou≠0):JB [if bb=true then 10 else 0,JO u.st]=Ie sh u:=by
 rw[eu]at hb;unfold Ie;by_cases g:u.ou<1\/u.ou>=sh
 ·rw[if_pos g,if_pos (by rw[hb];exact jB.2 O)];rfl
 rw[if_neg g,if_neg (by rw[hb];exact λe=>g (wi<|jB.1 e))];show JB [0,JO u.st]=_;rw[JB,if_pos rfl,JB];split
 ·rename_i h;rw[h];rfl
 rfl
section
variable{sh:Int}{u:Xi}(h:gW u.kd)(hs:Ki u=false)(fe9:JB (u.fl.map (Vp sh))=0)
include h hs fe9
theorem Bj(ho:Ie sh u≠0):VU sh u=Ie sh u:=by
 unfold Ie at ho ⊢;by_cases g:u.ou<1\/u.ou>=sh
 ·rw[if_pos g];exact W2 h hs fe9 g
 rw[if_neg g]at ho ⊢;rw[WU h hs fe9 g,if_pos ho]
theorem VX(ho:Ie sh u=0):VU sh u=JB (u.cl.map JO):=by
 unfold Ie at ho;by_cases g:u.ou<1\/u.ou>=sh
 ·rw[if_pos g]at ho;cases ho
 rw[if_neg g]at ho;rw[WU h hs fe9 g,if_neg (Classical.not_not.2 ho)]
end
theorem S9{b b':Bool}{e:Int}(hF:Fits F w)(hb:b=b'):Qi prog 94 [.bool b,.int .i64 e] w F (.int .i64 (if b'=true then e else 0)):=by
 subst hb;exact Bt hF
def QBr(kd:List UInt8):(kF kd).oneCell'=true:=by unfold kF;split<;>(try split)<;>(try split)<;>rfl
def QBq(kd:List UInt8):(kH kd).oneCell'=true:=by unfold kH;split<;>(try split)<;>(try split)<;>rfl
theorem C2{p:YB}(hF:Fits F w)(hGl:Ka F)(hU:RJ F u)(hL:UnL u):Qi prog 95 [p.v,.agg (MR u).toArray] w F (.int .i64 (VU p.sh u)):=by
 have hfl:=hU.E9;have hcl:=hU.Np;have hfn:=hL.fn;have hcn:=hL.cn;refine QS.go (G:=λF=>Ka F/\RJ F u) func95 hF ⟨hGl,hU⟩ ?_;refine QLF<|Q9 I (vs:=[_,_,_]) I λb2=>Q9 I (vs:=[_,_,_,_,_]) I λb3=>wR I<|JN (b:=b2) .u1<|JN (b:=b3) .here ?_
 refine EK (ι:=Nat) [(2,_),(3,_)] (λb5=>[(5,.pointer (some ⟨b5,0,none⟩)),(6,.bool (kB u.kd))]) (λb5=>[(b5,.cells [.int .i64 (kL u.kd),.int .i64 (kX u.kd),kF u.kd,kH u.kd].toArray 230 (0,0))]) (λb5 F=>True) wU ?_ ?_
 ·refine uZ (r:=[0,1,2,3,4,5,6,7,8,9]) QKK mixed wj rfl<|P7 1 wj rfl rfl<|QJ (QH I KM Y5)<|P6<|P7 2 wj rfl rfl<|QJ (QW 0 w9 rfl Y5 I)<|P6 ?_
  refine QJk 0 7 wj wj rfl rfl rfl rfl rfl rfl ?_ ?_
  ·refine Ny I (aW _) jv (λc w h=>h.imp (.cons _ QKK) λ_ h=>h) (λc16=>?_);refine QCq (E1:=⟨w,F,[(c16,Wd tx kdM)],_⟩) (λw h=>h.imp (.cons _ QKK) λ_ h=>h) w7<|P7 3 wj rfl rfl<|QJ (yO UG I I NQ qz .here (gV u.kd))<|P6<|P7 4 wj rfl rfl<|QJ (QC I)<|P6<|P7 5 wj rfl rfl<|QJ (Qe I I)<|P6<|P7 6 wj rfl rfl<|QJ (Qe I I)<|P6<|qw 7 wj wj rfl rfl rfl<|Gh zO λb5=>kT<|qw 8 wj wj rfl rfl rfl<|Jx (vs:=[.int .i64 (kL u.kd),.int .i64 (kX u.kd),kF u.kd,kH u.kd]) I I I QAd I .here QKK w7 (I6 I) ⟨rfl,rfl,QBr _,QBq _,trivial⟩<|kT<|P7 9 wj rfl rfl<|QJ (QE I)<|P6<|xu ?_
   exact ZP b5 wW (.cons_cons _ (.cons _ .slnil)) λF h=>⟨h,trivial⟩
  refine Gh zO (λb5=>?_);refine kT<|qw 0 wj wj rfl rfl rfl<|Ny I (aW _) jv (λc w h=>h.imp (.cons _ (.cons _ .slnil)) λ_ h=>h) λc16=>QCq (E1:=⟨w,F,[(c16,Wd tx kdM)],_⟩) (λw h=>h.imp (.cons _ .slnil) λ_ h=>h) (λw h=>h.imp (.cons_cons _ (.cons _ .slnil)) λ_ h=>h)<|P7 3 wj rfl rfl<|QJ (yO UG I I NQ qz .here (gV u.kd))<|P6<|P7 4 wj rfl rfl<|QJ (QC I)<|P6<|P7 5 wj rfl rfl<|QJ (Qe I I)<|P6<|P7 6 wj rfl rfl<|QJ (Qe I I)<|P6<|qw 8 wj wj rfl rfl rfl<|Jx (vs:=[.int .i64 (kL u.kd),.int .i64 (kX u.kd),kF u.kd,kH u.kd]) I I I QAd I .u1 QKK w7 (I6 I) ⟨rfl,rfl,QBr _,QBq _,trivial⟩<|kT<|P7 9 wj rfl rfl<|QJ (QE I)<|P6<|xu ?_
  exact ZP b5 wW (.cons _ QKK) λF h=>⟨h,trivial⟩
 intro b5;refine wA 4 I<|QA (Xv I)<|QF<|QD ?_
 refine QO I (λhc2=>?_) λhc2=>?_
 ·have hkn:¬gW u.kd:=λh=>by rw[QJB.2 h]at hc2;cases hc2
  refine wA 6 I ?_;exact QMn I I (congrArg (aa .i64) (by
   first
   |exact Y3 hkn
   |exact Y2 hk3 (by rw[De hk3,hfl];simp_all)
   |exact X5 hk3 hs (i.hit hlt h82) h82
   |exact Bj hk3 hs hfz h102
   |exact(VX hk3 hs hfz h102).trans (i2.hit hlt2 h114)
   |exact(VX hk3 hs hfz h102).trans (i2.stop hge2))) wz
 have hk3:gW u.kd:=QJB.1 (by simpa using hc2);refine QMX 4 I<|QA (QH I Wp Xg)<|QA (QW 4 (λF h9=>h9.1.2) rfl Xg I)<|QA (Qc I Z2)<|QMW 4 I ?_
 refine Xq [(2,_),(3,_),(5,_)] [(7,.bool (QAB u))] wV ?_ ?_
 ·refine QLF<|QA (QH I KM Y5)<|QA (QW 0 (λF h9=>h9.1.2) rfl Y5 I)<|QA (Xc I I)<|QF<|QD ?_
  refine QO I (λhc2=>?_) λhc2=>?_
  ·have hkt:u.kd=K7:=by simpa[K7]using hc2
   refine QB<|QA (QH I Wp Xg)<|QA (QW 4 (λF h9=>h9.1.2) rfl Xg I)<|QA (Qc I Z2)<|wB 2 I ?_
   refine Qa (t:=35) rfl (λhb35=>?_) λhb35=>?_
   ·refine QK I I<|QA (QH I Wp Xg)<|QK I I<|QA (QW 4 (λF h9=>h9.1.2) rfl Xg I)<|QK I I<|QA (Qc I Z2)<|wB 5 I ?_
    exact Jc ⟨rfl,rfl,rfl,(congrArg (λb:Bool=>some (ah b)) (by unfold QAB;rw[if_pos hkt,hcl,show decide (1<=(u.cv.n:Int))=true from by simpa using hb35];rfl)),trivial⟩ QKK w7
   refine wB 7 I ?_;exact Jc ⟨rfl,rfl,rfl,(congrArg (λb:Bool=>some (ah b)) (by unfold QAB;rw[if_pos hkt,hcl,show decide (1<=(u.cv.n:Int))=false from by simpa using hb35];rfl)),trivial⟩ QKK w7
  have hkt:u.kd≠K7:=by simpa[K7]using hc2
  refine QN ?_;exact Jc ⟨rfl,rfl,rfl,(congrArg (λb:Bool=>some (ah b)) (by unfold QAB;rw[if_neg hkt,hcl];rfl)),trivial⟩ QKK w7
 refine K4 (ι:=PLift (Ki u=false)) [(2,_),(3,_)] (λks=>[]) (λks=>[(b5,.cells [.int .i64 (kL u.kd),.int .i64 (kX u.kd),kF u.kd,kH u.kd].toArray 230 (0,0))]) (λks F=>True) (by exact wU) ?_ ?_
 ·refine QLF<|QA (QH I Zz Xd)<|QA (QW 1 (λF h9=>h9.1.2) rfl Xd I)<|QA (Qc I YV)<|QA (QH I QEO QY)<|QA (Qp I QY .here .h1)<|wB 2 I ?_
  refine Qa (t:=47) rfl (λhb47=>?_) λhb47=>?_
  ·refine QMW 13 I<|Jv I<|wA 6 I ?_
   exact QMn I I (congrArg (aa .i64) (by
    first
    |exact Y3 hkn
    |exact Y2 hk3 (by rw[De hk3,hfl];simp_all)
    |exact X5 hk3 hs (i.hit hlt h82) h82
    |exact Bj hk3 hs hfz h102
    |exact(VX hk3 hs hfz h102).trans (i2.hit hlt2 h114)
    |exact(VX hk3 hs hfz h102).trans (i2.stop hge2))) wz
  refine QK I I<|QA (QH I Zz Xd)<|QK I I<|QA (QW 1 (λF h9=>h9.1.2) rfl Xd I)<|QK I I<|QA (Qc I YV)<|QK I I<|QA (QH I QEN QY)<|QK I I<|QA (Qp I QY .here (.skip .h1))<|wB 4 I ?_
  refine Qa (t:=55) rfl (λhb55=>?_) λhb55=>?_
  ·refine QMW 5 I<|Jv I<|wA 6 I ?_
   exact QMn I I (congrArg (aa .i64) (by
    first
    |exact Y3 hkn
    |exact Y2 hk3 (by rw[De hk3,hfl];simp_all)
    |exact X5 hk3 hs (i.hit hlt h82) h82
    |exact Bj hk3 hs hfz h102
    |exact(VX hk3 hs hfz h102).trans (i2.hit hlt2 h114)
    |exact(VX hk3 hs hfz h102).trans (i2.stop hge2))) wz
  refine wB 3 I<|QA (Xv I)<|QMW 3 I ?_
  refine QO I (λhc2=>?_) λhc2=>?_
  ·refine wA 6 I ?_;exact QMn I I (congrArg (aa .i64) (by
    first
    |exact Y3 hkn
    |exact Y2 hk3 (by rw[De hk3,hfl];simp_all)
    |exact X5 hk3 hs (i.hit hlt h82) h82
    |exact Bj hk3 hs hfz h102
    |exact(VX hk3 hs hfz h102).trans (i2.hit hlt2 h114)
    |exact(VX hk3 hs hfz h102).trans (i2.stop hge2))) wz
  refine QN ?_;exact Kb (⟨by rw[De hk3,hfl];simp_all⟩) wU QKK λF h9=>⟨⟨⟨⟨⟨h9.1.1.1.1,h9.1.1.1.2⟩,h9.1.1.2⟩,h9.1.2⟩,trivial⟩,trivial⟩
 intro ks;have hs:=ks.down;refine QG<|QLF<|QA (QH I Zz Xd)<|QA (QW 1 (λF h9=>h9.1.1.2) rfl Xd I)<|QA (Qc I YV)<|QMW 4 I<|Jt (ι:=Ya u.fl (Vp p.sh)) [(2,_),(3,_),(60,_),(61,_)] (λi=>[(62,.int .i64 ((i.i:Nat):Int))]) (λi=>u.fl.length-i.i) (Ya.start _ _) wW wT λi=>?_
 have hi:=i.le;refine wA 6 I ?_;refine QO I (λhc2=>?_) λhc2=>?_
 ·have hlt:i.i<u.fl.length:=wi<|QLr hc2
  refine QMX 6 I<|QA (Qo (n:=u.fd.n) i.i (λF h9=>(h9.1.1.1.1.2).fd) rfl rfl YV Kf O)<|QA (XE (n:=u.fd.n) (vs:=[.int .i64 ((el u.fl i.i).k),tx (el u.fl i.i).r]) ((i.i)*2) (λF h9=>(h9.1.1.1.1.2).fd) O rfl Kf I λj v hv=>JR (f:=Uj) (l:=u.fl) YT O hv)<|Qk QDL λb9=>QV (vs:=[_,_]) I I I Kf I .here .h2 wU<|QJl<|QG<|JE QKK mixed wj<|QJ (Jj (λF h9=>h9.1.1.1.2) rfl ZL I)<|QJ (QH I GQ QY)<|QJ (Qp I QY .here .h1)<|QZ I (λ_ _ f k=>FU (p:=p) f) λ_=>QJ (Xv I)<|QZ I (λ_ _ f k=>Bt f) λ_=>QJ (QH I BM Ja)<|QJ (Qp I Ja .here (.skip .h1))<|QZ I (λ_ _ f k=>TG f k.1.1.1.1.1.1.1 (hL.fr _ (Q2 hlt))) λ_=>QJ (QH I BM Ja)<|QJ (Qp I Ja .here (.skip .h1))<|QJ (Xc I I)<|QZ I (λ_ _ f k=>Bt f) λ_=>?_
  refine XU I (J2 GL) DY Ia I I (λb79=>?_) (λw h=>h.imp tA λF h=>h.1.1.1.1);refine QZ I (λ_ _ f h=>EN (l:=[if(!(!Md p.sh (el u.fl i.i).k))=true then 10 else 0,JO (el u.fl i.i).r,if((el u.fl i.i).r==[48])=true then 6 else 0]) f (JC.of h.2 I) wk) (λ_=>?_);rw[QEL];refine QJ (QE I)<|Qy<|QMY 7 I ?_
  refine QO I (λhc2=>?_) λhc2=>?_
  ·have h82:Vp p.sh (el u.fl i.i)≠0:=by simpa using hc2
   refine wA 6 I<|ZS ?_
   exact QMn I I (congrArg (aa .i64) (by
    first
    |exact Y3 hkn
    |exact Y2 hk3 (by rw[De hk3,hfl];simp_all)
    |exact X5 hk3 hs (i.hit hlt h82) h82
    |exact Bj hk3 hs hfz h102
    |exact(VX hk3 hs hfz h102).trans (i2.hit hlt2 h114)
    |exact(VX hk3 hs hfz h102).trans (i2.stop hge2))) wz
  have h82:Vp p.sh (el u.fl i.i)=0:=by simpa using hc2
  refine QN<|Qg<|QD<|QB<|QA (Qn I I O)<|wB 2 I ?_
  exact Qj (i.next hlt h82) (by show u.fl.length-(i.i+1)<u.fl.length-i.i;omega) wX ((.cons _ QKK)) λF h=>h.1.1.1.1.1.1
 have hge:u.fl.length<=i.i:=wi<|QLs hc2
 have hfz:=i.stop hge;refine JK ?_;refine QG ?_;refine Xq [(3,_)] [(11,.int .i64 (Ie p.sh u))] wT ?_ ?_
 ·refine JE QKK mixed wj<|QJ (QH I Yf QY)<|QJ (QW 2 (λF h9=>h9.1.1.2) rfl QY I)<|QJ (QP I I I)<|QJ (QC I) ?_
  refine KH (t:=88) rfl (λhb88=>?_) λhb88=>?_
  ·obtain⟨bb,hbb⟩:∃bb:Bool,bb=true:=⟨_,rfl⟩;refine Q7 I I I<|Q7 I I I<|Q7 I I I<|Q7 I I I<|Q7 I I I<|QJ (QR I I I)<|QZ I (λ_ _ f k=>S9 (b':=bb) f hbb.symm) λ_=>QJ (QH I BN Ja)<|QJ (QW 3 (λF h9=>h9.1.1.2) rfl Ja I)<|QZ I (λ_ _ f k=>TG f k.1.1.1.1.1.1 hL.st) λ_=>?_
   refine XU I (J2 GL) DY Ia I I (λb99=>?_) (λw h=>h.imp tA λF h=>h.1.1);refine QZ I (λ_ _ f k=>EN (l:=[if bb=true then 10 else 0,JO u.st]) f (JC.of k.2 I) wk) (λ_=>QJ (QE I)<|Qy ?_);exact Jc ⟨rfl,(congrArg (λz:Int=>some (aa .i64 z)) (by exact QIf hbb (by have:=hb88;simp at this;omega))),trivial⟩ QKK λ_ h=>h.1.1.1.1
  obtain⟨bb,hbb⟩:∃bb:Bool,bb=(!(!Md p.sh u.ou)):=⟨_,rfl⟩;refine JA I I<|QJ (Jj (λF h9=>h9.1.1.1.2) rfl ZL I)<|JA I I<|QJ (QH I Yf QY)<|JA I I<|QJ (QW 2 (λF h9=>h9.1.1.2) rfl QY I)<|JA I I<|QZ I (λ_ _ f k=>FU (p:=p) f) λ_=>JA I I<|QJ (Xv I)<|QJ (QT I I I)<|QZ I (λ_ _ f k=>S9 (b':=bb) f hbb.symm) λ_=>QJ (QH I BN Ja)<|QJ (QW 3 (λF h9=>h9.1.1.2) rfl Ja I)<|QZ I (λ_ _ f k=>TG f k.1.1.1.1.1.1.1 hL.st) λ_=>?_
  refine XU I (J2 GL) DY Ia I I (λb99=>?_) (λw h=>h.imp tA λF h=>h.1.1.1);refine QZ I (λ_ _ f k=>EN (l:=[if bb=true then 10 else 0,JO u.st]) f (JC.of k.2 I) wk) (λ_=>QJ (QE I)<|Qy ?_);exact Jc ⟨rfl,(congrArg (λz:Int=>some (aa .i64 z)) (by exact QIe hbb (by simpa using hb88))),trivial⟩ QKK λ_ h=>h.1.1.1.1.1
 refine wA 6 I ?_;refine QO I (λhc2=>?_) λhc2=>?_
 ·have h102:Ie p.sh u≠0:=by simpa using hc2
  refine wA 7 I ?_;exact QMn I I (congrArg (aa .i64) (by
   first
   |exact Y3 hkn
   |exact Y2 hk3 (by rw[De hk3,hfl];simp_all)
   |exact X5 hk3 hs (i.hit hlt h82) h82
   |exact Bj hk3 hs hfz h102
   |exact(VX hk3 hs hfz h102).trans (i2.hit hlt2 h114)
   |exact(VX hk3 hs hfz h102).trans (i2.stop hge2))) wz
 have h102:Ie p.sh u=0:=by simpa using hc2
 refine QMX 5 I<|QA (QH I Wp Xg)<|QA (QW 4 (λF h9=>h9.1.1.2) rfl Xg I)<|QA (Qc I Z2)<|QMW 4 I<|Jt (ι:=Ya u.cl JO) [(105,_),(106,_)] (λi2=>[(107,.int .i64 ((i2.i:Nat):Int))]) (λi2=>u.cl.length-i2.i) (Ya.start _ _) wU wT λi2=>?_
 have hi2:=i2.le;refine wA 6 I ?_;refine QO I (λhc2=>?_) λhc2=>?_
 ·have hlt2:i2.i<u.cl.length:=wi<|QLr hc2
  refine QMX 6 I<|QA (Qo (n:=u.cv.n) (i2.i) (λF h9=>(h9.1.1.1.1.2).cv) rfl rfl Z2 Ja O)<|QA (Ql (n:=u.cv.n) ((i2.i)*1) (λF h9=>(h9.1.1.1.1.2).cv) O rfl Ja (Jo (f:=tx) (l:=u.cl) O))<|QMW 6 I<|QL I (λ_ _ f k=>TG f k.1.1.1.1.1 (hL.ca _ (Q2 hlt2))) λ_=>QMW 9 I ?_
  refine QO I (λhc2=>?_) λhc2=>?_
  ·have h114:JO (el u.cl i2.i)≠0:=by simpa using hc2
   refine wA 6 I<|ZS ?_
   exact QMn I I (congrArg (aa .i64) (by
    first
    |exact Y3 hkn
    |exact Y2 hk3 (by rw[De hk3,hfl];simp_all)
    |exact X5 hk3 hs (i.hit hlt h82) h82
    |exact Bj hk3 hs hfz h102
    |exact(VX hk3 hs hfz h102).trans (i2.hit hlt2 h114)
    |exact(VX hk3 hs hfz h102).trans (i2.stop hge2))) wz
  have h114:JO (el u.cl i2.i)=0:=by simpa using hc2
  refine QN<|Qg<|QD<|QB<|QA (Qn I I O)<|wB 2 I ?_
  exact Qj (i2.next hlt2 h114) (by show u.cl.length-(i2.i+1)<u.cl.length-i2.i;omega) wV QKK w8
 have hge2:u.cl.length<=i2.i:=wi<|QLs hc2
 refine JK ?_;refine wA 6 I ?_;exact QMn I I (congrArg (aa .i64) (by
  first
  |exact Y3 hkn
  |exact Y2 hk3 (by rw[De hk3,hfl];simp_all)
  |exact X5 hk3 hs (i.hit hlt h82) h82
  |exact Bj hk3 hs hfz h102
  |exact(VX hk3 hs hfz h102).trans (i2.hit hlt2 h114)
  |exact(VX hk3 hs hfz h102).trans (i2.stop hge2))) wz
theorem qD{x a b:Int}(hF:Fits F w):Qi prog 39 [.int .i64 x,.int .i64 a,.int .i64 b] w F (.bool (decide (x>=a)&&decide (x<=b))):=by
 refine QS.go (G:=λF=>True) func39 hF trivial ?_;refine wA 11 I ?_
 refine Qa (t:=10) rfl (λhb10=>?_) λhb10=>?_
 ·refine QMW 11 I ?_;exact QMn I I (congrArg ah (by rw[hb10];rfl)) wz
 refine QMW 8 I ?_;exact QMn I I (congrArg ah (by rw[hb10];rfl)) wz
theorem Vx{b:Bool}{e:Int}(hF:Fits F w):Qi prog 38 [.bool b,.int .i64 e] w F (.int .i64 (if b=true then e else 0)):=by
 refine QS.go (G:=λF=>True) func38 hF trivial ?_;refine wA 11 I ?_
 refine QO I (λhc=>?_) λhc=>?_
 ·refine wA 7 I ?_;exact QMn I I (congrArg (aa .i64) (by rw[if_pos hc])) wz
 refine QMX 8 I ?_;exact QMn I I (congrArg (aa .i64) (by rw[if_neg (by rw[hc];decide)])) wz
theorem W6{n:Nat}{l:List Int}(hF:Fits F w)(hR:JC F q n 1 (l.map Qs))(hn:n<=1000000000):Qi prog 37 [.slice q n c] w F (.int .i64 (JB l)):=by
 have hln:l.length=n:=by have:=hR.1;simpa using this
 have hmap:JB l=JB (l.map id):=by rw[fY]
 refine QS.go (G:=λF=>JC F q n 1 (l.map Qs)) func37 hF hR ?_;refine wA 9 I<|QA (Qc I GL)<|QMW 4 I<|Jt (ι:=Ya l id) [(5,_),(6,_)] (λi=>[(7,.int .i64 ((i.i:Nat):Int))]) (λi=>l.length-i.i) (Ya.start _ _) wU wT λi=>?_
 have hi:=i.le;refine wA 6 I ?_;refine QO I (λhc=>?_) λhc=>?_
 ·have hlt:i.i<l.length:=wi<|QLr hc
  refine QMX 6 I<|QA (Qo (n:=n) i.i w7 rfl rfl GL DY O)<|QA (Ql (n:=n) ((i.i)*1) w7 O rfl DY (Jo (f:=Qs) (l:=l) O))<|QMW 9 I ?_
  refine QO I (λhc=>?_) λhc=>?_
  ·have h12:id (el l i.i)≠0:=bne_iff_ne.1 hc;refine wA 6 I<|ZS ?_
   exact QMn I I (congrArg (aa .i64) (hmap ▸ i.hit hlt h12)) wz
  have h12:id (el l i.i)=0:=bne_eq_false_iff_eq.1 hc;refine QN<|Qg<|QD<|QB<|QA (Qn I I O)<|wB 2 I ?_
  exact Qj (i.next hlt h12) (by show l.length-(i.i+1)<l.length-i.i;omega) wV QKK w7
 have hge:l.length<=i.i:=wi<|QLs hc
 refine JK ?_;refine wA 6 I ?_;exact QMn I I (congrArg (aa .i64) (hmap ▸ i.stop hge)) wz
theorem QHA{n f:Nat}{l:List Int}{p:Int->Bool}{c1 c2:List Value}{G0:Gs->Prop}(hF:Fits F w)(hg:∀F F',Gs.le F F'->G0 F->G0 F')(h0:G0 F)(hR:JC F q n 1 (l.map Qs))(hn:l.length=n)(hb:n<=1000000)(hc:∀e∈l,∀w F,Fits F w->G0 F->Qi prog f (c1++[.int .i64 e]++c2) w F (.bool (p e))):QS prog 130 [.slice q n c,.func (.func f) c1.toArray c2.toArray] w F (λ(k:Int)=>.int .i64 k) (λk _=>decide (k>=0)=l.any p):=by
 refine QS.intro (G:=λF=>G0 F/\JC F q n 1 (l.map Qs)) func130 rfl wu rfl rfl hF (λF' hF'=>⟨hg F F' hF' h0,hR.le hF'⟩)<|QLF<|wR rfl<|QG<|wS rfl<|QA (Qc rfl Qd)<|QJm rfl<|QJl<|QQ<|Jt (ι:=WT l p) [(0,_),(1,_),(7,_)] (λi=>[(8,.int .i64 ((i.i:Nat):Int))]) (λi=>l.length-i.i) (WT.start _ _) wV wT λi=>?_
 have hi:=i.le;refine wA 6 I ?_;refine QO I (λhc2=>?_) λhc2=>?_
 ·have hlt:i.i<l.length:=wi<|QLr hc2
  have hem:=Q2 hlt;refine QMX 15 I<|QA (Qo (n:=n) i.i w9 rfl rfl Qd QY O)<|QA (Ql (n:=n) ((i.i)*1) w9 O rfl QY (Jo (f:=Qs) (l:=l) O))<|Ao (c1:=c1) (c2:=c2) rfl rfl (λw F f k=>hc _ hem w F f k.1) λ_=>QF<|QD ?_
  refine QO I (λhc2=>?_) λhc2=>?_
  ·have hc16:=hc2;refine wA 6 I<|ZS ?_
   exact QM (((i.i:Nat):Int)) I (wO I) (rfl) λF _=>by rw[decide_eq_true O,List.any_eq_true.2 ⟨_,hem,hc16⟩]
  have hc16:=hc2;refine QN<|Qg<|QD<|QB<|QA (Qn I I O)<|wB 2 I ?_
  exact Qj (i.next hlt hc16) (by show l.length-(i.i+1)<l.length-i.i;omega) wW QKK w8
 have hge:l.length<=i.i:=wi<|QLs hc2
 refine JK ?_;refine wA 6 I ?_;exact QM ((-1:Int)) I (wO I) (rfl) λF _=>by rw[Bool.eq_false_iff.2 (i.stop hge)];rfl
theorem uQ{n f:Nat}{l:List Int}{p:Int->Bool}{c1 c2:List Value}{G0:Gs->Prop}(hF:Fits F w)(hg:∀F F',Gs.le F F'->G0 F->G0 F')(h0:G0 F)(hR:JC F q n 1 (l.map Qs))(hn:l.length=n)(hb:n<=1000000)(hc:∀e∈l,∀w F,Fits F w->G0 F->Qi prog f (c1++[.int .i64 e]++c2) w F (.bool (p e))):Qi prog 57 [.slice q n c,.func (.func f) c1.toArray c2.toArray] w F (.bool (l.any p)):=by
 refine QS.intro (G:=λF=>G0 F/\JC F q n 1 (l.map Qs)) func57 rfl wu rfl rfl hF (λF' hF'=>⟨hg F F' hF' h0,hR.le hF'⟩)<|QLF<|wR rfl<|wS rfl<|QJm rfl<|QL rfl (λ_ _ f k=>QHA (p:=p) f hg k.1 k.2 hn hb hc) λc7=>XA _ (λ_ _ f h=>h.2) λh7=>QA (QP rfl rfl rfl)<|wR rfl<|QU ?_
 exact QMn I I (congrArg ah h7.symm) wz
end Go.Proofs.YtphlgddkpboamaaGreatDoor
