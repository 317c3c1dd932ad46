/- Steps of the proof of the theorem in the last file. -/
import Derived.Test.YtjcphjpkimmmjaaGreatDoorP2
import Derived.Lib.AppendZeros
import Derived.Scope
import Derived.Control
set_option linter.all false
set_option maxHeartbeats 4000000
open Go.Proofs.Tryz
open List renaming cons_append → aa,nil_append → ab,length_map → ae,perm_append_comm → af,getElem?_toArray → ag,mem_map_of_mem → aj,map_append → ak,length_range → au,take_succ_cons → aA,drop_succ_cons → aB,append_assoc → aC,range → aE,length_append → aF,take_zero → aG,flatMap_append → aI,drop_zero → aJ,append_nil → aK,getElem_map → aL,range_succ → aM,perm_append_comm_assoc → aN,foldl_append → aO,take_length → aP,map_cons → aR,take_of_length_le → aS,map → aT,mem_cons_of_mem → aW,map_map → aY,length_set → aZ,getElem?_eq_none → bc,length → bh,length_take → bA,length_cons → bB,getElem?_append_left → bC,mem_cons → bF,map_set → bG,map_nil → bH,take_append_drop → bK,singleton_append → bL,getElem_of_mem → bN,ext_getElem → bO,map_id → bT
open Go.Value renaming int → ah,bool → av,tuple → bS
open Int renaming toNat_natCast → ai
open Nat renaming zero_le → ao,zero_add → ay,le_refl → aD,mul_le_mul → aU,le_trans → aV,not_lt_zero → ba,lt_or_ge → bp,mul_one → bX
open Bool renaming eq_iff_iff → aq,or_eq_true → aX
open And renaming intro → ar
open Rat renaming divInt → ax,le_refl → bj,le_trans → bI,le_of_lt → bJ,mul_one → bM,mul_assoc → bR,div_def → bW
open Go.Builtin renaming zeroCells → aH
open List.Sublist renaming refl → aQ,cons → bY
open Go.Fence renaming wide → bm
open List.Perm renaming refl → bw
open Option renaming map_some → bz
open Option.some renaming injEq → bD
open Go.Region renaming wanted → bP
open Go.Obj renaming cells → bQ
open Go.Exit renaming noGoto → bU
open Array renaming ext' → bV
namespace Go.Proofs.YtjcphjpkimmmjaaGreatDoor
variable{F F' F0:Gs}{l:List (List UInt8×List UInt8)}{bb c i k n:Nat}{f:Nat->Rat×Rat}{va vb x:List (Rat×Rat)}{α ι:Type}{bs:List (Nat×Obj)}{b:Int}{T:TypeId}{w w0:World}{ra rb:Sr}{c1 c2 rest:List Value}{G G0:Gs->Prop}{a:Rat×Rat}{fr t2:Rat}{d0:Df}{s:List UInt8}{tt:List (List (Rat×Rat))}{xs:List (Fr×Rat)}
open Go.RowKit Ig
abbrev Yx:Type:=Sp×Rat×Rat
variable{la lb:List Yx}
instance :Inhabited Sp:=⟨⟨⟨⟨0,none,0,0⟩,⟨0,none,0,0⟩⟩,⟨⟨0,none,0,0⟩,⟨0,none,0,0⟩⟩⟩⟩
def Xl(l:List Yx):List Value:=l.flatMap λe=>Xs e.1
structure J7(F:Gs)(r:Sr)(l:List Yx)(vs:List (Rat×Rat)):Prop where
 row:Qy F r.q r.n 8 (Xl l)
 sp:∀e∈l,Jl F e.1 e.2
 val:l.map (·.2)=vs
 len:l.length=r.n
 cap:r.n<=r.cap
theorem J7.le{r:Sr}{l:List Yx}{vs:List (Rat×Rat)}(h:J7 F r l vs)(k:Gs.le F F'):J7 F' r l vs:=⟨h.row.le k,λe he=>(h.sp e he).le k,h.val,h.len,h.cap⟩
theorem J7.YI{r:Sr}{l:List Yx}{vs:List (Rat×Rat)}(h:J7 F r l vs):vs.length=r.n:=by rw[<-h.val,ae,h.len]
theorem J7.el{r:Sr}{l:List Yx}{vs:List (Rat×Rat)}(h:J7 F r l vs){i:Nat}(hi:i<r.n):(el l i).2=YtjcphjpkimmmjaaGreatDoor.el vs i:=by
 have h2:=h.len;rw[<-h.val,Jb (show i<l.length by omega),Jb (by rw[ae];omega),aL]
theorem J7.at{r:Sr}{l:List Yx}{vs:List (Rat×Rat)}(h:J7 F r l vs){i:Nat}(hi:i<r.n):Jl F (YtjcphjpkimmmjaaGreatDoor.el l i).1 (YtjcphjpkimmmjaaGreatDoor.el vs i):=by
 rw[<-h.el hi];exact h.sp _ (Qw (by rw[h.len];exact hi))
abbrev Wi(P:Program)(f:FuncId)(args:List Value)(w:World)(F:Gs)(vs:List (Rat×Rat)):Prop:=QU P f args w F (λ(c:Sr×List Yx)=>c.1.v) λc F=>J7 F c.1 c.2 vs
theorem GQ(l:List Yx):(Xl l).length=l.length*8:=Dq (f:=λe:Yx=>Xs e.1) (λ_=>rfl) l
theorem KY(x:Sp):∀v∈Xs x,v.oneCell'=true:=yS x.lo x.hi
theorem MD(l:List Yx)(e:Yx):Xl (l++[e])=Xl l++Xs e.1:=by unfold Xl;rw[aI];simp
structure Wn(n:Nat)(f:Nat->Rat×Rat) where
 i:Nat
 v:Value
 ob:List (Nat×Obj)
 l:List Yx
 le:i<=n
 hr:Q8 168 8 v i (Xl l) ob
 hl:l.map (·.2)=(aE i).map f
def Wn.start(n:Nat)(f:Nat->Rat×Rat):Wn n f:=⟨0,.slice none 0 0,[],[],ao _,.nil,rfl⟩
def Wn.next{n:Nat}{f:Nat->Rat×Rat}(s:Wn n f)(h:s.i<n){v:Value}{ob:List (Nat×Obj)}(c:Sp)(x:Rat×Rat)(hr:Q8 168 8 v (s.i+1) (Xl s.l++Xs c) ob)(hx:x=f s.i):Wn n f :=
 ⟨s.i+1,v,ob,s.l++[(c,x)],h,by rw[MD];exact hr,by rw[ak,aM,ak,s.hl,hx];rfl⟩
theorem Wn.len(s:Wn n f):s.l.length=s.i:=by
 have:=congrArg bh s.hl;simpa using this
def YA(F:Gs)(l:List Yx):Prop:=∀e∈l,Jl F e.1 e.2
theorem YA.nil(F:Gs):YA F []:=λ_ h=>by cases h
theorem YA.snoc{l:List Yx}{c:Sp}{x:Rat×Rat}(h:YA F l)(k:Jl F c x):YA F (l++[(c,x)]):=λe he=>by
 rcases List.mem_append.1 he with he | he
 ·exact h e he
 rw[List.mem_singleton.1 he];exact k
theorem Wn.box(s:Wn n f)(h:s.i=n){F:Gs}{r:Sr}(hr:Qy F r.q r.n 8 (Xl s.l))(a:r.n=s.i)(hc:s.i<=r.cap)(b:YA F s.l):J7 F r s.l ((aE n).map f) :=
 ⟨hr,b,by rw[s.hl,h],by rw[s.len,a],by rw[a];exact hc⟩
theorem EO{β:Type}[Inhabited α]{f:α->β}{l:List α}{n:Nat}(h:l.length=n):(aE n).map (λi=>f (el l i))=l.map f:=by
 apply bO
 ·simp[h]
 intro i h1 h2;have:i<l.length:=by simpa using h2
 simp[Jb this]
theorem O3{b:Nat}{o:Obj}(h:(b,o)∈bs):∃f,Own bs b o f:=by
 induction bs with
 |nil=>cases h
 |cons x l ih =>
  rcases List.mem_cons.1 h with rfl | h
  ·exact⟨_,.here⟩
  obtain⟨f,a⟩:=ih h;exact⟨_,.there a⟩
section
variable[Dr][df:Df]{P:Program}{Q:Exit->Act->World->Prop}{N:Nat}{m:Sl}{E E0:Env}{ops:Array Oper}{l:List Oper}{w0:World}{F0:Gs}{bs:List (Nat×Obj)}{G:Gs->Prop}{d:Nat}{ty:TypeId}{pos:String}{aft:Array Edge}
theorem kZ{x:Operand}{v:Value}(hx:ev m x=some v)(hr:∀w,(Instr.makeInterface T v).run P w = .ok (.iface T v) w)(k:JD P ops Q E0 l N ((d,.iface T v)::m) E)(hd:J5 N (some d)=true:=by rfl):
  JD P ops Q E0 (⟨some d,.makeInterface T x,ty,pos,aft,none⟩::l) N m E:=λc a w ha b=>by
 refine .inr ⟨rfl,?_⟩;rw[if_pos (by simp[bP])];refine upon_value (w':=w) (v:=.iface T v) ?_ ⟨c w b,k c _ w (ha.put hd _) b⟩;simp[execOp,ha.ev hx,hr]
theorem ka{γ:Type}{val:γ->Value}{g:γ->Gs->Prop}{f:FuncId}{x:Operand}{b:String}{args:Array Operand}{i:Array TypeId}{v:Value}{vs:List Value}(hx:ev m x=some (.iface T v))(z:E3 m args.toList=some vs)
  (hi:∀w,(invoke (.fn (.method b) #[]) (#[.iface T v]++vs.toArray)).run P w = .ok (.enter f (v::vs).toArray) w) (hc:∀w F,Fits F w->G F->QU P f (v::vs) w F val g)
  (k:∀c,JD P ops Q E0 l N ((d,val c)::m) ⟨w0,F0,bs,λF=>G F/\g c F⟩) (hd:J5 N (some d)=true:=by rfl):JD P ops Q E0 (⟨some d,.call ⟨.invoke x b,args,i⟩,ty,pos,aft,none⟩::l) N m ⟨w0,F0,bs,G⟩:=by
 intro u a w ha y;obtain⟨F,o⟩:=y;have n:=hc w F o.fits o.hG;refine .inr ⟨rfl,?_⟩;rw[if_pos (by simp[bP])];unfold Oper.wp;have A:args.map a.eval=vs.toArray:=by rw[<-ha.E3 z];apply bV;simp
 have j:(execOp a.eval ⟨some d,.call ⟨.invoke x b,args,i⟩,ty,pos,aft,none⟩).run P w = .ok (.enter f (v::vs).toArray) w:=by
  simp only[execOp,resolve,ha.ev hx,Sem.run_bind,Sem.run_pure,Result.andThen_ok,A];exact hi w
 rw[j];simp only[Oper.upon];refine n.2.mono ?_;rintro e w' ⟨c,F',rfl,h1,h2,h3,h4,h5⟩;have s:St ⟨w0,F0,bs,λF=>G F/\g c F⟩ w':=⟨F',o.call h1 h2 h3 h4 h5⟩;exact⟨u w' (s.B5 λ_ h=>h.1),k c (λw h=>u w (h.B5 λ_ h=>h.1)) _ w' (ha.put hd (val c)) s⟩
end
theorem BK{q:Option Addr}{a:List (List UInt8×List UInt8)}(R:Fits F w)(E:JE F)(Q:Qy F q n 2 (a.flatMap NU))(U:a.length=n)(hb:n<=1000000)(hc:∀s∈a,Xd s.1 s.2=0/\s.1.length<=1000000/\s.2.length<=1000000):
  Wi prog 114 [.slice q n c] w F (a.map JB):=by
 refine QU.intro (G:=λF=>JE F/\Qy F q n 2 (a.flatMap NU)) func114 rfl tH rfl rfl R (λF' y=>⟨E.le y,Q.le y⟩)<|wa<|wZ rfl<|wa<|wZ rfl<|QG<|wb rfl<|QA (Qg rfl XF)<|wW rfl<|wY<|QV<|JU (ι:=Wn (n) λi=>JB (el a i)) [(6,_),(7,_)] (λi=>[(3,i.v),(8,.int .i64 ((i.i:Nat):Int))]) (λi=>i.ob) (λi F=>YA F i.l) (λi=>(n)-i.i) (Wn.start _ _) wm wm we (λ_ _=>YA.nil _) λi=>?_
 simp only[aa,ab];have hi:=i.le;refine wA 6 I ?_;refine QQ I (λg=>?_) λg=>?_
 ·have B:i.i<n:=tD<|wi g
  have D:=Qw (show i.i<a.length by omega);have u:=hc _ D;have x:=Ku u.1;refine wC 6 I<|QA (Q3 (n:=n) i.i (λF h9=>h9.1.2) rfl rfl XF Jd O)<|QA (JZ (n:=n) (vs:=[tx (el a i.i).1,tx (el a i.i).2]) ((i.i)*2) (λF h9=>h9.1.2) O rfl Jd I λj v P=>JN (f:=NU) (l:=a) K1 O P)<|Qc Xa λV=>QW (vs:=[_,_]) I I I Jd I .here .h2 wm<|wD 4 I<|QA (wN I Jd .here)<|QI I (λ_ _ f k=>CP (lo:=(el a i.i).1) (hi:=(el a i.i).2) f k.1.1 x.1 x.2.1 u.2) λz=>Qb I (Q5 JO) Qk Jk I I λS=>?_
  refine Z4 (bs1:=[_]) (ob:=i.ob) (n:=i.i) (k:=1) (sz:=8) (news:=(Xs z)) I I JO Qk Jk I Wh i.hr (Src.row (off:=0) tO (λj q hq=>by rw[ay];rw[ag];exact hq) rfl) O O (KY _) (λM L o=>?_);refine wB 2 I<|Qj<|QC<|QB<|QA (Qu I I O)<|wB 2 I ?_
  exact Ql (i.next B z (JB (el a i.i)) o rfl) (by show n-(i.i+1)<n-i.i;omega) wv (.cons _ we) λF h9=>⟨h9.1.1.1,h9.1.1.2.snoc h9.1.2⟩
 have C:i.i=n:=tD<|wj g
 refine Qx ?_
 repeat first|refine QY ?_|refine QO tH ?_
 refine QZ<|wE 3 I ?_
 have N:=i.len;obtain⟨⟨H,T,K⟩,A,h,m,b⟩:=Q8.fix (w0:=w) (F0:=F) (bs1:=[]) (G:=_) i.hr;dsimp only at h m b;subst h;refine Zj b ?_;rw[A];dsimp only[Sr.v];refine wD 5 I ?_;exact QP ((⟨H,i.i,K⟩,i.l)) I (wT I) (rfl) λF h9=>by have:=i.box C (r:=⟨H,i.i,K⟩) h9.2 I m h9.1.2;rw[EO O (f:=JB)]at this;exact this
structure TxJ(vs:List (Rat×Rat)) where
 i:Nat
 v:Value
 ob:List (Nat×Obj)
 le:i<=vs.length
 hr:Q8 40 2 v i ((vs.take i).flatMap λa=>[tx (JP a.1),tx (JP a.2)]) ob
 no:∀a∈vs.take i,(Jh a.1||Jh a.2)=false
theorem dU{vs:List (Rat×Rat)}(h:i<vs.length)(k:(Jh (el vs i).1||Jh (el vs i).2)=true):Jx vs=true:=by
 unfold Jx;rw[List.any_eq_true];exact⟨_,Qw h,k⟩
theorem dT{vs:List (Rat×Rat)}(h:∀a∈vs,(Jh a.1||Jh a.2)=false):Jx vs=false:=by
 unfold Jx;cases e:vs.any λs=>Jh s.1||Jh s.2 with
 |false=>rfl
 |true =>
  obtain⟨a,ha,k⟩:=List.any_eq_true.1 e;rw[h a ha]at k;cases k
def QAd(a:Rat×Rat):List Value:=[tx (JP a.1),tx (JP a.2)]
theorem BJ{r:Sr}{l:List Yx}{vs:List (Rat×Rat)}(Z:Fits F w)(L:JE F)(y:J7 F r l vs)(hb:r.n<=1000000)(hz:∀a∈vs,Xf a 100000000):
  QU prog 115 [r.v] w F (λ(c:Sr)=>.tuple #[c.v,.int .i64 (if Jx vs=true then 4 else 0)]) (λc F=>Qy F c.q c.n 2 ((if Jx vs=true then[]else vs).flatMap QAd)/\c.n=(if Jx vs=true then[]else vs).length/\c.n<=c.cap):=by
 obtain⟨q,n,c⟩:=r;have g:=y.YI;have X:=y.len;have S:=y.cap;have Y:=λi hi=>y.el (i:=i) hi;dsimp only[Sr.v]at *
 refine QU.intro (G:=λF=>JE F/\J7 F ⟨q,n,c⟩ l vs) func115 rfl tH rfl rfl Z (λF' M=>⟨L.le M,y.le M⟩)<|wa<|wX rfl<|wZ rfl<|wa<|wZ rfl<|QG<|wb rfl<|QA (Qg rfl JO)<|wW rfl<|wY<|QV<|JU (ι:=TxJ vs) [(7,_),(8,_)] (λi=>[(4,i.v),(9,.int .i64 ((i.i:Nat):Int))]) (λi=>i.ob) (λi F=>True) (λi=>n-i.i) (⟨0,_,[],ao _,.nil,λ_ h=>by cases h⟩) wm wm we tL λi=>?_
 simp only[aa,ab];have hi:=i.le;refine wA 6 I ?_;refine QQ I (λb=>?_) λb=>?_
 ·have H:i.i<n:=tD<|wi b
  have Q:=Qw (show i.i<vs.length by omega);have A:=hz _ Q;refine wC 6 I<|QA (Q3 (n:=n) i.i (λF h9=>h9.1.2.row) rfl rfl JO Qk O)<|QA (JZ (n:=n) (vs:=[.int .i64 (el l i.i).1.lo.n.s,.slice (el l i.i).1.lo.n.q (el l i.i).1.lo.n.n (el l i.i).1.lo.n.cap,.int .i64 (el l i.i).1.lo.d.s,.slice (el l i.i).1.lo.d.q (el l i.i).1.lo.d.n (el l i.i).1.lo.d.cap,.int .i64 (el l i.i).1.hi.n.s,.slice (el l i.i).1.hi.n.q (el l i.i).1.hi.n.n (el l i.i).1.hi.n.cap,.int .i64 (el l i.i).1.hi.d.s,.slice (el l i.i).1.hi.d.q (el l i.i).1.hi.d.n (el l i.i).1.hi.d.cap]) ((i.i)*8) (λF h9=>h9.1.2.row) O rfl Qk I λj v V=>JN (f:=(λe=>Xs e.1)) (l:=l) (λ_=>rfl) O V)<|Qc Jk λb6=>QW (vs:=[_,_,_,_,_,_,_,_]) I I I Qk I .here .h8 w8<|wD 5 I<|QA (wQ I Qk .here)<|QI I (λ_ _ f k=>Fp (x:=(el l i.i).1) (a:=el vs i.i) f k.1.1 (k.1.2.at H) A) λ_=>QE<|QC ?_
  refine QQ I (λb=>?_) λb=>?_
  ·have R:=dU (show i.i<vs.length by omega) b;refine wA 7 I ?_
   repeat first|refine Q6 ?_|refine Qv ?_
   exact Je (⟨none,0,0⟩) I (wU I I) (by rw[if_pos R]) λF _=>by rw[if_pos R];exact⟨Qy.nil F _ _,rfl,aD _⟩
  have K:=b;refine wC 4 I<|QA (wQ I Qk .here)<|QI I (λ_ _ f k=>pZ (x:=(el l i.i).1) (a:=el vs i.i) f k.1.1.1 (k.1.1.2.at H) A) λ_=>Qb I (Q5 XF) Jd Xa I I λb18=>?_
  refine Z4 (bs1:=[_]) (ob:=i.ob) (n:=i.i) (k:=1) (sz:=2) (news:=[tx (JP (el vs i.i).1),tx (JP (el vs i.i).2)]) I I XF Jd Xa I QAH i.hr (Src.row (off:=0) tO (λj q hq=>by rw[ay];rw[ag];exact hq) rfl) O O (Kd wm) (λN z D=>?_);refine wB 2 I<|Qj<|QC<|QB<|QA (Qu I I O)<|wB 2 I ?_
  exact Ql (⟨i.i+1,N,z,O,by rw[XE O,aI];simpa using D,λa ha=>by
  rw[XE O]at ha;rcases List.mem_append.1 ha with ha | ha
  ·exact i.no a ha
  rw[List.mem_singleton.1 ha];exact K⟩) (by show n-(i.i+1)<n-i.i;omega) wv (.cons _ we) λF h=>⟨h.1.1.1.1,trivial⟩
 have m:i.i=n:=tD<|wj b
 refine Qx ?_
 repeat first|refine QY ?_|refine QO tH ?_
 refine QZ<|wE 3 I ?_
 have E:Jx vs=false:=dT λa ha=>i.no a (by rw[m,<-g,aP];exact ha);obtain⟨⟨T,rn,U⟩,P,B,C,u⟩:=Q8.fix (w0:=w) (F0:=F) (bs1:=[]) (G:=_) i.hr;dsimp only at B C u;subst B;refine Zj u ?_;rw[P];dsimp only[Sr.v];refine wD 6 I ?_;exact Je (⟨T,i.i,U⟩) I (wU I I) (by rw[if_neg (by rw[E];decide)]) λF ⟨⟨⟨L,y⟩,_⟩,o⟩=>by rw[if_neg (by rw[E];decide)];rw[m,<-g,aP]at o;exact⟨by dsimp only;rw[m,<-g];exact o,m.trans g.symm,C⟩
theorem FD{f:Rat×Rat->Rat×Rat}{v:List (Rat×Rat)}:DJ (λa _=>f a) v v=v.map f:=by
 unfold DJ;exact EO I
theorem TR(V:Fits F w)(ha:J7 F ra la va)(hb:J7 F rb lb vb)(Y:ra.n<=rb.n)(U:ra.n<=1000000)(z:∀x∈va,Xf x 100000000)(u:∀x∈vb,Xf x 100000000):
  Qf prog 155 [ra.v,rb.v] w F (.bool (Ir va vb)):=by
 obtain⟨S,h,X⟩:=ra;have L:=ha.YI;have N:=ha.len;have H:=ha.cap;have Q:=λi hi=>ha.el (i:=i) hi;obtain⟨R,nb,cb⟩:=rb;have K:=hb.YI;have M:=hb.len;have E:=hb.cap;have P:=λi hi=>hb.el (i:=i) hi;dsimp only[Sr.v]at *
 refine QU.intro (G:=λF=>J7 F ⟨S,h,X⟩ la va/\J7 F ⟨R,nb,cb⟩ lb vb) func155 rfl tH rfl rfl V (λF' o=>⟨ha.le o,hb.le o⟩)<|wa<|wZ rfl<|QG<|wb rfl<|QA (Qg rfl JO)<|wW rfl<|wY<|QV<|J9 (ι:=Wo (aE va.length) λi=>Lt (el va i) (el vb i)) [(0,_),(1,_),(7,_)] (λi=>[(8,.int .i64 ((i.i:Nat):Int))]) (λi=>h-i.i) (Wo.start _ _) wu wk λi=>?_
 simp only[aa,ab];have hi:=i.le;rw[au]at hi;refine wA 6 I ?_;refine QQ I (λc=>?_) λc=>?_
 ·have D:i.i<h:=tD<|wi c
  have C:=Qw (show i.i<va.length by omega);have B:=Qw (show i.i<vb.length by omega);have m:el (aE va.length) i.i=i.i:=by rw[Jb (by rw[au];omega)];simp
  refine wC 11 I<|JG we mixed tE<|QK (QD I)<|QK (QD I)<|QK (Q3 (n:=h) i.i (λF h9=>h9.1.row) rfl rfl JO Qk O)<|QK (JZ (n:=h) (vs:=[.int .i64 (el la i.i).1.lo.n.s,.slice (el la i.i).1.lo.n.q (el la i.i).1.lo.n.n (el la i.i).1.lo.n.cap,.int .i64 (el la i.i).1.lo.d.s,.slice (el la i.i).1.lo.d.q (el la i.i).1.lo.d.n (el la i.i).1.lo.d.cap,.int .i64 (el la i.i).1.hi.n.s,.slice (el la i.i).1.hi.n.q (el la i.i).1.hi.n.n (el la i.i).1.hi.n.cap,.int .i64 (el la i.i).1.hi.d.s,.slice (el la i.i).1.hi.d.q (el la i.i).1.hi.d.n (el la i.i).1.hi.d.cap]) ((i.i)*8) (λF h9=>h9.1.row) O rfl Qk I λj v A=>JN (f:=(λe=>Xs e.1)) (l:=la) (λ_=>rfl) O A)<|QK (QD I)<|QK (QD I)<|QK (Q3 (n:=nb) i.i (λF h9=>h9.2.row) rfl rfl JO Qk O)<|QK (JZ (n:=nb) (vs:=[.int .i64 (el lb i.i).1.lo.n.s,.slice (el lb i.i).1.lo.n.q (el lb i.i).1.lo.n.n (el lb i.i).1.lo.n.cap,.int .i64 (el lb i.i).1.lo.d.s,.slice (el lb i.i).1.lo.d.q (el lb i.i).1.lo.d.n (el lb i.i).1.lo.d.cap,.int .i64 (el lb i.i).1.hi.n.s,.slice (el lb i.i).1.hi.n.q (el lb i.i).1.hi.n.n (el lb i.i).1.hi.n.cap,.int .i64 (el lb i.i).1.hi.d.s,.slice (el lb i.i).1.hi.d.q (el lb i.i).1.hi.d.n (el lb i.i).1.hi.d.cap]) ((i.i)*8) (λF h9=>h9.2.row) O rfl Qk I λj v A=>JN (f:=(λe=>Xs e.1)) (l:=lb) (λ_=>rfl) O A)<|QR I (λ_ _ f k=>qS (x:=(el la i.i).1) (y:=(el lb i.i).1) (a:=el va i.i) (b:=el vb i.i) f (k.1.at D) (k.2.at (show i.i<nb by omega)) (z _ C) (u _ B)) λ_=>QK (XL I)<|Q7<|QC ?_
  refine QQ I (λc=>?_) λc=>?_
  ·have g:=c;refine wA 6 I ?_
   repeat first|refine Q6 ?_|refine Qv ?_
   exact wg I I (congrArg av (by unfold Ir;rw[i.hit (by rw[au];omega) (by rw[m];simpa using g)])) tL
  have g:=c;refine QN<|Qj<|QC<|QB<|QA (Qu I I O)<|wB 2 I ?_
  exact Ql (i.next (by rw[au];omega) (by rw[m];simpa using g)) (by show h-(i.i+1)<h-i.i;omega) wv we tN
 have T:i.i=h:=tD<|wj c
 refine Qx ?_
 repeat first|refine QY ?_|refine QO tH ?_
 refine QZ<|wE 7 I ?_
 exact wg I I (congrArg av (by unfold Ir;rw[i.stop (by rw[au];omega)])) tL
theorem EN{f:Nat}{g:Rat×Rat->Rat×Rat->Rat×Rat}(hF:Fits F w)(hg:∀F F',Gs.le F F'->G0 F->G0 F')(h0:G0 F)(ha:J7 F ra la va)(hb:J7 F rb lb vb)(hn:ra.n<=rb.n)(hbn:ra.n<=1000000)
  (hc:∀i,i<ra.n->∀(x y:Sp) w F,Fits F w->G0 F->Jl F x (el va i)->Jl F y (el vb i)->Xp prog f (c1++[x.v,y.v]++c2) w F (g (el va i) (el vb i))) :
  Wi prog 169 [ra.v,rb.v,.func (.func f) c1.toArray c2.toArray] w F (DJ g va vb):=by
 obtain⟨Y,a,ca⟩:=ra;have u:=ha.YI;have S:=ha.len;have L:=ha.cap;have U:=λi hi=>ha.el (i:=i) hi;obtain⟨X,nb,cb⟩:=rb;have Q:=hb.YI;have R:=hb.len;have K:=hb.cap;have T:=λi hi=>hb.el (i:=i) hi;dsimp only[Sr.v]at *
 refine QU.intro (G:=λF=>G0 F/\J7 F ⟨Y,a,ca⟩ la va/\J7 F ⟨X,nb,cb⟩ lb vb) func169 rfl tH rfl rfl hF (λF' o=>⟨hg F F' o h0,ha.le o,hb.le o⟩)<|wa<|wZ rfl<|wa<|wZ rfl<|QG<|wb rfl<|QA (Qg rfl JO)<|wW rfl<|wY<|QV<|JU (ι:=Wn (a) λi=>g (el va i) (el vb i)) [(0,_),(1,_),(2,_),(10,_)] (λi=>[(7,i.v),(11,.int .i64 ((i.i:Nat):Int))]) (λi=>i.ob) (λi F=>YA F i.l) (λi=>(a)-i.i) (Wn.start _ _) wv wm we (λ_ _=>YA.nil _) λi=>?_
 simp only[aa,ab];have hi:=i.le;refine wA 6 I ?_;refine QQ I (λm=>?_) λm=>?_
 ·have c:i.i<a:=tD<|wi m
  refine wC 10 I<|JG tQ mixed tE<|QK (QD I)<|QK (QD I)<|QK (QD I)<|QK (QD I)<|QK (Q3 (n:=a) i.i (λF h9=>h9.1.2.1.row) rfl rfl JO Qk O)<|QK (JZ (n:=a) (vs:=[.int .i64 (el la i.i).1.lo.n.s,.slice (el la i.i).1.lo.n.q (el la i.i).1.lo.n.n (el la i.i).1.lo.n.cap,.int .i64 (el la i.i).1.lo.d.s,.slice (el la i.i).1.lo.d.q (el la i.i).1.lo.d.n (el la i.i).1.lo.d.cap,.int .i64 (el la i.i).1.hi.n.s,.slice (el la i.i).1.hi.n.q (el la i.i).1.hi.n.n (el la i.i).1.hi.n.cap,.int .i64 (el la i.i).1.hi.d.s,.slice (el la i.i).1.hi.d.q (el la i.i).1.hi.d.n (el la i.i).1.hi.d.cap]) ((i.i)*8) (λF h9=>h9.1.2.1.row) O rfl Qk I λj v E=>JN (f:=(λe=>Xs e.1)) (l:=la) (λ_=>rfl) O E)<|QK (QD I)<|QK (QD I)<|QK (Q3 (n:=nb) i.i (λF h9=>h9.1.2.2.row) rfl rfl JO Qk O)<|QK (JZ (n:=nb) (vs:=[.int .i64 (el lb i.i).1.lo.n.s,.slice (el lb i.i).1.lo.n.q (el lb i.i).1.lo.n.n (el lb i.i).1.lo.n.cap,.int .i64 (el lb i.i).1.lo.d.s,.slice (el lb i.i).1.lo.d.q (el lb i.i).1.lo.d.n (el lb i.i).1.lo.d.cap,.int .i64 (el lb i.i).1.hi.n.s,.slice (el lb i.i).1.hi.n.q (el lb i.i).1.hi.n.n (el lb i.i).1.hi.n.cap,.int .i64 (el lb i.i).1.hi.d.s,.slice (el lb i.i).1.hi.d.q (el lb i.i).1.hi.d.n (el lb i.i).1.hi.d.cap]) ((i.i)*8) (λF h9=>h9.1.2.2.row) O rfl Qk I λj v E=>JN (f:=(λe=>Xs e.1)) (l:=lb) (λ_=>rfl) O E)<|IN (c1:=c1) (c2:=c2) rfl rfl (λw F f k=>hc i.i c (el la i.i).1 (el lb i.i).1 w F f k.1.1 (k.1.2.1.at c) (k.1.2.2.at (show i.i<nb by omega))) λC=>?_
  refine Qo I (Q5 JO) Qk Jk I I (λb25=>?_) (λw h=>h.imp tQ tN);rw[<-aK i.ob];refine Yz (n:=i.i) (k:=1) (sz:=8) (news:=Xs C) rfl rfl JO Qk Jk I Wh i.hr (Src.row (off:=0) tO (λj q hq=>by rw[ay];rw[ag];exact hq) rfl) O O (KY _) we (λ_ h=>h.1.1) (λV P B=>?_);rw[aK];refine QK (QF I)<|Q7<|Qj<|QC<|QB<|QA (Qu I I O)<|wB 2 I ?_
  exact Ql (i.next c C (g (el va i.i) (el vb i.i)) B rfl) (by show a-(i.i+1)<a-i.i;omega) wz we λF h9=>⟨h9.1.1.1,h9.1.1.2.snoc h9.1.2⟩
 have H:i.i=a:=tD<|wj m
 refine Qx ?_
 repeat first|refine QY ?_|refine QO tH ?_
 refine QZ<|wE 3 I ?_
 have Z:=i.len;obtain⟨⟨M,rn,N⟩,D,z,A,b⟩:=Q8.fix (w0:=w) (F0:=F) (bs1:=[]) (G:=_) i.hr;dsimp only at z A b;subst z;refine Zj b ?_;rw[D];dsimp only[Sr.v];refine wD 5 I ?_;exact QP ((⟨M,i.i,N⟩,i.l)) I (wT I) (rfl) λF h9=>by have:=i.box H (r:=⟨M,i.i,N⟩) h9.2 I A h9.1.2;unfold DJ;rw[u];exact this
theorem QA7{x y:Sp}(i:Fits F w)(h:Jl F x a)(j:F bb=some (#[.int .i64 b],3))(hb:0<=b/\b<=64)(hz:Xf a 10000000):Xp prog 300 [x.v,y.v,.pointer (some ⟨bb,0,none⟩)] w F (Z7 a b):=by
 refine QU.intro (G:=λF=>Jl F x a/\F bb=some (#[.int .i64 b],3)) func300 rfl tH rfl rfl i (λF' g=>⟨h.le g,g _ _ j⟩)<|wa<|Qp rfl (vs:=[_,_,_,_,_,_,_,_]) rfl λb3=>Qp rfl (vs:=[_,_,_,_,_,_,_,_]) rfl λb4=>Qc Jk λm=>wY<|wa<|QA (wQ I Qk .u2)<|QA (Zq (c:=#[.int .i64 b]) (T':=3) rfl JK tO rfl)<|QI rfl (λ_ _ f k=>G4 (x:=x) (a:=a) (b:=b) f k.1 hb hz) λl=>QW (vs:=[_,_,_,_,_,_,_,_]) rfl rfl rfl Qk rfl .here .h8 w8<|wY<|QX ?_
 exact QP (l) rfl (.JX (c:=[_,_,_,_,_,_,_,_]) I Qk .here .nil) (rfl) tO
theorem QAl{x y:Sp}(i:Fits F w)(h:Jl F x a)(j:F bb=some (#[.int .i64 b],3))(hb:0<=b/\b<=64)(hz:Xf a 10000000):Xp prog 252 [x.v,y.v,.pointer (some ⟨bb,0,none⟩)] w F (Z7 a b):=by
 refine QU.intro (G:=λF=>Jl F x a/\F bb=some (#[.int .i64 b],3)) func252 rfl tH rfl rfl i (λF' g=>⟨h.le g,g _ _ j⟩)<|wa<|Qp rfl (vs:=[_,_,_,_,_,_,_,_]) rfl λb3=>Qp rfl (vs:=[_,_,_,_,_,_,_,_]) rfl λb4=>Qc Jk λm=>wY<|wa<|QA (wQ I Qk .u2)<|QA (Zq (c:=#[.int .i64 b]) (T':=3) rfl JK tO rfl)<|QI rfl (λ_ _ f k=>G4 (x:=x) (a:=a) (b:=b) f k.1 hb hz) λl=>QW (vs:=[_,_,_,_,_,_,_,_]) rfl rfl rfl Qk rfl .here .h8 w8<|wY<|QX ?_
 exact QP (l) rfl (.JX (c:=[_,_,_,_,_,_,_,_]) I Qk .here .nil) (rfl) tO
theorem QAn{x y:Sp}{c:Rat×Rat}(m:Fits F w)(h:Jl F x a)(o:Jl F y c)(n:F bb=some (#[.int .i64 b],3))(hb:0<=b/\b<=64)(hz:Xf a 10000000)(g:Xf c 10000000):Xp prog 248 [x.v,y.v,.pointer (some ⟨bb,0,none⟩)] w F (Z7 (XC a c) b):=by
 have j:Xf (XC a c) 10000000:=⟨D2 hz.1 g.1,DC hz.2 g.2⟩;refine QU.intro (G:=λF=>Jl F x a/\Jl F y c/\F bb=some (#[.int .i64 b],3)) func248 rfl tH rfl rfl m (λF' i=>⟨h.le i,o.le i,i _ _ n⟩)<|wa<|Qp rfl (vs:=[_,_,_,_,_,_,_,_]) rfl λb3=>Qp rfl (vs:=[_,_,_,_,_,_,_,_]) rfl λb4=>Qc Jk λu=>wY<|QG<|JG (.cons _ tP) mixed tE<|QK (wQ I Qk .u1)<|QK (wQ I Qk .here)<|QR rfl (λ_ _ f k=>CR (x:=x) (y:=y) (a:=a) (b:=c) f k.1 k.2.1 (hz.mono tF) (g.mono tF)) λs=>QK (Zq (c:=#[.int .i64 b]) (T':=3) rfl JK (λF h9=>h9.2.2) rfl)<|QR rfl (λ_ _ f k=>G4 (x:=s) (a:=XC a c) (b:=b) f k.2 hb j) λl=>JV (vs:=[_,_,_,_,_,_,_,_]) rfl rfl rfl Qk rfl .here tP (λ_ h=>h.1.1) .h8 w8<|Q7<|QC<|QX ?_
 exact QP (l) rfl (.JX (c:=[_,_,_,_,_,_,_,_]) I Qk .here .nil) (rfl) tO
theorem QAm{x y:Sp}{m:Fr}{c:Rat×Rat}{b:Int}{L:Nat}(N:Fits F w)(h:Jl F x a)(Q:Jl F y c)(hG:F L=some ((Kj m).toArray,135))(z:JR F m (((two b:Int):Rat))⁻¹)(P:F bb=some (#[.int .i64 b],3))(hb:0<=b/\b<=64)(hz:Xf a 2000000)(l:Xf c 2000000):Xp prog 250 [x.v,y.v,.pointer (some ⟨L,0,none⟩),.pointer (some ⟨bb,0,none⟩)] w F (SM b a c):=by
 have o:Xf (XC a c) 2000000:=⟨D2 hz.1 l.1,DC hz.2 l.2⟩;have V:=o.1;have U:=o.2;have s1:=BX (XC a c).2 (XC a c).1;have s2:=YN ((XC a c).2-(XC a c).1) (ax 1 4);have s3:JW (ax 1 4)<=4:=tF;have s4:JW (((two b:Int):Rat))⁻¹<=200:=by
  have h0:((two b:Int):Rat).num≠0:=Tn b;refine aV (Np h0) ?_;rw[<-BV];have h1:=VP (((2:Int):Rat)) b.toNat;have h2:JW (((2:Int):Rat))<=2:=tF;have h3:b.toNat*JW (((2:Int):Rat))<=64*2:=aU O h2;omega
 have Z:=Kz (((XC a c).2-(XC a c).1)*ax 1 4) (((two b:Int):Rat))⁻¹;have Y:=BX (XC a c).1 (((XC a c).2-(XC a c).1)*ax 1 4+(((two b:Int):Rat))⁻¹);have X:=Kz (XC a c).2 (((XC a c).2-(XC a c).1)*ax 1 4+(((two b:Int):Rat))⁻¹);refine QU.intro (G:=λF=>Jl F x a/\Jl F y c/\F L=some ((Kj m).toArray,135)/\JR F m (((two b:Int):Rat))⁻¹/\F bb=some (#[.int .i64 b],3)) func250 rfl tH rfl rfl N (λF' g=>⟨h.le g,Q.le g,g _ _ hG,z.le g,g _ _ P⟩)<|wa<|Qp rfl (vs:=[_,_,_,_,_,_,_,_]) rfl λb4=>Qp rfl (vs:=[_,_,_,_,_,_,_,_]) rfl λb5=>Qc Jk λb6=>wY<|wa<|QA (wQ I Qk .u2)<|QA (wQ I Qk .u1)<|QI rfl (λ_ _ f k=>CR (x:=x) (y:=y) (a:=a) (b:=c) f k.1 k.2.1 (hz.mono tF) (l.mono tF)) λi=>Qc Jk λb7=>QW (vs:=[_,_,_,_,_,_,_,_]) rfl rfl rfl Qk rfl .here .h8 w8<|wY<|QG<|Kr (r:=[0,1,2,3,4,5,6,7,8,9,10,11,12]) tP mixed tE rfl<|Jr 0 tE rfl rfl<|QK (QH rfl Xt QS)<|JC<|Jr 1 tE rfl rfl<|QK (wR I QS .here)<|JC ?_
 refine Jr 2 tE rfl rfl<|QK (QH I Xu QS)<|JC<|Jr 3 tE rfl rfl<|QK (wP I QS .here)<|JC<|Jr 9 tE rfl rfl ?_
 refine QK (Aj (c:=(Kj m).toArray) (T':=135) (vs:=Kj m) rfl QS (λF h9=>h9.1.2.2.1) rfl λj v M=>by rw[ay];rw[ag];exact M) ?_;refine JC<|Kq (A:=[11]) (r:=[4,5,6,7,8,10,12]) tE<|XQ 4 tE tE tH tP tM rfl rfl rfl (λ_=>rfl) (λ_ _ f k=>UU (x:=i.hi) (y:=i.lo) (r:=(XC a c).2) (s:=(XC a c).1) f k.2.2 k.2.1 O O) λK=>XQ 5 tE tE tH tP tN rfl rfl rfl (λ_=>rfl) (λ_ _ f k=>Ar (n:=1) f tF tF) λS=>XQ 6 tE tE tH tP (λ_ h=>h.1.1) rfl rfl rfl (λ_=>rfl) (λ_ _ f k=>Ar (n:=4) f tF tF) λR=>XQ 7 tE tE tH tP (λ_ h=>h.1.1.1) rfl rfl rfl (λ_=>rfl) (λ_ _ f k=>UH (a:=1) (b:=4) f k.1.2 k.2 tF tF tF) λH=>XQ 8 tE tE tH tP (λ_ h=>h.1.1.1.1) rfl rfl rfl (λ_=>rfl) (λ_ _ f k=>GD (x:=K) (y:=H) (r:=((XC a c).2-(XC a c).1)) (s:=ax 1 4) f k.1.1.1.2 k.2 O O) λE=>XQ 10 tE tE tH tP (λ_ h=>h.1.1.1.1.1) rfl rfl rfl (λ_=>rfl) (λ_ _ f k=>De (x:=E) (y:=m) (r:=((XC a c).2-(XC a c).1)*ax 1 4) (s:=(((two b:Int):Rat))⁻¹) f k.2 k.1.1.1.1.1.1.2.2.2.1 O O) λu=>VH 11 (d:=8) (T:=135) tE tE tH tP (λ_ h=>h.1.1.1.1.1.1) tE tE Jw λb8=>Zv (vs:=[_,_,_,_]) 12 tE tE tH (.cons _ tP) (λ_ h=>h.1.1.1.1.1.1) rfl rfl (λ_=>rfl) (λ_=>rfl) rfl QS I .here tP .h4 wv ?_
 refine WL ?_ tE;refine QC<|QG<|JG (.cons_cons _ (.cons_cons _ (.cons _ tP))) mixed tE<|QK (QH I Xu QS)<|QK (wP I QS .u1)<|QK (wP I QS .here)<|QR I (λ_ _ f k=>UU (x:=i.lo) (y:=u) (r:=(XC a c).1) (s:=(((XC a c).2-(XC a c).1)*ax 1 4+(((two b:Int):Rat))⁻¹)) f k.1.1.1.1.1.1.2.1 k.2 O O) λD=>QK (QH I Xt QS)<|QK (wR I QS .u1)<|QK (wP I QS .here)<|QR I (λ_ _ f k=>De (x:=i.hi) (y:=u) (r:=(XC a c).2) (s:=(((XC a c).2-(XC a c).1)*ax 1 4+(((two b:Int):Rat))⁻¹)) f k.1.1.1.1.1.1.1.2.2 k.1.2 O O) λC=>QK (Q4 I Z2 Jk (.cons (vs:=[_,_,_,_]) I I I .h4 (.cons (vs:=[_,_,_,_]) I I I (.skip (.skip (.skip (.skip .h4)))) .nil)))<|QK (Zq (c:=#[.int .i64 b]) (T':=3) rfl JK (λF h9=>h9.1.1.1.1.1.1.1.2.2.2.2) rfl)<|QR I (λ_ _ f k=>G4 (x:=⟨D,C⟩) (a:=((XC a c).1-(((XC a c).2-(XC a c).1)*ax 1 4+(((two b:Int):Rat))⁻¹),(XC a c).2+(((XC a c).2-(XC a c).1)*ax 1 4+(((two b:Int):Rat))⁻¹))) (b:=b) f ⟨k.1.2,k.2⟩ hb ⟨by show JW ((XC a c).1-(((XC a c).2-(XC a c).1)*ax 1 4+(((two b:Int):Rat))⁻¹))<=_;omega,by show JW ((XC a c).2+(((XC a c).2-(XC a c).1)*ax 1 4+(((two b:Int):Rat))⁻¹))<=_;omega⟩) λB=>JV (vs:=[_,_,_,_,_,_,_,_]) I I I Qk I .u2 tP (λ_ h=>h.1.1.1) .h8 w8<|Q7<|QC<|QX ?_
 exact QP (B) rfl (.JX (c:=[_,_,_,_,_,_,_,_]) I Qk .u2 .nil) (rfl) tO
theorem C2(c:Fits F w)(ha:J7 F ra la va)(hb:0<=b/\b<=64)(k:ra.n<=1000000)(hz:∀x∈va,Xf x 10000000):Wi prog 246 [ra.v,.int .i64 b] w F (va.map λa=>Z7 a b):=by
 have o:=ha.YI;dsimp only[Sr.v];refine QU.intro (G:=λF=>J7 F ra la va) func246 rfl tH rfl rfl c (λF' l=>ha.le l)<|wa<|Qp rfl (vs:=[_]) rfl λb3=>wZ rfl<|wb rfl<|wW rfl<|VI (b:=b3) .here<|QA (VD rfl)<|QI rfl (λw F c ⟨m,s⟩=>EN (f:=300) (c1:=[]) (c2:=[.pointer (some ⟨b3,0,none⟩)]) (g:=λa _=>Z7 a b) (G0:=λF=>F b3=some (#[.int .i64 b],3)) c (λF F' j h=>j _ _ h) s m m (aD _) k λi hi x y w F c hG hx hy=>QA7 c hx hG hb (hz _ (Qw O))) λu=>wZ rfl<|QX ?_
 exact QP (u) rfl (wT I) (rfl) λF h9=>by have h:=h9.2;rw[FD]at h;exact h
section
variable[Dr][df:Df]{P:Program}{Q:Exit->Act->World->Prop}{N:Nat}{m:Sl}{E E0:Env}{ops:Array Oper}{l:List Oper}{w0:World}{F0:Gs}{bs:List (Nat×Obj)}{G:Gs->Prop}{d:Nat}{ty:TypeId}{pos:String}{aft:Array Edge}{Y:World->Prop}
theorem O1{e:TypeId}{x:Operand}{q:Option Addr}(hx:ev m x=some (.slice q n c))(b:Gp P T=some e):Qt P N m Y (.call ⟨.builtin .cap,#[x],#[T]⟩) ty (.int .i64 c):=λa w _ _ _ _ ha _=>by
 rw[YH];simp[builtin,Builtin.cap_,ha.ev hx,run_underlying (Q5 b),goInt]
theorem uO{t tn e:TypeId}{kn:IntKind}{sz bytes n:Nat}{z:List Value}{g:Bool}{X X2:Operand}(hx:ev m X=some (.slice none 0 0))(hy:ev m X2=some (.int .i64 (n:Int)))(ht:Gp P t=some e)(htn:Nl P tn=some kn)(hs:Z5 P e=some (g,sz))(hz:XI P e=some z)(hzl:z.length=sz)(hby:ZK P e=some bytes)(h0:0<n)(hs0:0<sz)(h63:n<=1000000000)(h47:n*bytes<=140737488355328)
  (kk:∀(b cap:Nat) (rest:List Value),n<=cap->rest.length=cap*sz->cap<=maxLen->JS P ops Q l N ((d,.slice (some ⟨b,0,none⟩) n cap)::m) ⟨w0,F0,(b,.cells rest.toArray e (0,0))::bs,G⟩) (hu:Hi e=true:=by rfl) (hd:J5 N (some d)=true:=by rfl) :
  JS P ops Q (⟨some d,.call ⟨.builtin .append,#[X,X2],#[t,tn]⟩,ty,pos,aft,none⟩::l) N m ⟨w0,F0,bs,G⟩:=λa w ha hw =>
 wpList_plain rfl λK hK=>by
  have hi:∃i,P.info? e=some i/\i.size=sz/\i.bytes=bytes/\∃zv,i.zero=some zv/\zv.cells.toList=z:=by
   unfold Z5 at hs;unfold XI at hz;unfold ZK at hby;cases h:P.info? e with
   |none=>rw[h]at hz;cases hz
   |some i =>
    rw[h]at hs hz hby;dsimp only at hz hs;simp only[bz,bD]at hby;refine⟨i,rfl,?_,hby,?_⟩
    ·split at hs
     ·rename_i h1 h2;cases h2;cases hs;rfl
     cases hs
    cases hzz:i.zero with
    |none=>rw[hzz]at hz;cases hz
    |some zv=>rw[hzz]at hz;simp only[bz,bD]at hz;exact⟨zv,rfl,hz⟩
  obtain⟨i,hi1,hi2,hi3,zv,hi4,hi5⟩:=hi;subst hi2 hi3;have hkn:P.underlying tn=some (.int kn):=by
   unfold Nl at htn;cases h:P.underlying tn with
   |none=>rw[h]at htn;cases htn
   |some u=>rw[h]at htn;cases u<;>simp at htn;rw[htn]
  have hzc:∀q,(aH zv.cells q).toList.length=q*i.size:=λq=>by
   have:=hzl;rw[<-hi5]at this;simp[aH]at this ⊢;rw[this]
  have hrun:=Go.Lib.run_append_nil_zeros (P:=P) w t tn ty e i zv .i64 kn (Q5 ht) hkn hi1 hi4 n h0 hs0 O O;have hge:=grownCap_ge w n 0 e;have e1:(aH zv.cells n++aH zv.cells (grownCap w n 0 e-n))=((aH zv.cells n).toList++(aH zv.cells (grownCap w n 0 e-n)).toList).toArray:=by apply bV;simp
  rw[e1]at hrun;refine upon_value (w':=_) (v:=_) ?_ (hK _ _ (kk w.heap.size (grownCap w n 0 e) ((aH zv.cells n).toList++(aH zv.cells (grownCap w n 0 e-n)).toList) hge (by rw[aF,hzc,hzc,<-Nat.add_mul];congr 1;omega) (grownCap_le_maxLen w n 0 e (by simp only[maxLen];omega)) _ _ (ha.put hd _) (hw.drew.alloc _ (ZN hu))));rw[YH];simp[builtin,ha.ev hx,ha.ev hy,hrun]
end
theorem QCC{n:Nat}(h0:0<n)(k:n<=100000000):XN prog 277 [.slice none 0 0,.int .i64 (n:Int)] ⟨w0,F0,bs,G⟩ (λ(c:{ c:Value×List (Nat×Obj) // Q8 168 8 c.1 0 [] c.2 })=>c.1.1) (λc=>⟨w0,F0,c.1.2++bs,G⟩):=by
 refine XN.intro func277 rfl tH rfl rfl<|wa<|wZ rfl<|QG<|wb rfl<|QA (QT rfl rfl rfl)<|QE<|QC ?_
 refine QQ I (λa=>?_) λa=>?_
 ·exact absurd a tJ
 refine wC 7 I<|QA (O1 I JO)<|wW I<|QA (Qg I JO)<|QA (X3 I I O)<|QA (X3 I I O) ?_
 rw[show((n:Int)-(((0:Nat):Int)-((0:Nat):Int)))=(n:Int) by omega];refine wD 9 I ?_;refine QQ I (λa=>?_) λa=>?_
 ·refine wA 3 I<|QA (O1 I JO)<|QA (NV 0 rfl rfl rfl JO Qk (aD _))<|wW I<|uO (sz:=8) (bytes:=128) rfl rfl JO k_3 Qk Jk I Wh h0 tF O O λi f b j g h=>wW I<|QA (Qg I JO)<|QA (NV 0 rfl rfl rfl JO Qk (ao _))<|wD 10 I ?_
  exact Y3 (⟨(.slice (some ⟨i,0,none⟩) 0 f,[(i,_)]),.some (l:=[]) (rest:=b) rfl (by simpa using g) (ao _) h⟩) I (wT I) (rfl) tM
 exact absurd a tK
abbrev U5:Type:=Sr×List Yx
variable{ls:List U5}
instance :Inhabited U5:=⟨(⟨none,0,0⟩,[])⟩
def IS(F:Gs)(ls:List U5):Prop:=∀e∈ls,J7 F e.1 e.2 (e.2.map (·.2))
theorem IS.le(h:IS F ls)(k:Gs.le F F'):IS F' ls:=λe he=>(h e he).le k
def Na(ls:List U5):List Yx:=ls.flatMap (·.2)
def Hy(ls:List U5):Nat:=(Na ls).length
theorem E9(h:i<ls.length):Hy (ls.take (i+1))=Hy (ls.take i)+(el ls i).2.length:=by
 unfold Hy Na;rw[XE h,aI,aF];simp
theorem OR(i:Nat):Hy (ls.take i)<=Hy ls:=by
 unfold Hy Na;rw[<-bK i ls,aI,aF,bK];omega
theorem qf(h:i<ls.length):Xl (Na (ls.take (i+1)))=Xl (Na (ls.take i))++Xl (el ls i).2:=by
 unfold Na;rw[XE h,aI];unfold Xl;rw[aI];simp
theorem xE(l:List Yx):∀v∈Xl l,v.oneCell'=true:=λv a=>by
 obtain⟨e,_,h⟩:=List.mem_flatMap.1 a;exact KY e.1 v h
theorem J7.q0{r:Sr}{l:List Yx}{vs:List (Rat×Rat)}(h:J7 F r l vs):r.q=none->r.n=0:=λe=>by
 rcases Nat.eq_zero_or_pos r.n with h0 | h0
 ·exact h0
 obtain⟨b,off,h1⟩:=h.row.ptr h0;rw[e]at h1;cases h1
structure CcI(ls:List U5) where
 i:Nat
 le:i<=ls.length
structure CcJ(ls:List U5) where
 i:Nat
 v:Value
 ob:List (Nat×Obj)
 le:i<=ls.length
 hr:Q8 168 8 v (Hy (ls.take i)) (Xl (Na (ls.take i))) ob
theorem y4{q:Option Addr}{cap:Nat}(Z:Fits F w)(R:Qy F q n 1 (ls.map λe=>e.1.v))(hn:ls.length=n)(E:IS F ls)(X:n<=1000000)(h0:0<Hy ls)(ht:Hy ls<=1000000):
  Wi prog 218 [.slice q n cap] w F ((Na ls).map (·.2)):=by
 have m:∀e∈ls,e.2.length=e.1.n:=λe he=>(E e he).len;refine QU.intro (G:=λF=>Qy F q n 1 (ls.map λe=>e.1.v)/\IS F ls) func218 rfl tH rfl rfl Z (λF' D=>⟨R.le D,E.le D⟩)<|wa<|wZ rfl<|wa<|wZ rfl<|QG<|wb rfl<|QA (Qg rfl P1)<|wW rfl<|wY<|QV<|J9 (ι:=CcI ls) [(0,_),(9,_),(10,_)] (λi=>[(3,.int .i64 (((Hy (ls.take i.i)):Nat):Int)),(11,.int .i64 ((i.i:Nat):Int))]) (λi=>n-i.i) (⟨0,ao _⟩) wu wm λi=>?_
 simp only[aa,ab];have hi:=i.le;refine wA 6 I ?_;refine QQ I (λb=>?_) λb=>?_
 ·have y:i.i<ls.length:=tD<|wi b
  have N:=Qw y;have L:=E9 y;have V:=OR (ls:=ls) (i.i+1);refine wC 6 I<|QA (Q3 (n:=n) i.i tN rfl rfl P1 JH O)<|QA (JA (n:=n) ((i.i)*1) tN O rfl JH (XT (f:=λe:U5=>e.1.v) (l:=ls) O))<|wD 7 I<|QA (Qg I JO) ?_
  rw[<-m _ N];refine QA (Qu I I O) ?_;rw[show(((Hy (ls.take i.i):Nat):Int)+(((el ls i.i).2.length:Nat):Int))=((Hy (ls.take (i.i+1)):Nat):Int) by rw[L];omega];refine wD 9 I ?_;refine QQ I (λb=>?_) λb=>?_
  ·exact absurd b tJ
  refine QN<|Qj<|QC<|QB<|QA (Qu I I O)<|wB 2 I ?_
  exact Ql (⟨i.i+1,y⟩) (by show n-(i.i+1)<n-i.i;omega) wy we tM
 have M:i.i=ls.length:=tD<|wj b
 refine Qx ?_
 repeat first|refine QY ?_|refine QO tH ?_
 refine QZ<|wE 4 I ?_
 rw[show Hy (ls.take i.i)=Hy ls by rw[M,aP]];refine XX I (bw _) (QCC h0 O) (λz=>?_);rw[aK];refine wD 7 I<|QA (Qg I P1)<|wD 4 I<|JU (ι:=CcJ ls) [(25,_),(26,_)] (λa=>[(6,a.v),(27,.int .i64 ((a.i:Nat):Int))]) (λa=>a.ob) (λa F=>True) (λa=>n-a.i) (⟨0,z.1.1,z.1.2,ao _,z.2⟩) wm wm we tL λa=>?_
 simp only[aa,ab];have Y:=a.le;refine wA 6 I ?_;refine QQ I (λb=>?_) λb=>?_
 ·have c:a.i<ls.length:=tD<|wi b
  have g:=Qw c;have Q:=E9 c;have P:=OR (ls:=ls) (a.i+1);refine wC 6 I<|QA (Q3 (n:=n) (a.i) (λF h9=>h9.1.1) rfl rfl P1 JH O)<|QA (JA (n:=n) ((a.i)*1) (λF h9=>h9.1.1) O rfl JH (XT (f:=λe:U5=>e.1.v) (l:=ls) O))<|wD 6 I<|Z4 (bs1:=[]) (ob:=a.ob) (n:=Hy (ls.take a.i)) (k:=(el ls a.i).2.length) (sz:=8) (news:=Xl (el ls a.i).2) rfl rfl JO Qk Jk I Wh a.hr (by rw[m _ g];exact Src.gR (E _ g).q0 (λF h9=>(h9.1.2 _ g).row) (by rw[GQ,m _ g])) O O (xE _) λH A B=>wB 2 I<|Qj<|QC<|QB<|QA (Qu I I O)<|wB 2 I ?_
  exact Ql (⟨a.i+1,H,A,c,by rw[E9 c,qf c];exact B⟩) (by show n-(a.i+1)<n-a.i;omega) wv we λF h=>⟨h.1,trivial⟩
 have C:a.i=ls.length:=tD<|wj b
 refine Qx ?_
 repeat first|refine QY ?_|refine QO tH ?_
 refine QZ<|wE 3 I ?_
 obtain⟨⟨S,T,U⟩,K,j,u,s⟩:=Q8.fix (w0:=w) (F0:=F) (bs1:=[]) (G:=_) a.hr;dsimp only at j u s;refine Zj s ?_;rw[K];dsimp only[Sr.v];refine wD 5 I ?_;exact QP ((⟨S,T,U⟩,Na ls)) I (wT I) (rfl) λF ⟨⟨⟨R,E⟩,_⟩,o⟩=>by rw[C,aP]at o j u;exact⟨by dsimp only;rw[j];exact o,λe he=>by obtain⟨x,hx,h⟩:=List.mem_flatMap.1 he;exact(E x hx).sp e h,rfl,j.symm,by dsimp only;rw[j];exact u⟩
theorem M6:∀(l:List Rat) (r:Rat),l.foldl UK r<=r
 |[],r=>bj
 |x::l,r=>by
  refine bI (M6 l (UK r x)) ?_;unfold UK;split
  ·rename_i h;exact bJ ((V9 x r).1 h)
  exact bj
theorem M7:∀(l:List Rat) (r:Rat),r<=l.foldl E2 r
 |[],r=>bj
 |x::l,r=>by
  refine bI ?_ (M7 l (E2 r x));unfold E2;split
  ·rename_i h;exact bJ ((K3 x r).1 h)
  exact bj
theorem Cr(a b:Rat×Rat):(Jg a b).1<=(Jg a b).2:=by
 unfold Jg;rw[ZO];exact bI (M6 _ _) (M7 _ _)
theorem I7(h:a.1<=a.2):Jg a (1,1)=a:=by
 unfold Jg;rw[ZO];simp only[bM,List.foldl_cons,List.foldl_nil];have c:UK a.1 a.1=a.1:=by unfold UK;split<;>rfl
 have b:UK a.1 a.2=a.1:=by unfold UK;rw[if_neg (by rw[V9];exact Rat.not_lt.2 h)]
 have i:E2 a.1 a.1=a.1:=by unfold E2;split<;>rfl
 have f:E2 a.2 a.2=a.2:=by unfold E2;split<;>rfl
 have g:E2 a.1 a.2=a.2:=by
  unfold E2;by_cases e:a.1<a.2
  ·rw[if_pos ((K3 a.2 a.1).2 e)]
  rw[if_neg (by rw[K3];exact e)];exact Rat.le_antisymm h (Rat.not_lt.1 e)
 rw[c,b,b,i,g,f]
theorem qC(a:Rat×Rat):Y5 a 0=(1,1):=by
 unfold Y5;rw[ZO];simp[UK,E2,Rat.pow_zero]
theorem ON{c:Rat×Rat}(hc:c.1<=c.2)(bs:List (Rat×Rat))(ks:List Int):∀i,(VT c bs ks i).1<=(VT c bs ks i).2
 |0=>hc
 |i+1=>by
  rw[Wp];split
  ·exact Cr _ _
  exact ON hc bs ks i
theorem js{c:Rat×Rat}(hc:c.1<=c.2){bs:List (Rat×Rat)}{ks:List Int}{i:Nat}(hk:0<=Qm ks i):Jg (VT c bs ks i) (Y5 (el bs i) (Qm ks i))=VT c bs ks (i+1):=by
 rw[Wp];by_cases h:Qm ks i>0
 ·rw[if_pos h]
 rw[if_neg h,show Qm ks i=0 by omega,qC,I7 (ON hc bs ks i)]
structure OL(bs:List (Rat×Rat))(l:List Tm):Prop where
 base:∀x∈bs,Xf x 1000000
 N4:∀t∈l,JW t.1<=1000000
 pw:∀t∈l,t.2.length<=bs.length/\t.2.length<=1000/\∀k∈t.2,0<=k/\k<=12
 val:∀t∈l,∀i,i<=t.2.length->Xf (VT (t.1,t.1) bs t.2 i) 20000000
 pow:∀t∈l,∀i,i<t.2.length->Xf (Y5 (el bs i) (Qm t.2 i)) 20000000
 sum:∀k,Xf (J3 bs (l.take k)) 100000000
structure VaI(n:Nat) where
 i:Nat
 x:Sp
 le:i<=n
theorem MU{bs:List (Rat×Rat)}{l:List Tm}(h:i<l.length):J3 bs (l.take (i+1))=Vz (J3 bs (l.take i)) (VT ((el l i).1,(el l i).1) bs (el l i).2 (el l i).2.length):=by
 rw[XE h];unfold J3;rw[aO];rfl
theorem Dy{pa:WS}{x:Sp}{t:Rat×Rat}(hF:Fits F w)(hP:XU F pa.1 pa.2 (J4 pa.2))(M:Jl F x t)(C:J7 F rb lb vb)(hbn:rb.n<=100000)(hpn:pa.1.n<=1000000)(R:OL (t::vb) (J4 pa.2)):
  Xp prog 129 [pa.1.v,x.v,rb.v] w F (J3 (t::vb) (J4 pa.2)):=by
 obtain⟨⟨q,n,c⟩,ts⟩:=pa;have hln:ts.length=n:=hP.2.2.2.2;have hvl:=C.YI;dsimp only[Sr.v]at *
 have hlm:(J4 ts).length=n:=by rw[Yb];exact hln
 refine QU.intro (G:=λF=>(Qy F q n 5 (ts.flatMap WQ)/\GG F ts)/\Jl F x t/\J7 F rb lb vb) func129 rfl tH rfl rfl hF (λF' H=>⟨⟨hP.1.le H,hP.2.1.le H⟩,M.le H,C.le H⟩)<|wa<|Qp rfl (vs:=[_,_,_,_,_,_,_,_]) rfl λb4=>Qc Jk λb6=>wY<|wa<|QA (wQ I Qk .u1)<|Qb rfl (Q5 JO) Qk Jk rfl rfl λQ=>wW rfl<|Qb rfl (Q5 P1) JH QEL rfl rfl λb17=>?_
 have T:(Na [((⟨some ⟨Q,0,none⟩,1,1⟩:Sr),[(x,t)]),(rb,lb)]).map (·.2)=t::vb:=by unfold Na;simp[C.val]
 have htot:Hy [((⟨some ⟨Q,0,none⟩,1,1⟩:Sr),[(x,t)]),(rb,lb)]=1+rb.n:=by unfold Hy Na;simp[C.len];omega
 refine QI I (λw F hF ⟨⟨⟨⟨Z,hN⟩,M,C⟩,z⟩,u⟩=>y4 (ls:=[((⟨some ⟨Q,0,none⟩,1,1⟩:Sr),[(x,t)]),(rb,lb)]) hF (Qy.of (n:=2) (sz:=1) u rfl) rfl (λe he=>by
  simp only[bF,List.not_mem_nil,or_false]at he;rcases he with rfl | rfl
  ·exact⟨Qy.of (n:=1) (sz:=8) z rfl,λe he=>by rw[List.mem_singleton.1 he];exact M,rfl,rfl,aD _⟩
  exact⟨C.row,C.sp,rfl,C.len,C.cap⟩) tF O O) λm=>?_
 rw[T];refine JQ _ (λ_ _ f h=>ar h.2.len (ar h.2.YI h.2.cap)) (λV=>?_);obtain⟨l18,v18,_⟩:=V;rw[bB]at v18;refine wD 5 I<|QI I (λ_ _ f k=>TN (n:=0) f tF tF) λc19=>QI I (λ_ _ f k=>Kc (x:=c19) (r:=((0:Int):Rat)) f k.2) λc20=>Qc Jk λb8=>QW (vs:=[_,_,_,_,_,_,_,_]) I I I Qk I .here .h8 w8<|wD 6 I<|QA (Qg I Yt)<|wD 4 I<|JU (ι:=VaI ts.length) [(6,_),(7,_),(8,_),(21,_),(22,_)] (λi=>[(23,.int .i64 ((i.i:Nat):Int))]) (λi=>[(b8,.cells (Xs i.x).toArray 168 (0,0)),(b6,.cells [.int .i64 0,.slice none 0 0,.int .i64 0,.slice none 0 0,.int .i64 0,.slice none 0 0,.int .i64 0,.slice none 0 0].toArray 168 (0,0)),(b4,.cells (Xs x).toArray 168 (0,0))]) (λi F=>Jl F i.x (J3 (t::vb) ((J4 ts).take i.i))) (λi=>ts.length-i.i) (⟨0,c20,ao _⟩) wy wk we tO λi=>?_
 simp only[aa,ab];have hi:=i.le;refine wA 6 I ?_;refine QQ I (λA=>?_) λA=>?_
 ·have L:i.i<ts.length:=tD<|wi A
  have D:=Qw L;have E:(el ts i.i).t∈J4 ts:=aj D;have hpw:=R.pw _ E;refine XV _ (λ_ _ f h=>(h.1.1.1.1.1.1.1.2 _ D).2.2.1) (λhrl=>wC 6 I<|QA (Q3 (n:=n) i.i (λF h9=>h9.1.1.1.1.1.1.1.1) rfl rfl Yt Xw O)<|QA (JZ (n:=n) (vs:=[.int .i64 (el ts i.i).x.n.s,.slice (el ts i.i).x.n.q (el ts i.i).x.n.n (el ts i.i).x.n.cap,.int .i64 (el ts i.i).x.d.s,.slice (el ts i.i).x.d.q (el ts i.i).x.d.n (el ts i.i).x.d.cap,.slice (el ts i.i).r.q (el ts i.i).r.n (el ts i.i).r.cap]) ((i.i)*5) (λF h9=>h9.1.1.1.1.1.1.1.1) O rfl Xw I λj v hv=>JN (f:=WQ) (l:=ts) Bf O hv)<|Qc GN λb10=>QW (vs:=[_,_,_,_,_]) I I I Xw I .here .h5 wy<|wY<|wa<|QA (QH I Wy QS)<|QA (wP I QS .here)<|QI I (λ_ _ f k=>Kc (x:=(el ts i.i).x) (r:=(el ts i.i).t.1) f (k.1.1.1.1.1.1.1.2 _ D).1) λc29=>Qc Jk λb11=>QW (vs:=[_,_,_,_,_,_,_,_]) I I I Qk I .here .h8 w8<|wD 5 I ?_);refine QA (QH I V7 JM)<|QA (Qe I JM .u1 (.skip (.skip (.skip (.skip .h1)))))<|QA (Qg I Q2)<|wD 4 I<|JU (ι:=VaI (el ts i.i).t.2.length) [(6,_),(7,_),(8,_),(11,_),(21,_),(22,_),(23,_),(31,_),(32,_)] (λg=>[(33,.int .i64 ((g.i:Nat):Int))]) (λg=>[(b11,.cells (Xs g.x).toArray 168 (0,0)),(b10,.cells (WQ (el ts i.i)).toArray 263 (0,0)),(b8,.cells (Xs i.x).toArray 168 (0,0)),(b6,.cells [.int .i64 0,.slice none 0 0,.int .i64 0,.slice none 0 0,.int .i64 0,.slice none 0 0,.int .i64 0,.slice none 0 0].toArray 168 (0,0)),(b4,.cells (Xs x).toArray 168 (0,0))]) (λg F=>Jl F g.x (VT ((el ts i.i).t.1,(el ts i.i).t.1) (t::vb) (el ts i.i).t.2 g.i)) (λg=>(el ts i.i).t.2.length-g.i) (⟨0,c29,ao _⟩) w9 wk we tO λg=>?_
  simp only[aa,ab];have hj:=g.le;refine wA 6 I ?_;refine QQ I (λA=>?_) λA=>?_
  ·have B:g.i<(el ts i.i).t.2.length:=tD<|wi A
   have K:0<=Qm (el ts i.i).t.2 g.i/\Qm (el ts i.i).t.2 g.i<=12:=by rw[YW B];exact hpw.2.2 _ (Qw B)
   have hbl:(t::vb).length=vb.length+1:=bB;have hbz:=R.base _ (Qw (show g.i<(t::vb).length by omega));refine wC 7 I<|QA (Q3 (n:=(el ts i.i).r.n) (g.i) (λF h9=>((h9.1.1.1.1.1.1.1.1.1.2 _ D).2).1) rfl rfl Q2 JK O)<|QA (JA (n:=(el ts i.i).r.n) ((g.i)*1) (λF h9=>((h9.1.1.1.1.1.1.1.1.1.2 _ D).2).1) O rfl JK (Jz (o:=(el ts i.i).t.2) O))<|wD 4 I<|Jq 8 we mixed tE tE ?_
   simp only[aA,aG,aB,aJ];refine QK (wQ I Qk .here)<|QK (QD I)<|QK (QD I)<|QK (Q3 (n:=m.1.n) (g.i) (λF h9=>h9.1.1.1.1.1.2.row) rfl rfl JO Qk O)<|QK (JZ (n:=m.1.n) (vs:=[.int .i64 (el m.2 (g.i)).1.lo.n.s,.slice (el m.2 (g.i)).1.lo.n.q (el m.2 (g.i)).1.lo.n.n (el m.2 (g.i)).1.lo.n.cap,.int .i64 (el m.2 (g.i)).1.lo.d.s,.slice (el m.2 (g.i)).1.lo.d.q (el m.2 (g.i)).1.lo.d.n (el m.2 (g.i)).1.lo.d.cap,.int .i64 (el m.2 (g.i)).1.hi.n.s,.slice (el m.2 (g.i)).1.hi.n.q (el m.2 (g.i)).1.hi.n.n (el m.2 (g.i)).1.hi.n.cap,.int .i64 (el m.2 (g.i)).1.hi.d.s,.slice (el m.2 (g.i)).1.hi.d.q (el m.2 (g.i)).1.hi.d.n (el m.2 (g.i)).1.hi.d.cap]) ((g.i)*8) (λF h9=>h9.1.1.1.1.1.2.row) O rfl Qk I λj v hv=>JN (f:=(λe=>Xs e.1)) (l:=m.2) (λ_=>rfl) O hv)<|QK (QD I)<|QR I (λ_ _ f k=>ye (x:=(el m.2 g.i).1) (a:=el (t::vb) g.i) (n:=Qm (el ts i.i).t.2 g.i) f (k.1.1.1.1.1.2.at (show g.i<m.1.n by omega)) K hbz) λc44=>QR I (λ_ _ f k=>Ud (x:=g.x) (y:=c44) (a:=VT ((el ts i.i).t.1,(el ts i.i).t.1) (t::vb) (el ts i.i).t.2 g.i) (b:=Y5 (el (t::vb) g.i) (Qm (el ts i.i).t.2 g.i)) f k.1.2 k.2 (R.val _ E _ O) (R.pow _ E _ B)) λY=>ZS<|QW (vs:=[_,_,_,_,_,_,_,_]) I I I Qk I .here .h8 w8<|QE<|Qj<|QC<|QB<|QA (Qu I I O)<|wB 2 I ?_
   exact Ql (⟨g.i+1,Y,B⟩) (by show(el ts i.i).t.2.length-(g.i+1)<(el ts i.i).t.2.length-g.i;omega) tA we λF ⟨⟨⟨⟨⟨⟨⟨⟨⟨⟨⟨⟨Z,hN⟩,M,C⟩,z⟩,u⟩,P⟩,TL⟩,N⟩,hS⟩,U⟩,hY⟩,h44⟩,h45⟩=>⟨⟨⟨⟨⟨⟨⟨⟨⟨⟨Z,hN⟩,M,C⟩,z⟩,u⟩,P⟩,TL⟩,N⟩,hS⟩,U⟩,by show Jl F Y (VT _ _ _ (g.i+1));rw[<-js bj K.1];exact h45⟩
  have S:g.i=(el ts i.i).t.2.length:=tD<|wj A
  refine Qx ?_
  repeat first|refine QY ?_|refine QO tH ?_
  refine QZ<|QC<|QB<|QA (wQ I Qk .u2)<|QA (wQ I Qk .here)<|QI I (λ_ _ f k=>MW (x:=i.x) (y:=g.x) (a:=J3 (t::vb) ((J4 ts).take i.i)) (b:=VT ((el ts i.i).t.1,(el ts i.i).t.1) (t::vb) (el ts i.i).t.2 g.i) f k.1.1.2 k.2 (R.sum _) ((R.val _ E _ O).mono tF)) λX=>QW (vs:=[_,_,_,_,_,_,_,_]) I I I Qk I .u2 .h8 w8<|QE<|Qj<|QC<|QB<|QA (Qu I I O)<|wB 2 I ?_
  exact Ql (⟨i.i+1,X,L⟩) (by show ts.length-(i.i+1)<ts.length-i.i;omega) wz (.cons _ (.cons _ we)) λF ⟨⟨⟨⟨⟨⟨⟨⟨⟨⟨⟨Z,hN⟩,M,C⟩,z⟩,u⟩,P⟩,TL⟩,N⟩,hS⟩,U⟩,hY⟩,h49⟩=>⟨⟨⟨⟨⟨⟨⟨⟨Z,hN⟩,M,C⟩,z⟩,u⟩,P⟩,TL⟩,N⟩,by show Jl F X (J3 _ ((J4 ts).take (i.i+1)));rw[MU O,<-jv L,<-S];exact h49⟩
 have hge:i.i=ts.length:=tD<|wj A
 refine Qx ?_
 repeat first|refine QY ?_|refine QO tH ?_
 refine QZ<|QC<|wa<|QA (wQ I Qk .here)<|QW (vs:=[_,_,_,_,_,_,_,_]) I I I Qk I .u1 .h8 w8<|wY<|QX ?_
 exact QP (i.x) rfl (.JX (c:=[_,_,_,_,_,_,_,_]) I Qk .u1 .nil) (rfl) λF h=>by have h1:=h.2;rw[aS (by rw[Yb];omega)]at h1;exact h1
structure jP where
 b:Nat
 rt:Sr
 ps:List WS
 st:Sr
 sl:List Yx
structure Gd(F:Gs)(y:jP)(rs:List (List Tm))(vs:List (Rat×Rat)):Prop where
 Hs:F y.b=some (#[y.rt.v,y.st.v],188)
 row:Qy F y.rt.q y.rt.n 1 (y.ps.map λe=>e.1.v)
 pls:Nk F y.ps
 val:jI y.ps=rs
 len:y.ps.length=y.rt.n
 box:J7 F y.st y.sl vs
theorem Gd.le{y:jP}{rs:List (List Tm)}{vs:List (Rat×Rat)}(h:Gd F y rs vs)(k:Gs.le F F'):Gd F' y rs vs:=⟨k _ _ h.Hs,h.row.le k,λe he=>(h.pls e he).le k,h.val,h.len,h.box.le k⟩
theorem Gd.Ka{y:jP}{rs:List (List Tm)}{vs:List (Rat×Rat)}(h:Gd F y rs vs):rs.length=y.rt.n:=by rw[<-h.val,<-h.len];simp[jI]
theorem Gd.at{y:jP}{rs:List (List Tm)}{vs:List (Rat×Rat)}(h:Gd F y rs vs){i:Nat}(hi:i<y.rt.n):XU F (el y.ps i).1 (el y.ps i).2 (J4 (el y.ps i).2)/\J4 (el y.ps i).2=el rs i:=by
 have h1:=h.len;refine⟨h.pls _ (Qw O),?_⟩;rw[<-h.val,Jb (show i<y.ps.length by omega),Jb (by simp[jI];omega)];simp[jI]
structure jR where
 fr:Fr
 Sd:Fr
 bx:Sr
 bl:List Yx
def gM(x:jR):List Value:=Kj x.fr++Kj x.Sd++[x.bx.v]
@[reducible] def jR.v (x:jR):Value:=.agg #[.int .i64 x.fr.n.s,.slice x.fr.n.q x.fr.n.n x.fr.n.cap,.int .i64 x.fr.d.s,.slice x.fr.d.q x.fr.d.n x.fr.d.cap,.int .i64 x.Sd.n.s,.slice x.Sd.n.q x.Sd.n.n x.Sd.n.cap,.int .i64 x.Sd.d.s,.slice x.Sd.d.q x.Sd.d.n x.Sd.d.cap,x.bx.v]
structure Mc(F:Gs)(x:jR)(a b:Rat)(vs:List (Rat×Rat)):Prop where
 fr:JR F x.fr a
 Sd:JR F x.Sd b
 bx:J7 F x.bx x.bl vs
theorem Mc.le{x:jR}{a b:Rat}{vs:List (Rat×Rat)}(h:Mc F x a b vs)(k:Gs.le F F'):Mc F' x a b vs:=⟨h.fr.le k,h.Sd.le k,h.bx.le k⟩
structure kT(rs:List (List Tm))(fr t2:Rat)(x on:List (Rat×Rat)):Prop where
 ev:∀i,i<rs.length->OL ((fr,t2)::on) (el rs i)
 sz:∀i,i<rs.length->Xf (J3 ((fr,t2)::on) (el rs i)) 10000000
 tm:JW fr<=1000000/\JW t2<=1000000
 bx:∀a∈x,Xf a 10000000
theorem MF{y:jP}{x:jR}{rs:List (List Tm)}{vs vx g:List (Rat×Rat)}{ro:Sr}{lo:List Yx}(Z:Fits F w)(hy:Gd F y rs vs)(hx:Mc F x fr t2 vx)(ho:J7 F ro lo g)(hn:y.rt.n=x.bx.n)(S:ro.n<=100000)(hnx:x.bx.n<=1000000)(hpn:∀e∈y.ps,e.1.n<=1000000)(hk:kT rs fr t2 vx g):
  Wi prog 156 [.pointer (some ⟨y.b,0,none⟩),x.v,ro.v] w F (YP rs fr t2 vx g):=by
 have hrl:=hy.Ka;have B:=hx.bx.YI;have hpl:=hy.len;have hbl2:=hx.bx.len;have zfr:=hk.tm.1;have zto:=hk.tm.2;have zs:=BX t2 fr;dsimp only[Sr.v]at *
 refine QU.intro (G:=λF=>Gd F y rs vs/\Mc F x fr t2 vx/\J7 F ro lo g) func156 rfl tH rfl rfl Z (λF' z=>⟨hy.le z,hx.le z,ho.le z⟩)<|wa<|Qp rfl (vs:=[_,_,_,_,_,_,_,_,_]) rfl λb4=>wZ rfl<|QG<|Kr (r:=[0,1,2,3,4,5,6,7,8]) tR mixed tE rfl<|Jr 1 tE rfl rfl<|QK (QH rfl Bk QS)<|JC<|Jr 2 tE rfl rfl<|QK (wR I QS .here)<|JC<|Jr 3 tE rfl rfl<|QK (QH rfl Bl QS)<|JC<|Jr 4 tE rfl rfl<|QK (wP I QS .here)<|JC<|Kq (A:=[7]) (r:=[0,5,6,8]) tE<|XQ 0 tE tE tH tR tM rfl rfl rfl (λ_=>rfl) (λ_ _ f k=>TN (n:=0) f tF tF) λP=>XQ 5 tE tE tH tR tN rfl rfl rfl (λ_=>rfl) (λ_ _ f k=>UU (x:=x.Sd) (y:=x.fr) (r:=t2) (s:=fr) f k.1.2.1.Sd k.1.2.1.fr O O) λN=>qz 6 tE tE tH tR (λ_ h=>h.1.1) rfl tH (λ_=>Q4 rfl Z2 Jk (.cons (vs:=[_,_,_,_]) rfl rfl rfl .h4 (.cons (vs:=[_,_,_,_]) rfl rfl rfl (.skip (.skip (.skip (.skip .h4)))) .nil))) ?_
 refine VH 7 (d:=7) (T:=168) tE tE tH tR (λ_ h=>h.1.1) tE tE Jk (λb7=>Zv (vs:=[_,_,_,_,_,_,_,_]) 8 tE tE tH (.cons _ tR) (λ_ h=>h.1.1) rfl rfl (λ_=>rfl) (λ_=>rfl) rfl Qk I .here tR .h8 w8 ?_);refine WL ?_ tE;refine wE 10 I<|QA (Zd I)<|QA (QH I Bi YK)<|QA (Zq (c:=#[y.rt.v,y.st.v]) (T':=188) rfl YK (λF h9=>h9.1.1.1.Hs) rfl)<|QA (Qg I YT)<|wD 4 I<|JU (ι:=Wn (y.rt.n) λi=>Vz (el vx i) (Jg (0,t2-fr) (J3 ((fr,t2)::g) (el rs i)))) [(2,_),(4,_),(7,_),(21,_),(22,_)] (λi=>[(8,i.v),(23,.int .i64 ((i.i:Nat):Int))]) (λi=>(b7,.cells (Xs ⟨P,N⟩).toArray 168 (0,0))::(b4,.cells (gM x).toArray 183 (0,0))::i.ob) (λi F=>YA F i.l) (λi=>(y.rt.n)-i.i) (Wn.start _ _) wy wm we (λ_ _=>YA.nil _) λi=>?_
 simp only[aa,ab];have hi:=i.le;refine wA 6 I ?_;refine QQ I (λhc=>?_) λhc=>?_
 ·have u:i.i<y.rt.n:=tD<|wi hc
  have H:i.i<x.bx.n:=O;have V:=Qw (show i.i<y.ps.length by omega);refine XV _ (λ_ _ f h=>(h.1.1.1.1.at u).2) (λK=>wC 7 I<|QA (Q3 (n:=y.rt.n) i.i (λF h9=>h9.1.1.1.1.row) rfl rfl YT YJ O)<|QA (JA (n:=y.rt.n) ((i.i)*1) (λF h9=>h9.1.1.1.1.row) O rfl YJ (XT (f:=λe:WS=>e.1.v) (l:=y.ps) O))<|wD 4 I<|JG tS mixed tE<|QK (QD I)<|QK (QH I Bj JH)<|QK (Qe I JH .u1 (.skip (.skip (.skip (.skip (.skip (.skip (.skip (.skip .h1)))))))))<|QK (QD I)<|QK (Q3 (n:=x.bx.n) i.i (λF h9=>h9.1.1.1.2.1.bx.row) rfl rfl JO Qk O)<|QK (JZ (n:=x.bx.n) (vs:=[.int .i64 (el x.bl i.i).1.lo.n.s,.slice (el x.bl i.i).1.lo.n.q (el x.bl i.i).1.lo.n.n (el x.bl i.i).1.lo.n.cap,.int .i64 (el x.bl i.i).1.lo.d.s,.slice (el x.bl i.i).1.lo.d.q (el x.bl i.i).1.lo.d.n (el x.bl i.i).1.lo.d.cap,.int .i64 (el x.bl i.i).1.hi.n.s,.slice (el x.bl i.i).1.hi.n.q (el x.bl i.i).1.hi.n.n (el x.bl i.i).1.hi.n.cap,.int .i64 (el x.bl i.i).1.hi.d.s,.slice (el x.bl i.i).1.hi.d.q (el x.bl i.i).1.hi.d.n (el x.bl i.i).1.hi.d.cap]) ((i.i)*8) (λF h9=>h9.1.1.1.2.1.bx.row) O rfl Qk I λj v hv=>JN (f:=(λe=>Xs e.1)) (l:=x.bl) (λ_=>rfl) O hv)<|QK (wQ I Qk .here)<|QK (QD I)<|QK (QH I Bl QS)<|QK (wP I QS .u1) ?_);refine QK (QH I Bk QS)<|QK (wR I QS .u1)<|QK (Q4 I Z2 Jk (.cons (vs:=[_,_,_,_]) I I I .h4 (.cons (vs:=[_,_,_,_]) I I I (.skip (.skip (.skip (.skip .h4)))) .nil)))<|QK (QD I)<|QR I (λw F Z ⟨⟨⟨⟨X,Q,Y⟩,h11⟩,L⟩,hS⟩=>Dy (pa:=el y.ps i.i) (x:=⟨x.fr,x.Sd⟩) (t:=(fr,t2)) Z (X.at u).1 ⟨Q.fr,Q.Sd⟩ Y S (hpn _ V) (by rw[K];exact hk.ev _ O)) λc42=>?_
  rw[K];refine QR I (λ_ _ f k=>Ud (x:=⟨P,N⟩) (y:=c42) (a:=(0,t2-fr)) (b:=(J3 ((fr,t2)::g) (el rs i.i))) f ⟨k.1.1.1.2,k.1.1.2⟩ k.2 ⟨by show JW 0<=_;decide,by show JW (t2-fr)<=_;omega⟩ ((hk.sz _ O).mono tF)) (λc43=>QR I (λ_ _ f k=>MW (x:=(el x.bl i.i).1) (y:=c43) (a:=el vx i.i) (b:=Jg (0,t2-fr) (J3 ((fr,t2)::g) (el rs i.i))) f (k.1.1.1.1.1.2.1.bx.at H) k.2 ((hk.bx _ (Qw O)).mono tF) ((K7 (m:=3000000) (n:=10000000) ⟨by show JW 0<=_;decide,by show JW (t2-fr)<=_;omega⟩ (hk.sz _ O)).mono tF)) λM=>?_);refine Qo I (Q5 JO) Qk Jk I I (λb45=>?_) (λw h=>h.imp tS λF h=>h.1.1.1);refine Y6 (af (l₁:=[_,_])) ?_;refine Yz (n:=i.i) (k:=1) (sz:=8) (news:=Xs M) rfl rfl JO Qk Jk I Wh i.hr (Src.row (off:=0) tO (λj q hq=>by rw[ay];rw[ag];exact hq) rfl) O O (KY _) we (λ_ h=>h.1.1.1.1) (λv46 ob46 E=>?_);refine Y6 (af (l₂:=[_,_]))<|QK (QF I)<|Q7<|Qj<|QC<|QB<|QA (Qu I I O)<|wB 2 I ?_
  exact Ql (i.next u M _ E rfl) (by show y.rt.n-(i.i+1)<y.rt.n-i.i;omega) w6 we λF ⟨⟨⟨⟨⟨⟨⟨⟨X,Q,Y⟩,h11⟩,L⟩,hS⟩,h42⟩,h43⟩,h44⟩,hs45⟩=>⟨⟨⟨⟨X,Q,Y⟩,h11⟩,L⟩,hS.snoc h44⟩
 have U:i.i=y.rt.n:=tD<|wj hc
 refine Qx ?_
 repeat first|refine QY ?_|refine QO tH ?_
 refine QZ<|wE 3 I ?_
 have hxl:=i.len;obtain⟨⟨rq,rn,rc⟩,R,C,D,o⟩:=Q8.fix (w0:=w) (F0:=F) (bs1:=[_,_]) (G:=_) i.hr;dsimp only at C D o;subst C;refine Zj o ?_;rw[R];dsimp only[Sr.v];refine wD 5 I ?_;exact QP ((⟨rq,i.i,rc⟩,i.l)) I (wT I) (rfl) λF h9=>by have:=i.box U (r:=⟨rq,i.i,rc⟩) h9.2 I D h9.1.2;unfold YP;rw[B,<-hn];exact this
structure QH1(f:Nat->Rat×Rat)(n:Nat) where
 v:Value
 ob:List (Nat×Obj)
 l:List Yx
 hr:Q8 168 8 v n (Xl l) ob
 hl:l.map (·.2)=(aE n).map f
def L6(a:Rat)(k:Nat):Rat×Rat:=if k=0 then(a,a)else(0,0)
theorem Uh(a:Rat)(n:Nat):(aE (n+1)).map (L6 a)=Ek a n:=by
 unfold Ek;rw[List.range_succ_eq_map,aR,aY];congr 1;apply bO
 ·simp
 intro i h1 h2;simp[L6]
structure CsJ(n:Nat)(a:Rat) where
 s:Wn (n+1) (L6 a)
 j:Nat
 hj:s.i=j+1
structure QAS(va vb:List (Rat×Rat)):Prop where
 el:∀k,k<va.length->Xf (el va k) 20000000/\Xf (el vb k) 20000000
 cv:∀k,k<va.length->∀i,i<=k+1->Xf (DM va vb k i) 50000000
theorem Ro(a b:List (Rat×Rat))(k j:Nat):DM a b k (j+1)=Vz (DM a b k j) (Jg (el a j) (el b (k-j))):=by
 unfold DM;rw[aM,aO];rfl
theorem xz(a b:List (Rat×Rat)):(aE a.length).map (λk=>Vz (el a k) (el b k))=My a b:=rfl
structure QFv(bs:List (Nat×Obj))(b n c:Nat)(l:List Yx) where
 rest:List Value
 hm:(b,bQ (Xl l++rest).toArray 168 (0,0))∈bs
 hl:l.length=n
theorem zM{l:List Yx}{j:Nat}{v:Value}(h:k<l.length)(b:(Xs (el l k).1)[j]?=some v):(Xl l++rest)[0+k*8+j]?=some v:=by
 have h1:(Xl l)[k*8+j]?=some v:=JN (f:=λe:Yx=>Xs e.1) (k:=8) (λ_=>rfl) h b;have a:k*8+j<(Xl l).length:=by
  rcases bp (k*8+j) (Xl l).length with g | g
  ·exact g
  rw[bc g]at h1;cases h1
 rw[ay,bC a];exact h1
theorem Rq{x:Fr}{a:Rat}{n:Nat}(C:∀F,G F->JR F x a)(H:n<=1000):XN prog 205 [x.v,.int .i64 (n:Int)] ⟨w0,F0,bs,G⟩ (λ(c:QH1 (L6 a) (n+1))=>.agg #[c.v]) (λc=>⟨w0,F0,c.ob++bs,λF=>G F/\YA F c.l⟩):=by
 refine XN.intro func205 rfl tH rfl rfl<|wa<|Qp rfl (vs:=[_,_,_,_]) rfl λb2=>Qc WT λb4=>wY<|wa<|QA (wP I QS .u1)<|QI rfl (λ_ _ f k=>Kc (x:=x) (r:=a) f (C _ k)) λy=>Y2 rfl (Q5 JO) Qk Jk rfl rfl λK=>QA (Q4 rfl zD WT (.cons (vs:=[_]) rfl rfl rfl .h1 .nil))<|Qc WT λD=>QW (vs:=[_]) rfl rfl rfl XK rfl .here .h1 wk<|wD 4 I<|kX (.cons _ (List.perm_middle (l₁:=[_,_])).symm)<|QB<|wW rfl<|wW rfl<|QE<|QC ?_
 refine QV<|JU (ι:=CsJ n a) [(4,_),(5,_),(10,_)] (λi=>[(11,.int .i64 ((i.j:Nat):Int))]) (λi=>(D,.cells [i.s.v].toArray 173 (0,0))::(b4,.cells [.slice none 0 0].toArray 173 (0,0))::(b2,.cells (Kj x).toArray 135 (0,0))::(i.s.ob++bs)) (λi F=>YA F i.s.l) (λi=>n-i.j) (⟨⟨1,_,_,[(y,(a,a))],O,.some (n:=1) (l:=Xl [(y,(a,a))]) (rest:=[]) rfl rfl (aD _) tF,rfl⟩,0,rfl⟩) wu wk we (λ_ h=>by intro e he;rw[List.mem_singleton.1 he];exact h.2) λi=>?_
 simp only[aa,ab];have hi:=i.s.le;have A:=i.hj;refine wA 6 I ?_;refine QQ I (λhc=>?_) λhc=>?_
 ·have z:i.j<n:=tD<|wi hc
  refine wC 4 I<|Jq 7 tT mixed tE tE ?_
  simp only[aA,aG,aB,aJ];refine QK (QH I Xk JH)<|QK (Qe I JH .here .h1)<|QR I (λ_ _ f k=>TN (n:=0) f tF tF) λu=>QR I (λ_ _ f k=>Kc (x:=u) (r:=((0:Int):Rat)) f k.2) λm=>?_
  refine Qo I (Q5 JO) Qk Jk I I (λE=>?_) (λw h=>h.imp tT λF h=>h.1.1);refine Y6 (aN [_,_,_] i.s.ob bs) ?_;refine Yz (n:=i.s.i) (k:=1) (sz:=8) (news:=Xs m) rfl rfl JO Qk Jk I Wh i.s.hr (Src.row (off:=0) tO (λj q hq=>by rw[ay];rw[ag];exact hq) rfl) O O (KY _) tT (λ_ h=>h.1.1.1) (λo g b=>?_);refine Y6 (aN g [_,_,_] bs)<|QK (QH I Xk JH)<|ZS<|QW (vs:=[o]) I I b.one.2 JH I .here .h1 ⟨b.one.1,trivial⟩<|QE<|Qj<|QC<|QB<|QA (Qu I I O)<|wB 2 I ?_
  exact Ql (⟨i.s.next O m (L6 a i.s.i) b rfl,i.j+1,by show i.s.i+1=_;omega⟩) (by show n-(i.j+1)<n-i.j;omega) wv we λF h9=>⟨⟨h9.1.1.1.1.1,h9.1.1.1.1.2⟩,h9.1.1.1.2.snoc (by rw[show L6 a i.s.i=(((0:Int):Rat),((0:Int):Rat)) by unfold L6;rw[if_neg O];rfl];exact h9.1.2)⟩
 have B:i.j=n:=tD<|wj hc
 refine Qx ?_
 repeat first|refine QY ?_|refine QO tH ?_
 refine QZ<|QC<|wa<|QA (QJ (vs:=[_]) I XK .here .h1 rfl)<|QW (vs:=[i.s.v]) I I I XK I .u1 .h1 ⟨i.s.hr.one.1,trivial⟩<|wY<|QX ?_
 exact Y3 (⟨i.s.v,i.s.ob,i.s.l,by have e:i.s.i=n+1:=O;have h:=i.s.hr;rw[e]at h;exact h,by rw[i.s.hl,show i.s.i=n+1 by omega]⟩) I (.JX (c:=[_]) I XK .u1 .nil) (rfl) λw h=>h.imp (.cons _ (.cons _ (.cons _ we))) λF h9=>⟨h9.1.1,h9.2⟩
theorem Rp{x:Fr}{a:Rat}{n:Nat}(z:Fits F w)(A:JR F x a)(y:n<=1000):QU prog 205 [x.v,.int .i64 (n:Int)] w F (λ(c:Sr×List Yx)=>.agg #[c.1.v]) (λc F=>J7 F c.1 c.2 (Ek a n)):=by
 have h:=Rq (w0:=w) (F0:=F) (bs:=[]) (G:=λF'=>Gs.le F F') (x:=x) (a:=a) (λF' h=>A.le h) y;refine⟨h.1,(h.2 w (St.start z λ_ h=>h)).mono ?_⟩;rintro e w' ⟨c,rfl,m⟩;dsimp only at m;rw[aK]at m;obtain⟨s,u,b,o,k⟩:=Q8.fix (w0:=w) (F0:=F) (bs1:=[]) c.hr;obtain⟨F',i⟩:=k w' m;exact⟨(s,c.l),F',by show Ending.returned (.agg #[c.v])=_;rw[u],i.ext,i.le,i.old,i.fits,λF'' j=>⟨by rw[b];exact(i.g F'' j).2,(i.g F'' j).1.2,by rw[c.hl,Uh],by rw[b,<-ae (f:=λe:Yx=>e.2),c.hl];simp,by rw[b];exact o⟩⟩
theorem QBL(X:Fits F w)(ha:J7 F ra la va)(hb:J7 F rb lb vb)(hn:ra.n<=rb.n)(V:ra.n<=1000000)(E:∀x∈va,Xf x 100000000)(D:∀x∈vb,Xf x 100000000):
  QU prog 207 [.agg #[ra.v],.agg #[rb.v]] w F (λ(c:Sr×List Yx)=>.agg #[c.1.v]) (λc F=>J7 F c.1 c.2 (My va vb)):=by
 have H:=ha.YI;have S:=hb.YI;have U:=ha.len;have T:=hb.len;dsimp only[Sr.v];refine QU.intro (G:=λF=>J7 F ra la va/\J7 F rb lb vb) func207 rfl tH rfl rfl X (λF' A=>⟨ha.le A,hb.le A⟩)<|wa<|Qp rfl (vs:=[_]) rfl λb2=>Qp rfl (vs:=[_]) rfl λb3=>Qc WT λb4=>wY<|wa<|Qc WT λY=>wD 5 I<|QA (QH rfl Xk JH)<|QA (Qe rfl JH .u3 .h1)<|QA (Qg rfl JO)<|wW rfl<|wY<|QV<|JU (ι:=Wn (ra.n) λk=>Vz (el va k) (el vb k)) [(2,_),(3,_),(4,_),(5,_),(9,_)] (λi=>[(10,.int .i64 ((i.i:Nat):Int))]) (λi=>(Y,.cells [i.v].toArray 173 (0,0))::(b4,.cells [.slice none 0 0].toArray 173 (0,0))::(b3,.cells [.slice rb.q rb.n rb.cap].toArray 173 (0,0))::(b2,.cells [.slice ra.q ra.n ra.cap].toArray 173 (0,0))::i.ob) (λi F=>YA F i.l) (λi=>(ra.n)-i.i) (Wn.start _ _) wy wk we (λ_ _=>YA.nil _) λi=>?_
 simp only[aa,ab];have hi:=i.le;refine wA 6 I ?_;refine QQ I (λhc=>?_) λhc=>?_
 ·have z:i.i<ra.n:=tD<|wi hc
  refine wC 10 I<|Jq 17 (.cons_cons _ (.cons_cons _ (.cons_cons _ (.cons_cons _ tQ)))) mixed tE tE ?_
  simp only[aA,aG,aB,aJ];refine QK (QH I Xk JH)<|QK (Qe I JH .here .h1)<|QK (QH I Xk JH)<|QK (Qe I JH .u3 .h1)<|QK (QD I)<|QK (Q3 (n:=ra.n) i.i (λF h9=>h9.1.1.row) rfl rfl JO Qk O)<|QK (JZ (n:=ra.n) (vs:=[.int .i64 (el la i.i).1.lo.n.s,.slice (el la i.i).1.lo.n.q (el la i.i).1.lo.n.n (el la i.i).1.lo.n.cap,.int .i64 (el la i.i).1.lo.d.s,.slice (el la i.i).1.lo.d.q (el la i.i).1.lo.d.n (el la i.i).1.lo.d.cap,.int .i64 (el la i.i).1.hi.n.s,.slice (el la i.i).1.hi.n.q (el la i.i).1.hi.n.n (el la i.i).1.hi.n.cap,.int .i64 (el la i.i).1.hi.d.s,.slice (el la i.i).1.hi.d.q (el la i.i).1.hi.d.n (el la i.i).1.hi.d.cap]) ((i.i)*8) (λF h9=>h9.1.1.row) O rfl Qk I λj v L=>JN (f:=(λe=>Xs e.1)) (l:=la) (λ_=>rfl) O L)<|kZ (v:=(el la i.i).1.v) rfl (λ_=>tE)<|QK (QH I Xk JH)<|QK (Qe I JH .u2 .h1)<|QK (QD I)<|QK (Q3 (n:=rb.n) i.i (λF h9=>h9.1.2.row) rfl rfl JO Qk O)<|QK (JZ (n:=rb.n) (vs:=[.int .i64 (el lb i.i).1.lo.n.s,.slice (el lb i.i).1.lo.n.q (el lb i.i).1.lo.n.n (el lb i.i).1.lo.n.cap,.int .i64 (el lb i.i).1.lo.d.s,.slice (el lb i.i).1.lo.d.q (el lb i.i).1.lo.d.n (el lb i.i).1.lo.d.cap,.int .i64 (el lb i.i).1.hi.n.s,.slice (el lb i.i).1.hi.n.q (el lb i.i).1.hi.n.n (el lb i.i).1.hi.n.cap,.int .i64 (el lb i.i).1.hi.d.s,.slice (el lb i.i).1.hi.d.q (el lb i.i).1.hi.d.n (el lb i.i).1.hi.d.cap]) ((i.i)*8) (λF h9=>h9.1.2.row) O rfl Qk I λj v L=>JN (f:=(λe=>Xs e.1)) (l:=lb) (λ_=>rfl) O L)<|ka (v:=(el la i.i).1.v) (vs:=[(el lb i.i).1.v]) I I (λ_=>tE) (λ_ _ f k=>MW (x:=(el la i.i).1) (y:=(el lb i.i).1) (a:=el va i.i) (b:=el vb i.i) f (k.1.1.at z) (k.1.2.at (show i.i<rb.n by omega)) (E _ (Qw O)) (D _ (Qw O))) λB=>?_
  refine Qo I (Q5 JO) Qk Jk I I (λZ=>?_) (λw h=>h.imp (.cons_cons _ (.cons_cons _ (.cons_cons _ (.cons_cons _ tQ)))) tN);refine Y6 (af (l₁:=[_,_,_,_])) ?_;refine Yz (n:=i.i) (k:=1) (sz:=8) (news:=Xs B) rfl rfl JO Qk Jk I Wh i.hr (Src.row (off:=0) tO (λj q hq=>by rw[ay];rw[ag];exact hq) rfl) O O (KY _) we (λ_ h=>h.1.1) (λC Q g=>?_);refine Y6 (af (l₂:=[_,_,_,_]))<|QK (QH I Xk JH)<|ZS<|QW (vs:=[C]) I I g.one.2 JH I .here .h1 ⟨g.one.1,trivial⟩<|QE<|Qj<|QC<|QB<|QA (Qu I I O)<|wB 2 I ?_
  exact Ql (i.next z B _ g rfl) (by show ra.n-(i.i+1)<ra.n-i.i;omega) wz we λF h9=>⟨⟨h9.1.1.1.1,h9.1.1.1.2⟩,h9.1.1.2.snoc h9.1.2⟩
 have M:i.i=ra.n:=tD<|wj hc
 refine Qx ?_
 repeat first|refine QY ?_|refine QO tH ?_
 refine QZ<|wE 3 I ?_
 have R:=i.len;obtain⟨⟨N,rn,P⟩,K,o,u,m⟩:=Q8.fix (w0:=w) (F0:=F) (bs1:=[_,_,_,_]) (G:=_) i.hr;dsimp only at o u m;subst o;refine Zj m ?_;rw[K];dsimp only[Sr.v];refine QA (QJ (vs:=[_]) I XK .here .h1 rfl)<|QW (vs:=[_]) I I I XK I .u1 .h1 wk<|wY<|QX ?_
 exact QP ((⟨N,i.i,P⟩,i.l)) I (.JX (c:=[_]) I XK .u1 .nil) (rfl) λF h9=>by have:=i.box M (r:=⟨N,i.i,P⟩) h9.2 I u h9.1.2;rw[<-xz,H];exact this
theorem gD{nb cb:Nat}(ha:∀F,G F->J7 F ra la va)(S:QFv bs bb nb cb lb)(L:lb.map (·.2)=vb)(Q:∀F,G F->YA F lb)(hla:la.length=ra.n)(M:va.length=ra.n)(hn:ra.n<=nb)(hbn:ra.n<=1000000)(B:QAS va vb):
  XN prog 276 [.agg #[ra.v],.agg #[.slice (some ⟨bb,0,none⟩) nb cb]] ⟨w0,F0,bs,G⟩ (λ(c:Sr×List Yx)=>.agg #[c.1.v]) (λc=>⟨w0,F0,bs,λF=>G F/\J7 F c.1 c.2 (H2 va vb)⟩):=by
 obtain⟨rest,hm,hll⟩:=S;obtain⟨fo,U⟩:=O3 hm;have E:∀k,k<nb->(el lb k).2=el vb k:=λk hk=>by rw[<-L,Jb (show k<lb.length by omega),Jb (by rw[ae];omega),aL]
 dsimp only[Sr.v];refine XN.intro func276 rfl tH rfl rfl<|wa<|Qp rfl (vs:=[_]) rfl λb2=>Qp rfl (vs:=[_]) rfl λb3=>Qc WT λb4=>wY<|wa<|Qc WT λb5=>wD 5 I<|QA (QH rfl Xk JH)<|QA (Qe rfl JH .u3 .h1)<|QA (Qg rfl JO)<|wW rfl<|wY<|QV<|JU (ι:=Wn (ra.n) λk=>DM va vb k (k+1)) [(2,_),(3,_),(4,_),(5,_),(11,_)] (λi=>[(12,.int .i64 ((i.i:Nat):Int))]) (λi=>(b5,.cells [i.v].toArray 173 (0,0))::(b4,.cells [.slice none 0 0].toArray 173 (0,0))::(b3,.cells [.slice (some ⟨bb,0,none⟩) nb cb].toArray 173 (0,0))::(b2,.cells [.slice ra.q ra.n ra.cap].toArray 173 (0,0))::(i.ob++bs)) (λi F=>YA F i.l) (λi=>(ra.n)-i.i) (Wn.start _ _) wy wk we (λ_ _=>YA.nil _) λi=>?_
 simp only[aa,ab];have hi:=i.le;refine wA 6 I ?_;refine QQ I (λhc=>?_) λhc=>?_
 ·have R:i.i<ra.n:=tD<|wi hc
  refine wC 12 I<|QI I (λ_ _ f k=>TN (n:=0) f tF tF) λc15=>QI I (λ_ _ f k=>Kc (x:=c15) (r:=((0:Int):Rat)) f k.2) λc16=>Qc Jk λb7=>QW (vs:=[_,_,_,_,_,_,_,_]) I I I Qk I .here .h8 w8<|wD 6 I<|QA (Qu I I O)<|wB 2 I ?_
  refine QC<|QV<|JU (ι:=VaI (i.i+1)) [(2,_),(3,_),(4,_),(5,_),(6,_),(7,_),(11,_),(12,_),(18,_)] (λg=>[(19,.int .i64 ((g.i:Nat):Int))]) (λg=>(b7,.cells (Xs g.x).toArray 168 (0,0))::(b5,.cells [i.v].toArray 173 (0,0))::(b4,.cells [.slice none 0 0].toArray 173 (0,0))::(b3,.cells [.slice (some ⟨bb,0,none⟩) nb cb].toArray 173 (0,0))::(b2,.cells [.slice ra.q ra.n ra.cap].toArray 173 (0,0))::(i.ob++bs)) (λg F=>Jl F g.x (DM va vb i.i g.i)) (λg=>i.i+1-g.i) (⟨0,c16,ao _⟩) w9 wk we tO λg=>?_
  simp only[aa,ab];have hj:=g.le;refine wA 6 I ?_;refine QQ I (λhc=>?_) λhc=>?_
  ·have C:g.i<i.i+1:=tD<|wi hc
   refine wC 10 I<|Jq 15 we mixed tE tE ?_
   simp only[aA,aG,aB,aJ];refine QK (wQ I Qk .here)<|QK (QH I Xk JH)<|QK (Qe I JH .u4 .h1)<|QK (QD I)<|QK (Q3 (n:=ra.n) (g.i) (λF h9=>(ha _ h9.1.1.1.1).row) rfl rfl JO Qk O)<|QK (JZ (n:=ra.n) (vs:=[.int .i64 (el la (g.i)).1.lo.n.s,.slice (el la (g.i)).1.lo.n.q (el la (g.i)).1.lo.n.n (el la (g.i)).1.lo.n.cap,.int .i64 (el la (g.i)).1.lo.d.s,.slice (el la (g.i)).1.lo.d.q (el la (g.i)).1.lo.d.n (el la (g.i)).1.lo.d.cap,.int .i64 (el la (g.i)).1.hi.n.s,.slice (el la (g.i)).1.hi.n.q (el la (g.i)).1.hi.n.n (el la (g.i)).1.hi.n.cap,.int .i64 (el la (g.i)).1.hi.d.s,.slice (el la (g.i)).1.hi.d.q (el la (g.i)).1.hi.d.n (el la (g.i)).1.hi.d.cap]) ((g.i)*8) (λF h9=>(ha _ h9.1.1.1.1).row) O rfl Qk I λj v P=>JN (f:=(λe=>Xs e.1)) (l:=la) (λ_=>rfl) O P)<|QK (QH I Xk JH)<|QK (Qe I JH .u3 .h1)<|QK (QD I)<|QK (QD I)<|QK (X3 I I O)<|QK (JL (i:=i.i-g.i) rfl wS JO Qk O)<|QK (Ak (vs:=Xs (el lb (i.i-g.i)).1) rfl Qk (.there (.there (.there (.there (.there (U.skip i.ob)))))) I λj v P=>zM O P)<|QR I (λ_ _ f k=>Ud (x:=(el la g.i).1) (y:=(el lb (i.i-g.i)).1) (a:=el va g.i) (b:=el vb (i.i-g.i)) f ((ha _ k.1.1.1.1).at (show g.i<ra.n by omega)) (by rw[<-E _ (show i.i-g.i<nb by omega)];exact Q _ k.1.1.1.1 _ (Qw O)) (B.el g.i O).1 (B.el (i.i-g.i) O).2) λZ=>QR I (λ_ _ f k=>MW (x:=g.x) (y:=Z) (a:=DM va vb i.i g.i) (b:=Jg (el va g.i) (el vb (i.i-g.i))) f k.1.2 k.2 ((B.cv _ O _ O).mono tF) ((K7 (B.el g.i O).1 (B.el (i.i-g.i) O).2).mono tF)) λH=>ZS<|QW (vs:=[_,_,_,_,_,_,_,_]) I I I Qk I .here .h8 w8<|QE<|Qj<|QC<|QB<|QA (Qu I I O)<|wB 2 I ?_
   exact Ql (⟨g.i+1,H,C⟩) (by show i.i+1-(g.i+1)<i.i+1-g.i;omega) tA we λF ⟨⟨⟨⟨⟨⟨hG,hS⟩,Y⟩,X⟩,hY⟩,h35⟩,V⟩=>⟨⟨⟨⟨hG,hS⟩,Y⟩,X⟩,by show Jl F H (DM va vb i.i (g.i+1));rw[Ro];exact V⟩
  have D:g.i=i.i+1:=tD<|wj hc
  refine Qx ?_
  repeat first|refine QY ?_|refine QO tH ?_
  refine QZ<|QC<|QB<|QA (QH I Xk JH)<|QA (Qe I JH .u1 .h1)<|QA (wQ I Qk .here)<|Qb I (Q5 JO) Qk Jk I I λb41=>ZL (aN [_,_,_,_,_] i.ob bs) ?_
  refine Mf (bs:=[_,_,_,_,_]++bs) (n:=i.i) (k:=1) (sz:=8) (news:=Xs g.x) rfl rfl JO Qk Jk I Wh i.hr (Src.row (off:=0) tO (λj q hq=>by rw[ay];rw[ag];exact hq) rfl) O O (KY _) (λK u m=>?_);refine ZL (aN u [_,_,_,_,_] bs)<|QA (QH I Xk JH)<|QW (vs:=[K]) I I m.one.2 JH I .u1 .h1 ⟨m.one.1,trivial⟩<|QE<|Qj<|QC<|QB<|QA (Qu I I O)<|wB 2 I ?_
  exact Ql (i.next R g.x _ m rfl) (by show ra.n-(i.i+1)<ra.n-i.i;omega) wz (.cons _ we) λF h9=>⟨h9.1.1.1.1.1,h9.1.1.1.1.2.snoc (by have e:=h9.1.2;rw[D]at e;exact e)⟩
 have T:i.i=ra.n:=tD<|wj hc
 refine Qx ?_
 repeat first|refine QY ?_|refine QO tH ?_
 refine QZ<|QC<|wa<|ZL (.cons _ (.cons _ (.cons _ (.cons _ af)))) ?_
 have hxl:=i.len;obtain⟨⟨rq,rn,rc⟩,N,z,A,o⟩:=Q8.fix (w0:=w0) (F0:=F0) (bs1:=_::_::_::_::bs) (G:=_) i.hr;dsimp only at z A o;subst z;refine Zj o ?_;rw[N];dsimp only[Sr.v];refine QA (QJ (vs:=[_]) I XK .here .h1 rfl)<|QW (vs:=[_]) I I I XK I .u1 .h1 wk<|wY<|QX ?_
 exact Y3 ((⟨rq,i.i,rc⟩,i.l)) I (.JX (c:=[_]) I XK .u1 .nil) (rfl) λw h=>h.imp (.cons _ (.cons _ (.cons _ (.cons _ we)))) λF h9=>⟨h9.1.1,by have:=i.box T (r:=⟨rq,i.i,rc⟩) h9.2 I A h9.1.2;unfold H2;rw[M];exact this⟩
section
variable[Dr][df:Df]{P:Program}{Q:Exit->Act->World->Prop}{N:Nat}{m:Sl}{E:Env}{ops:Array Oper}{l:List Oper}{d:Nat}{ty:TypeId}{pos:String}{aft:Array Edge}
theorem QAW{o:Op}{v:Value}(h:Qt P N m (St E) o ty v)(k:JSI P ops Q l N ((d,v)::m) E)(b:(match o with | .defer _=>false | _=>true)=true:=by rfl)(hd:J5 N (some d)=true:=by rfl):JSI P ops Q (⟨some d,o,ty,pos,aft,none⟩::l) N m E:=by
 intro a w ha g;refine wpListIn_plain rfl λK i=>?_;refine⟨λf _=>trivial,?_⟩;rw[Oper.semAt_plain bm a.eval _ (λc e=>by have j:o = .defer c:=e;subst j;cases b),h a w (some d) pos aft none ha g];exact i _ _ (k _ w (ha.put hd v) g)
theorem q7{b:Nat}(h:JSI P l.toArray Q l N m E):J P (.region b l.toArray false) Q N m E:=λa w ha c=>wpIn_wide.1 (wpIn_region_lit (h a w ha c))
end
structure VL where
 b:Nat
 c:Nat
 l:List Yx
instance :Inhabited VL:=⟨⟨0,0,[]⟩⟩
def VL.q(e:VL):List (Rat×Rat):=e.l.map (·.2)
structure VL.In(bs:List (Nat×Obj))(n:Nat)(e:VL):Prop where
 hm:∃rest,(e.b,bQ (Xl e.l++rest).toArray 168 (0,0))∈bs
 hl:e.l.length=n
 hc:n<=e.c
def QFo(l:List Tm)(all:List (List (Rat×Rat)))(n:Nat):Prop:=∀t∈l,(t.2.length=all.length/\∀k∈t.2,0<=k/\k<=1000)/\∀v,v<t.2.length->∀i,i<(Qm t.2 v).toNat->QAS (NW (B4 t.1 t.2 all n v) (el all v) i) (el all v)
theorem TF(c:Rat)(ks:List Int)(all:List (List (Rat×Rat)))(n i:Nat):B4 c ks all n (i+1)=NW (B4 c ks all n i) (el all i) (Qm ks i).toNat:=by
 unfold B4;rw[aM,aO];rfl
theorem Sx(y b:List (Rat×Rat))(n:Nat):NW y b (n+1)=H2 (NW y b n) b:=by
 unfold NW;rw[aM,aO];rfl
structure TsI{ι:Type}(pos:ι->Nat)(n:Nat) where
 i:Nat
 s:ι
 le:i<=n
 hp:pos s=i
structure TsJ(n:Nat) where
 i:Nat
 y:Sr×List Yx
 le:i<=n
theorem jy{B:ι->List (Nat×Obj)}{H:ι->Gs->Prop}{pos:ι->Nat}{p:WS}{b1 b2 b3 b4 L n bv cv:Nat}{e0:VL}{ls:List VL} 
  (A:∀s F,H s F->(F b1=some (#[p.1.v],190)/\F b2=some (#[.int .i64 (n:Int)],3)/\F b3=some (#[.slice (some ⟨e0.b,0,none⟩) (n+1) e0.c],173)/\F b4=some (#[.slice (some ⟨bv,0,none⟩) ls.length cv],163))/\XU F p.1 p.2 (J4 p.2)/\∀e∈e0::ls,YA F e.l) (hPn:p.2.length=p.1.n) (hpl:p.2.length<=1000000) (hn:n<=1000) (hls:ls.length<=1000)
  (hB:∀s,∀e∈e0::ls,e.In (B s) (n+1)) (hV:∀s,(bv,bQ (ls.map λe=>.slice (some ⟨e.b,0,none⟩) (n+1) e.c).toArray 173 (0,0))∈B s) (Z:QFo (J4 p.2) ((e0::ls).map VL.q) n)
  (E:∀(G:Gs->Prop) (C:List (Nat×Obj)) (s:ι) (i:Nat) (y:Sr×List Yx) (W:World),i<p.2.length->pos s=i ->
   St ⟨w0,F0,B s++C,λF=>(G F/\H s F)/\J7 F y.1 y.2 (B4 (el p.2 i).t.1 (el p.2 i).t.2 ((e0::ls).map VL.q) n ((e0::ls).map VL.q).length)⟩ W->YieldAt bm 0 prog L #[.agg #[y.1.v]] W λe W'=>e = .returned (.bool true)/\∃s',pos s'=pos s+1/\St ⟨w0,F0,B s'++C,λF=>G F/\H s' F⟩ W')
  (S:ι) (h0:pos S=0) :
  XN prog 275 [.func (.yield L) #[] #[],.pointer (some ⟨b1,0,none⟩),.pointer (some ⟨b2,0,none⟩),.pointer (some ⟨b3,0,none⟩),.pointer (some ⟨b4,0,none⟩)] ⟨w0,F0,B S,H S⟩ (λ(_:{ s:ι // pos s=p.2.length })=>.tuple #[]) (λs=>⟨w0,F0,B s.1,H s.1⟩):=by
 have hal:((e0::ls).map VL.q).length=ls.length+1:=tJ;refine XN.intro func275 rfl tH rfl rfl<|wa<|QA (Zq (c:=#[p.1.v]) (T':=190) rfl YJ (λF P=>(A _ _ P).1.1) rfl)<|QA (Qg rfl Yt)<|wW rfl<|wY<|QV ?_
 refine JU (ι:=TsI pos p.2.length) [(0,_),(2,_),(3,_),(4,_),(12,_),(13,_)] (λi=>[(14,.int .i64 ((i.i:Nat):Int))]) (λi=>B i.s) (λi F=>H i.s F) (λi=>p.2.length-i.i) (⟨0,S,ao _,h0⟩) wz wk we tM (λi=>?_);simp only[aa,ab];have hi:=i.le;refine wA 6 I ?_;refine QQ I (λhc=>?_) λhc=>?_
 ·have Q:i.i<p.2.length:=tD<|wi hc
  have D:=Qw Q;have htA:(el p.2 i.i).t∈J4 p.2:=aj D;have Z:=Z _ htA;have hol:=Z.1.1;refine XV _ (λ_ _ f h=>((A _ _ h.1).2.1.2.1 _ D).2.2.1) (λhrl=>?_);refine wC 6 I<|QA (Q3 (n:=p.1.n) i.i (λF h9=>(A _ _ h9.1).2.1.1) rfl rfl Yt Xw O)<|QA (JZ (n:=p.1.n) (vs:=[.int .i64 (el p.2 i.i).x.n.s,.slice (el p.2 i.i).x.n.q (el p.2 i.i).x.n.n (el p.2 i.i).x.n.cap,.int .i64 (el p.2 i.i).x.d.s,.slice (el p.2 i.i).x.d.q (el p.2 i.i).x.d.n (el p.2 i.i).x.d.cap,.slice (el p.2 i.i).r.q (el p.2 i.i).r.n (el p.2 i.i).r.cap]) ((i.i)*5) (λF h9=>(A _ _ h9.1).2.1.1) O rfl Xw I λj v hv=>JN (f:=WQ) (l:=p.2) Bf O hv) ?_
  refine Qc GN (λb7=>?_);refine QW (vs:=[_,_,_,_,_]) I I I Xw I .here .h5 wy<|wY<|wa<|QA (QH I Wy QS)<|QA (wP I QS .here)<|QA (Zq (c:=#[.int .i64 (n:Int)]) (T':=3) rfl JK (λF h9=>(A _ _ h9.1).1.2.1) rfl) ?_
  refine QI I (λ_ _ f k=>Rp (x:=(el p.2 i.i).x) (a:=(el p.2 i.i).t.1) (n:=n) f ((A _ _ k.1).2.1.2.1 _ D).1 hn) (λc21=>?_);refine Qc WT (λb8=>?_);refine QW (vs:=[_]) I I I XK I .here .h1 wk<|wD 5 I<|QA (QH I V7 JM)<|QA (Qe I JM .u1 (.skip (.skip (.skip (.skip .h1)))))<|QA (Qg I Q2)<|wD 4 I ?_
  refine JU (ι:=TsJ (el p.2 i.i).t.2.length) [(0,_),(2,_),(3,_),(4,_),(8,_),(12,_),(13,_),(14,_),(23,_),(24,_)] (λg=>[(25,.int .i64 ((g.i:Nat):Int))]) (λg=>(b8,.cells [.slice g.y.1.q g.y.1.n g.y.1.cap].toArray 173 (0,0))::(b7,.cells (WQ (el p.2 i.i)).toArray 263 (0,0))::B i.s) (λg F=>J7 F g.y.1 g.y.2 (B4 (el p.2 i.i).t.1 (el p.2 i.i).t.2 ((e0::ls).map VL.q) n g.i)) (λg=>(el p.2 i.i).t.2.length-g.i) (⟨0,c21,ao _⟩) tA wk we tO (λg=>?_);simp only[aa,ab];have hj:=g.le;refine wA 6 I ?_;refine QQ I (λhc=>?_) λhc=>?_
  ·have u:g.i<(el p.2 i.i).t.2.length:=tD<|wi hc
   have hk12:0<=Qm (el p.2 i.i).t.2 g.i/\Qm (el p.2 i.i).t.2 g.i<=1000:=by rw[YW u];exact Z.1.2 _ (Qw u)
   refine wC 7 I<|QA (Q3 (n:=(el p.2 i.i).r.n) (g.i) (λF h9=>(((A _ _ h9.1.1.1).2.1.2.1 _ D).2).1) rfl rfl Q2 JK O)<|QA (JA (n:=(el p.2 i.i).r.n) ((g.i)*1) (λF h9=>(((A _ _ h9.1.1.1).2.1.2.1 _ D).2).1) O rfl JK (Jz (o:=(el p.2 i.i).t.2) O))<|wD 6 I<|QA (Aj (c:=#[.slice (some ⟨e0.b,0,none⟩) (n+1) e0.c]) (T':=173) (vs:=[_]) I XK (λF h9=>(A _ _ h9.1.1.1).1.2.2.1) rfl λj v hv=>by rw[ay];simpa using hv) ?_
   refine Qc WT (λb11=>?_);refine QW (vs:=[_]) I I I XK I .here .h1 wk<|QE<|QC ?_
   refine Us (ι:=VL) [(0,_),(2,_),(3,_),(4,_),(8,_),(10,_),(11,_),(12,_),(13,_),(14,_),(23,_),(24,_),(25,_)] (λz=>[]) (λz=>(b11,.cells [.slice (some ⟨z.b,0,none⟩) (n+1) z.c].toArray 173 (0,0))::(b8,.cells [.slice g.y.1.q g.y.1.n g.y.1.cap].toArray 173 (0,0))::(b7,.cells (WQ (el p.2 i.i)).toArray 263 (0,0))::B i.s) (λz F=>z=el (e0::ls) g.i) ⟨rfl,rfl,rfl,rfl,rfl,rfl,rfl,rfl,rfl,rfl,rfl,rfl,rfl,trivial⟩ ?_ ?_
   ·refine wA 6 I ?_;refine QQ I (λhc=>?_) λhc=>?_
    ·have hv0:0<g.i:=tD<|wi hc
     refine JG (.cons _ (.cons_cons _ (.cons_cons _ we))) mixed tE<|QK (Zq (c:=#[.slice (some ⟨bv,0,none⟩) ls.length cv]) (T':=163) rfl QAb (λF h9=>(A _ _ h9.1.1.1).1.2.2.2) rfl)<|QK (QD I)<|QK (X3 I I O)<|QK (JL (i:=g.i-1) rfl wS W9 XK O)<|QK (QH I Xk JH) ?_
     obtain⟨fv,hfv⟩:=O3 (hV i.s);refine QK (V1 (v:=.slice (some ⟨(el ls (g.i-1)).b,0,none⟩) (n+1) (el ls (g.i-1)).c) rfl JH (.there (.there hfv)) (by rw[show 0+(g.i-1)*1+0=(g.i-1)*1 by omega];exact XT (f:=λe:VL=>Value.slice (some ⟨e.b,0,none⟩) (n+1) e.c) (show g.i-1<ls.length by omega)))<|QK (Zq (c:=#[.int .i64 (n:Int)]) (T':=3) rfl JK (λF h9=>(A _ _ h9.1.1.1).1.2.1) rfl)<|QK (Qu I I O)<|QK (NV (n+1) rfl rfl wS JO Qk (hB i.s _ (aW _ (Qw (show g.i-1<ls.length by omega)))).hc)<|QK (Q4 I zD WT (.cons (vs:=[_]) I I I .h1 .nil))<|JV (vs:=[_]) I I I XK I .here (.cons_cons _ (.cons_cons _ we)) tM .h1 wk<|Q7 ?_
     exact Za (el ls (g.i-1)) ⟨rfl,rfl,rfl,rfl,rfl,rfl,rfl,rfl,rfl,rfl,rfl,rfl,rfl,trivial⟩ we λF h9=>⟨⟨⟨⟨h9.1.1.1,h9.1.1.2⟩,h9.1.2⟩,h9.2⟩,(by rw[show g.i=(g.i-1)+1 by omega];rfl)⟩
    have hv0:¬0<g.i:=tD<|wj hc
    refine QN ?_;exact Za (e0) ⟨rfl,rfl,rfl,rfl,rfl,rfl,rfl,rfl,rfl,rfl,rfl,rfl,rfl,trivial⟩ we λF h9=>⟨⟨⟨⟨h9.1.1.1,h9.1.1.2⟩,h9.1.2⟩,h9.2⟩,(by rw[show g.i=0 by omega];rfl)⟩
   intro z;simp only[aa,ab];refine XV _ (λ_ _ f h=>h.2) (λY=>?_);have V:z∈e0::ls:=by rw[Y];exact Qw tK
   have N:=hB i.s _ V;have hxq:z.l.map (·.2)=el ((e0::ls).map VL.q) g.i:=by rw[Y,Jb (show g.i<(e0::ls).length by simp;omega),Jb (show g.i<((e0::ls).map VL.q).length by omega),aL];rfl
   refine wA 7 I ?_;refine JU (ι:=TsJ (Qm (el p.2 i.i).t.2 g.i).toNat) [(0,_),(2,_),(3,_),(4,_),(8,_),(11,_),(12,_),(13,_),(14,_),(23,_),(24,_),(25,_),(43,_)] (λm=>[(44,.int .i64 ((m.i:Nat):Int))]) (λm=>(b11,.cells [.slice (some ⟨z.b,0,none⟩) (n+1) z.c].toArray 173 (0,0))::(b8,.cells [.slice m.y.1.q m.y.1.n m.y.1.cap].toArray 173 (0,0))::(b7,.cells (WQ (el p.2 i.i)).toArray 263 (0,0))::B i.s) (λm F=>J7 F m.y.1 m.y.2 (NW (B4 (el p.2 i.i).t.1 (el p.2 i.i).t.2 ((e0::ls).map VL.q) n g.i) (el ((e0::ls).map VL.q) g.i) m.i)) (λm=>(Qm (el p.2 i.i).t.2 g.i).toNat-m.i) (⟨0,g.y,ao _⟩) ⟨rfl,rfl,rfl,rfl,rfl,rfl,rfl,rfl,rfl,rfl,rfl,rfl,rfl,trivial⟩ wk we (λ_ h=>h.1.2) (λm=>?_);simp only[aa,ab];have hk3:=m.le;refine XV _ (λ_ _ f h=>ar h.2.len h.2.YI) (λh3p=>?_);obtain⟨hyl,U⟩:=h3p;have hyn:m.y.1.n=n+1:=by rw[<-U,BA,Kf]
   refine wA 6 I ?_;refine QQ I (λhc=>?_) λhc=>?_
   ·have M:m.i<(Qm (el p.2 i.i).t.2 g.i).toNat:=tD<|wi hc
    refine wC 5 I<|QA (QJ (vs:=[_]) I XK .u1 .h1 rfl)<|QA (QJ (vs:=[_]) I XK .here .h1 rfl) ?_
    refine XX I (bw _) (gD (ra:=m.y.1) (la:=m.y.2) (va:=NW (B4 (el p.2 i.i).t.1 (el p.2 i.i).t.2 ((e0::ls).map VL.q) n g.i) (el ((e0::ls).map VL.q) g.i) m.i) (vb:=el ((e0::ls).map VL.q) g.i) (bb:=z.b) (nb:=n+1) (cb:=z.c) (lb:=z.l) tO ⟨N.hm.choose,aW _ (aW _ (aW _ N.hm.choose_spec)),N.hl⟩ hxq (λF h9=>(A _ _ h9.1.1.1.1.1).2.2 _ V) hyl U O O (Z.2 _ u _ M)) (λR=>?_);refine QW (vs:=[_]) I I I XK I .u1 .h1 wk<|QE<|Qj<|QC<|QB<|QA (Qu I I O)<|wB 2 I ?_
    exact Ql (⟨m.i+1,R,M⟩) (by show(Qm (el p.2 i.i).t.2 g.i).toNat-(m.i+1)<(Qm (el p.2 i.i).t.2 g.i).toNat-m.i;omega) ⟨rfl,rfl,rfl,rfl,rfl,rfl,rfl,rfl,rfl,rfl,rfl,rfl,rfl,rfl,trivial⟩ we λF ⟨⟨⟨⟨⟨⟨P,hs1⟩,h21⟩,hY⟩,X⟩,hZ⟩,h48⟩=>⟨⟨⟨⟨⟨P,hs1⟩,h21⟩,hY⟩,X⟩,by show J7 F R.1 R.2 (NW _ _ (m.i+1));rw[Sx];exact h48⟩
   have hge3:m.i=(Qm (el p.2 i.i).t.2 g.i).toNat:=tD<|wj hc
   refine Qx ?_
   repeat first|refine QY ?_|refine QO tH ?_
   refine QZ<|Qj<|QC<|QB<|QA (Qu I I O)<|wB 2 I ?_
   exact Ql (⟨g.i+1,m.y,u⟩) (by show(el p.2 i.i).t.2.length-(g.i+1)<(el p.2 i.i).t.2.length-g.i;omega) tB (.cons _ we) λF h9=>⟨⟨⟨h9.1.1.1.1.1,h9.1.1.1.1.2⟩,h9.1.1.1.2⟩,by show J7 F m.y.1 m.y.2 (B4 _ _ _ _ (g.i+1));have e:=h9.2;rw[hge3]at e;rw[TF];exact e⟩
  have hge2:g.i=(el p.2 i.i).t.2.length:=tD<|wj hc
  refine Qx ?_
  repeat first|refine QY ?_|refine QO tH ?_
  refine QZ<|QC<|QG<|q7<|QAW (QD I)<|QAW (QJ (vs:=[_]) I XK .here .h1 rfl) ?_
  refine jA (E':=λs':{ s:ι // pos s=pos i.s+1 }=>⟨w0,F0,(b8,.cells [.slice g.y.1.q g.y.1.n g.y.1.cap].toArray 173 (0,0))::(b7,.cells (WQ (el p.2 i.i)).toArray 263 (0,0))::B s'.1,λF=>H S F/\H s'.1 F⟩) I I (λW hW=>?_) λT=>?_
  ·obtain⟨fn,tmps,K,body,e1,e2⟩:=E (λF=>H S F) [(b8,.cells [.slice g.y.1.q g.y.1.n g.y.1.cap].toArray 173 (0,0)),(b7,.cells (WQ (el p.2 i.i)).toArray 263 (0,0))] i.s i.i g.y W Q i.hp ((hW.perm (af (l₁:=[_,_]))).B5 λF h=>⟨h.1.1,by have e:=h.2;have e1:g.i=((e0::ls).map VL.q).length:=hge2.trans hol;rw[e1]at e;exact e⟩);exact⟨fn,tmps,K,body,e1,e2.mono λe w' ⟨h2,s',h3,h4⟩=>⟨h2,⟨s',h3⟩,h4.perm (af (l₂:=[_,_]))⟩⟩
  refine QCZ (λ⟨a,w,h⟩=>by obtain⟨c,e,_⟩:=h;cases e) rfl<|QA (XL rfl)<|QE<|QC ?_
  refine QQ I (λhc=>?_) λhc=>?_
  ·exact absurd hc tF
  refine QN<|Qj<|QC<|QB<|QA (Qu I I O)<|wB 2 I ?_
  exact Ql (⟨i.i+1,T.1,Q,by rw[T.2,i.hp]⟩) (by show p.2.length-(i.i+1)<p.2.length-i.i;omega) w6 (.cons _ (.cons _ we)) tM
 have hge:i.i=p.2.length:=tD<|wj hc
 refine Qx ?_
 repeat first|refine QY ?_|refine QO tH ?_
 refine QZ<|Mh ?_
 exact Y3 ((⟨i.s,by rw[i.hp,hge]⟩:{ s:ι // pos s=p.2.length })) I .nil (rfl) λw h=>h.imp we tO
theorem gE{p:WS}{n:Nat}{v1 v2:Value}(h:Fits F w)(h1:v1.oneCell'=true/\v1.cells=[v1].toArray)(h2:v2.oneCell'=true/\v2.cells=[v2].toArray):
  QU prog 206 [p.1.v,.int .i64 (n:Int),.agg #[v1],v2] w F (λ(c:Nat×Nat×Nat×Nat)=>.func (.func 275) #[] #[.pointer (some ⟨c.1,0,none⟩),.pointer (some ⟨c.2.1,0,none⟩),.pointer (some ⟨c.2.2.1,0,none⟩),.pointer (some ⟨c.2.2.2,0,none⟩)]) (λc F=>F c.1=some (#[p.1.v],190)/\F c.2.1=some (#[.int .i64 (n:Int)],3)/\F c.2.2.1=some (#[v1],173)/\F c.2.2.2=some (#[v2],163)):=by
 refine QU.intro (G:=λF=>True) func206 rfl tH rfl rfl h tL<|QG<|QB ?_
 refine Qp I (vs:=[_]) I (λb4=>?_);refine Qp I (vs:=[_]) I (λg=>?_);refine Qp I (vs:=[_]) I (λf=>?_);refine Qp (vs:=[v2]) I h2.2 (λa=>?_);refine wD 5 I<|VI (b:=b4) .u3<|VI (b:=g) .u2<|VI (b:=f) .u1<|VI (b:=a) .here<|QA (VD I)<|wD 4 I ?_
 exact QP ((b4,g,f,a)) I (wT I) (rfl) λF h9=>⟨h9.1.1.1.2,h9.1.1.2,h9.1.2,h9.2⟩
section
variable[Dr]{P:Program}{Q:Exit->Act->World->Prop}{N:Nat}{m:Sl}{w0:World}{F0:Gs}{bs:List (Nat×Obj)}{G:Gs->Prop}
@[reducible] def K5 (Ds:List Nat):Df:=⟨Ds.map λD=>{ target:=.collected D,args:=#[] }⟩
def dfB(Ds:List Nat):List (Nat×Obj):=Ds.map λD=>(D,.deferred (some []))
def kb{ι:Type}(b:ι->Df)(N:Nat)(w0:World)(F0:Gs)(M:ι->Sl)(B:ι->List (Nat×Obj))(H:ι->Gs->Prop)(μ:ι->Nat)(i:ι)(a:Act)(w:World):Prop :=
 ∃j,μ j<μ i/\Ja (df:=b j) N (M j) a/\St ⟨w0,F0,B j,H j⟩ w
theorem II(b:ι->Df){c:Code}(K:Sl)(M:ι->Sl)(B:ι->List (Nat×Obj))(R:ι->Gs->Prop)(μ:ι->Nat)(g:ι)(hd:d0=b g)
  (hk:KN m K) (hm:KN m (M g)) (hb:(B g).Sublist bs) (l:∀F,G F->R g F)
  (f:∀i,J (df:=b i) P c (Exit.then (kb b N w0 F0 (λi=>K++M i) B (λi F=>G F/\R i F) μ i) Q) N (K++M i) ⟨w0,F0,B i,λF=>G F/\R i F⟩):J (df:=d0) P (.loop c) Q N m ⟨w0,F0,bs,G⟩:=by
 subst hd;intro a w ha k;refine wp_loop_ghost (λn a w=>∃i,μ i=n/\Ja (df:=b i) N (K++M i) a/\St ⟨w0,F0,B i,λF=>G F/\R i F⟩ w) (μ g) ⟨g,rfl,Ja.sub (df:=b g) ha (hk.append hm),k.imp hb λF h=>⟨h,l F h⟩⟩ ?_;rintro n a w ⟨i,rfl,ha,k⟩;refine wp_mono (f i a w ha k) ?_;intro e o w' h;cases e with
 |normal=>obtain⟨j,h1,h2,h3⟩:=h;exact⟨μ j,h1,j,rfl,h2,h3⟩
 |_=>exact h
theorem IQ{b:ι->Df}{M:ι->Sl}{B:ι->List (Nat×Obj)}{H:ι->Gs->Prop}{μ:ι->Nat}{i:ι}(j:ι)(hd:d0=b j)(c:μ j<μ i)
  (hm:KN m (M j)) (hb:(B j).Sublist bs) (g:∀F,G F->H j F):Fin (df:=d0) (Exit.then (kb b N w0 F0 M B H μ i) Q) .normal N m ⟨w0,F0,bs,G⟩:=by
 subst hd;exact λa w ha f=>⟨j,c,Ja.sub (df:=b j) ha hm,f.imp hb g⟩
theorem Ur{Ds:List Nat}{g:Operand}{ps:Array Tmp}{assign body:Code}{gf:Nat}{lb:Array Value}(B:ι->List (Nat×Obj))(R:ι->Gs->Prop)(Dn:ι->Prop)(hd:d0=K5 Ds)(hg:ev m g=some (.func (.func gf) #[] lb))(he:Enters P gf)
  (hcall:∀(L D:Nat) (r:Loop) (w:World),kS N m ps assign body r->St ⟨w0,F0,(L,.loop r)::(D,.deferred (some []))::bs,G⟩ w ->
   Calls P gf (#[.func (.yield L) #[] #[]]++lb) w λe w'=>(∃v,e = .returned v)/\∃s,Dn s/\St ⟨w0,F0,(L,.loop r)::(D,.deferred (some []))::B s,λF=>G F/\R s F⟩ w')
  (k:∀D s,Dn s->Fin (df:=K5 (D::Ds)) Q .normal N m ⟨w0,F0,(D,.deferred (some []))::B s,λF=>G F/\R s F⟩):J (df:=d0) P (.rangeFunc g ps assign body) Q N m ⟨w0,F0,bs,G⟩:=by
 subst hd;intro a w ha hw;refine(wpIn_wide (n:=0)).1 (wpIn_rangeFunc λfn _=>?_);obtain⟨r,hr⟩:∃r:Loop,r={ state:=.ready,pending:=none,fn,tmps:=a.tmps,params:=ps,assign,body,defers:=w.heap.size }:=⟨_,rfl⟩;have hs1:St ⟨w0,F0,(w.heap.size+1,.loop r)::(w.heap.size,.deferred (some []))::bs,G⟩ ((w.alloc (.deferred (some []))).alloc (.loop r)):=by
  have h1:=hw.alloc (.deferred (some [])) (λc fr e=>by cases e);have h2:=h1.alloc (.loop r) λc fr e=>by cases e
  rwa [World.size_alloc]at h2
 have hd:a.defers=Ds.map λD=>{ target:=.collected D,args:=#[] }:=Ja.df (df:=K5 Ds) ha;have hsz:a.tmps.size=N:=Ja.size (df:=K5 Ds) (a:=a) ha;have hgt:∀t v,look m t=some v->a.tmps[t]?=some v:=λt v h=>Ja.get (df:=K5 Ds) (a:=a) ha t v h;refine⟨w.heap.size+1,[{ target:=.collected w.heap.size,args:=#[] }],(w.alloc (.deferred (some []))).alloc (.loop r),{ target:=.fn (.func gf) lb,args:=#[.func (.yield (w.heap.size+1)) #[] #[]] },(w.alloc (.deferred (some []))).alloc (.loop r),gf,
  #[.func (.yield (w.heap.size+1)) #[] #[]]++lb,(w.alloc (.deferred (some []))).alloc (.loop r),?_,?_,λ_ _=>trivial,?_,λe=>(by cases e),?_⟩
 ·rw[hr];exact run_enterLoop_outer _ _ _ _ _
 ·simp only[resolve,Ja.ev (df:=K5 Ds) ha hg];simp[go_sem]
 ·simpa[invoke,go_sem]using he _ _
 refine(callsIn_wide.2 (hcall _ _ r _ ⟨by rw[hr],by rw[hr],by rw[hr],by rw[hr],by rw[hr],⟨by rw[hr];exact hsz,rfl,by rw[hr];exact hgt⟩⟩ hs1)).mono ?_;rintro e w' ⟨⟨v,rfl⟩,s,hdn,hs⟩;have hl:w'.heap[w.heap.size+1]?=some (.loop r):=hs.own .here;refine⟨none,w'.putObj (w.heap.size+1) (.loop { r with state:=.exhausted }),?_,k w.heap.size s hdn _ _ (Ja.mk (df:=K5 (w.heap.size::Ds)) (Ja.size (df:=K5 Ds) (a:=a) ha) ?_ λt v h=>Ja.get (df:=K5 Ds) (a:=a) ha t v h) ?_⟩
 ·rw[run_endLoop hl (by rw[hr];intro e;cases e)];rw[hr]
 ·show _++a.defers=_;rw[hd];rfl
 exact(hs.put (.loop { r with state:=.exhausted }) .here λc fr e=>by cases e).imp (.cons _ we) λ_ h=>h
theorem QCW{c:Code}(h:∀G':Gs->Prop,(∀F,G' F->G F)->J (df:=d0) P c Q N m ⟨w0,F0,bs,G'⟩):J (df:=d0) P c Q N m ⟨w0,F0,bs,G⟩:=h G λ_ h=>h
theorem uQ{fn:Func}{R:Ending->World->Prop}(Ds:List Nat){g:Df}(hd:g=K5 Ds)(h:Fin (df:=DH) (bodyPost P fn R) .ret N m ⟨w0,F0,bs,G⟩):Fin (df:=g) (bodyPostM bm 0 P fn R) .ret N m ⟨w0,F0,dfB Ds++bs,G⟩:=by
 subst hd;intro a w ha b;have f:a.defers=Ds.map λD=>{ target:=.collected D,args:=#[] }:=Ja.df (df:=K5 Ds) ha;show LeavesInM bm 0 P fn a.tmps R a.defers .returning w;rw[f];have:∀(Ds:List Nat) (w:World),St ⟨w0,F0,dfB Ds++bs,G⟩ w->LeavesInM bm 0 P fn a.tmps R (Ds.map λD=>{ target:=.collected D,args:=#[] }) .returning w:=by
  intro Ds
  induction Ds with
  |nil =>
   intro w b;have h1:=h { tmps:=a.tmps,defers:=[] } w (Ja.mk (df:=DH) (Ja.size (df:=K5 _) (a:=a) ha) rfl λt v h=>Ja.get (df:=K5 _) (a:=a) ha t v h) b;obtain⟨_,v,h2,h3⟩:=h1;exact⟨v,h2,h3⟩
  |cons D Ds ih =>
   intro w b;refine⟨λe=>(by cases e),.inl ⟨D,_,rfl,run_takeDeferred (b.own .here),ih _ ?_⟩⟩;exact(b.put (.deferred none) .here λc fr e=>by cases e).imp (.cons _ we) λ_ h=>h
 exact this Ds w b
end
structure VB where
 b:Nat
 c:Nat
 l:List Yx
 rest:List Value
instance :Inhabited VB:=⟨⟨0,0,[],[]⟩⟩
def VB.box(e:VB):Nat×Obj:=(e.b,.cells (Xl e.l++e.rest).toArray 168 (0,0))
def VB.vl(e:VB):VL:=⟨e.b,e.c,e.l⟩
@[reducible] def VB.sl (k:Nat) (e:VB):Value:=.slice (some ⟨e.b,0,none⟩) k e.c
structure VB.Ok(k:Nat)(e:VB):Prop where
 hl:e.l.length=k
 hr:(Xl e.l).length+e.rest.length=e.c*8
 hc:k<=e.c
 hm:e.c<=maxLen
theorem VB.Ok.own{e:VB}(h:e.Ok k):Q8 168 8 (e.sl k) k (Xl e.l) [e.box]:=.some (by rw[GQ,h.hl]) h.hr h.hc h.hm
theorem zJ{v:Value}{l:List Yx}{ob:List (Nat×Obj)}(h:Q8 168 8 v k (Xl l) ob)(hk:0<k):∃e:VB,e.l=l/\e.Ok k/\v=e.sl k/\ob=[e.box]:=by
 generalize hcs:Xl l=cs at h;cases h with
 |nil=>exact absurd hk (Nat.lt_irrefl 0)
 |some h1 h2 h3 h4 =>
  rename_i b cap rest;subst hcs;refine⟨⟨b,cap,l,rest⟩,rfl,⟨?_,h2,h3,h4⟩,rfl,rfl⟩;rw[GQ]at h1;show l.length=k;omega
theorem xo{vs:List Value}{z v:Value}(h:vs.length=i)(hi:i<n):VG (vs++Xg [z] (n-i)) (0+i*1+0) [v] ((vs++[v])++Xg [z] (n-(i+1))):=by
 rw[show n-i=(n-(i+1))+1 by omega,Xg,aC,show 0+i*1+0=vs.length by omega];exact Nt I
theorem QBI{l:List Yx}{z:List Value}(c:Sp)(x:Rat×Rat)(hz:z.length=8)(h:l.length=i)(hi:i<n):VG (Xl l++Xg z (n-i)) (0+i*8) (Xs c) (Xl (l++[(c,x)])++Xg z (n-(i+1))):=by
 rw[show n-i=(n-(i+1))+1 by omega,Xg,MD,aC,show 0+i*8=(Xl l).length by rw[GQ];omega];exact Nt hz
theorem Sj(e:Yx)(l:List Yx):Xl (e::l)=Xs e.1++Xl l:=rfl
theorem AT(l m:List Yx):Xl (l++m)=Xl l++Xl m:=by unfold Xl;rw[aI]
theorem xp{l:List Yx}(h:i<l.length)(c:Sp)(x:Rat×Rat):VG (Xl l++rest) (0+i*8) (Xs c) (Xl (l.set i (c,x))++rest):=by
 have b:l=l.take i++l[i]::l.drop (i+1):=by rw[List.getElem_cons_drop];simp
 have a:l.set i (c,x)=l.take i++(c,x)::l.drop (i+1):=by rw[List.set_eq_take_append_cons_drop,if_pos h]
 rw[a]
 conv=>arg 1;rw[b]
 rw[AT,AT,Sj,Sj,aC,aC,aC,aC,show 0+i*8=(Xl (l.take i)).length by rw[GQ,bA];omega];exact Nt I
theorem QBH{a b:List Value}{u v:Value}(h:a.length=i):VG (a++u::b) (0+i*1+0) [v] ((a++[v])++b):=by
 rw[aC,show 0+i*1+0=a.length by omega];exact Nt (z:=[u]) I
theorem MI(X M Y:List α)(a:α):(a::(X++(M++Y))).Perm (X++(M++a::Y)):=by
 rw[<-aC,<-aC];exact List.perm_middle.symm
theorem YA.set{l:List Yx}{c:Sp}{x:Rat×Rat}(h:YA F l)(k:Jl F c x):YA F (l.set i (c,x)):=λe he=>by
 rcases List.mem_or_eq_of_mem_set he with he | rfl
 ·exact h e he
 exact k
theorem y7(t:Rat×Rat):(Ek 0 0).set 0 t=KC t 0:=rfl
theorem p8(t:Rat×Rat){k:Nat}(h:0<k):((Ek 0 k).set 0 t).set 1 (((1:Int):Rat),((1:Int):Rat))=KC t k:=by
 obtain⟨n,rfl⟩:∃n,k=n+1:=⟨k-1,O⟩;rfl
structure Uo(rs:List (List Tm))(t:Rat×Rat)(vb:List (Rat×Rat))(n:Nat):Prop where
 tm:∀k,k<n->∀i,i<rs.length->QFo (el rs i) (KC t k::J1 rs t vb k) k
 mn:∀k,k<n->∀i,i<rs.length->∀u∈el rs i,∀x∈B4 u.1 u.2 (KC t k::J1 rs t vb k) k (vb.length+1),Xf x 100000000
 sm:∀k,k<n->∀i,i<rs.length->∀j,∀x∈Vw ((el rs i).take j) (KC t k::J1 rs t vb k) k,Xf x 100000000
 cf:∀k,k<n->∀i,i<rs.length->Xf (el (Vw (el rs i) (KC t k::J1 rs t vb k) k) k) 20000000
theorem P8{p:List Tm}{all:List (List (Rat×Rat))}(h:i<p.length):Vw (p.take (i+1)) all n=My (Vw (p.take i) all n) (B4 (el p i).1 (el p i).2 all n all.length):=by
 unfold Vw;rw[XE h,aO];rfl
structure TaJ(vb:List (Rat×Rat)) where
 i:Nat
 es:List VB
 M:List (Nat×Obj)
 hM:M=es.map VB.box
 le:i<=vb.length
 len:es.length=i
 ok:∀e∈es,e.Ok 1
 hq:es.map (λe=>e.l.map (·.2))=(vb.take i).map λx=>[x]
structure TkJ(rs:List (List Tm))(t:Rat×Rat)(vb:List (Rat×Rat))(n:Nat) where
 k:Nat
 es:List VB
 M:List (Nat×Obj)
 Ds:List Nat
 hM:M=es.map VB.box
 le:k<=n
 len:es.length=vb.length
 ok:∀e∈es,e.Ok (k+1)
 hq:es.map (λe=>e.l.map (·.2))=J1 rs t vb k
def nxQ(rs:List (List Tm))(t:Rat×Rat)(vb:List (Rat×Rat))(k i:Nat):Rat×Rat:=Jg (el (Vw (el rs i) (KC t k::J1 rs t vb k) k) k) ((((k+1:Nat):Int):Rat)⁻¹,(((k+1:Nat):Int):Rat)⁻¹)
structure TrJ(f:Nat->Rat×Rat)(n:Nat) where
 i:Nat
 nx:List Yx
 Ds:List Nat
 le:i<=n
 len:nx.length=i
 hv:nx.map (·.2)=(aE i).map f
structure TsS(n:Nat) where
 i:Nat
 y:Sr×List Yx
 le:i<=n
structure TeJ(es:List VB)(k:Nat)(f:Nat->Rat×Rat) where
 i:Nat
 e1:List VB
 M1:List (Nat×Obj)
 M2:List (Nat×Obj)
 hM1:M1=e1.map VB.box
 hM2:M2=(es.drop i).map VB.box
 le:i<=es.length
 len:e1.length=i
 ok:∀e∈e1,e.Ok (k+2)
 hq:e1.map (λe=>e.l.map (·.2))=(aE i).map λj=>(el es j).l.map (·.2)++[f j]
theorem St.ct:∀(es:List VB) {G:Gs->Prop},St ⟨w0,F0,bs++es.map VB.box,G⟩ w->St ⟨w0,F0,bs,λF=>G F/\∀e∈es,F e.b=some ((Xl e.l++e.rest).toArray,168)⟩ w
 |[],G,h=>by
  have:=h.B5 (G':=λF=>G F/\∀e∈([]:List VB),F e.b=some ((Xl e.l++e.rest).toArray,168)) λF a=>⟨a,λ_ h=>by cases h⟩;simpa using this
 |e::es,G,h=>by
  rw[aR]at h;have h1:=St.freeze (pre:=bs) (post:=es.map VB.box) (b:=e.b) h;exact(St.ct es h1).B5 λF a=>⟨a.1.1,λc he=>by
   rcases List.mem_cons.1 he with rfl | he
   ·exact a.1.2
   exact a.2 c he⟩
section
variable[Dr][df:Df]{P:Program}{Q:Exit->Act->World->Prop}{N:Nat}{m:Sl}{E:Env}
theorem uM{c:Code}(h:J P c (bU Q) N m E):J P (.scope c) Q N m E:=λa w ha b=>wp_scope_straight (h a w ha b)
theorem uN{l:Nat}(h:Fin Q .normal N m E):J P (.label l) Q N m E:=λa w ha b=>wp_label (h a w ha b)
theorem QCb(h:Fin Q .ret N m E):Fin (bU Q) .ret N m E:=h
end
theorem pJ{q:Option Addr}{f:Nat}{l:List Yx}{p:Yx->Bool}(z:Fits F w)(x:∀F F',Gs.le F F'->G0 F->G0 F')(h0:G0 F)(y:Qy F q n 8 (Xl l))(A:l.length=n)(hb:n<=1000000)(hc:∀e∈l,∀w F,Fits F w->G0 F->Qf prog f (c1++[e.1.v]++c2) w F (.bool (p e))):QU prog 303 [.slice q n c,.func (.func f) c1.toArray c2.toArray] w F (λ(k:Int)=>.int .i64 k) (λk _=>decide (k>=0)=l.any p):=by
 refine QU.intro (G:=λF=>G0 F/\Qy F q n 8 (Xl l)) func303 rfl tH rfl rfl z (λF' m=>⟨x F F' m h0,y.le m⟩)<|wa<|wZ rfl<|QG<|wb rfl<|QA (Qg rfl JO)<|wW rfl<|wY<|QV<|J9 (ι:=Me l p) [(0,_),(1,_),(7,_)] (λi=>[(8,.int .i64 ((i.i:Nat):Int))]) (λi=>l.length-i.i) (Me.start _ _) wu wk λi=>?_
 simp only[aa,ab];have hi:=i.le;refine wA 6 I ?_;refine QQ I (λa=>?_) λa=>?_
 ·have g:i.i<l.length:=tD<|wi a
  have h:=Qw g;refine wC 15 I<|QA (Q3 (n:=n) i.i tO rfl rfl JO Qk O)<|QA (JZ (n:=n) (vs:=[.int .i64 (el l i.i).1.lo.n.s,.slice (el l i.i).1.lo.n.q (el l i.i).1.lo.n.n (el l i.i).1.lo.n.cap,.int .i64 (el l i.i).1.lo.d.s,.slice (el l i.i).1.lo.d.q (el l i.i).1.lo.d.n (el l i.i).1.lo.d.cap,.int .i64 (el l i.i).1.hi.n.s,.slice (el l i.i).1.hi.n.q (el l i.i).1.hi.n.n (el l i.i).1.hi.n.cap,.int .i64 (el l i.i).1.hi.d.s,.slice (el l i.i).1.hi.d.q (el l i.i).1.hi.d.n (el l i.i).1.hi.d.cap]) ((i.i)*8) tO O rfl Qk I λj v u=>JN (f:=(λe=>Xs e.1)) (l:=l) (λ_=>rfl) O u)<|Ge (c1:=c1) (c2:=c2) rfl rfl (λw F f k=>hc _ h w F f k.1) λ_=>QE<|QC ?_
  refine QQ I (λa=>?_) λa=>?_
  ·have b:=a;refine wA 7 I ?_
   repeat first|refine Q6 ?_|refine Qv ?_
   exact QP (((i.i:Nat):Int)) I (wT I) (rfl) λF _=>by rw[decide_eq_true O,List.any_eq_true.2 ⟨_,h,b⟩]
  have b:=a;refine QN<|Qj<|QC<|QB<|QA (Qu I I O)<|wB 2 I ?_
  exact Ql (i.next g b) (by show l.length-(i.i+1)<l.length-i.i;omega) wv we tN
 have o:l.length<=i.i:=tD<|wj a
 refine Qx ?_
 repeat first|refine QY ?_|refine QO tH ?_
 refine QZ<|wE 7 I ?_
 exact QP ((-1:Int)) I (wT I) (rfl) λF _=>by rw[Bool.eq_false_iff.2 (i.stop o)];rfl
theorem yz{q:Option Addr}{f:Nat}{l:List Yx}{p:Yx->Bool}(j:Fits F w)(b:∀F F',Gs.le F F'->G0 F->G0 F')(h0:G0 F)(i:Qy F q n 8 (Xl l))(g:l.length=n)(hb:n<=1000000)(hc:∀e∈l,∀w F,Fits F w->G0 F->Qf prog f (c1++[e.1.v]++c2) w F (.bool (p e))):Qf prog 251 [.slice q n c,.func (.func f) c1.toArray c2.toArray] w F (.bool (l.any p)):=by
 refine QU.intro (G:=λF=>G0 F/\Qy F q n 8 (Xl l)) func251 rfl tH rfl rfl j (λF' a=>⟨b F F' a h0,i.le a⟩)<|wa<|wZ rfl<|wb rfl<|wW rfl<|QI rfl (λ_ _ f k=>pJ (p:=p) f b k.1 k.2 g hb hc) λm=>JQ _ (λ_ _ f h=>h.2) λh7=>QA (QT rfl rfl rfl)<|wZ rfl<|QX ?_
 exact wg I I (congrArg av h7.symm) tL
theorem pK{q:Option Addr}{f:Nat}{l:List (Fr×Rat)}{p:(Fr×Rat)->Bool}(z:Fits F w)(x:∀F F',Gs.le F F'->G0 F->G0 F')(h0:G0 F)(y:Qy F q n 4 (l.flatMap λe=>Kj e.1))(A:l.length=n)(hb:n<=1000000)(hc:∀e∈l,∀w F,Fits F w->G0 F->Qf prog f (c1++[e.1.v]++c2) w F (.bool (p e))):QU prog 186 [.slice q n c,.func (.func f) c1.toArray c2.toArray] w F (λ(k:Int)=>.int .i64 k) (λk _=>decide (k>=0)=l.any p):=by
 refine QU.intro (G:=λF=>G0 F/\Qy F q n 4 (l.flatMap λe=>Kj e.1)) func186 rfl tH rfl rfl z (λF' m=>⟨x F F' m h0,y.le m⟩)<|wa<|wZ rfl<|QG<|wb rfl<|QA (Qg rfl Xb)<|wW rfl<|wY<|QV<|J9 (ι:=Me l p) [(0,_),(1,_),(7,_)] (λi=>[(8,.int .i64 ((i.i:Nat):Int))]) (λi=>l.length-i.i) (Me.start _ _) wu wk λi=>?_
 simp only[aa,ab];have hi:=i.le;refine wA 6 I ?_;refine QQ I (λa=>?_) λa=>?_
 ·have g:i.i<l.length:=tD<|wi a
  have h:=Qw g;refine wC 15 I<|QA (Q3 (n:=n) i.i tO rfl rfl Xb QS O)<|QA (JZ (n:=n) (vs:=[.int .i64 (el l i.i).1.n.s,.slice (el l i.i).1.n.q (el l i.i).1.n.n (el l i.i).1.n.cap,.int .i64 (el l i.i).1.d.s,.slice (el l i.i).1.d.q (el l i.i).1.d.n (el l i.i).1.d.cap]) ((i.i)*4) tO O rfl QS I λj v u=>JN (f:=(λe=>Kj e.1)) (l:=l) (λ_=>rfl) O u)<|Ge (c1:=c1) (c2:=c2) rfl rfl (λw F f k=>hc _ h w F f k.1) λ_=>QE<|QC ?_
  refine QQ I (λa=>?_) λa=>?_
  ·have b:=a;refine wA 7 I ?_
   repeat first|refine Q6 ?_|refine Qv ?_
   exact QP (((i.i:Nat):Int)) I (wT I) (rfl) λF _=>by rw[decide_eq_true O,List.any_eq_true.2 ⟨_,h,b⟩]
  have b:=a;refine QN<|Qj<|QC<|QB<|QA (Qu I I O)<|wB 2 I ?_
  exact Ql (i.next g b) (by show l.length-(i.i+1)<l.length-i.i;omega) wv we tN
 have o:l.length<=i.i:=tD<|wj a
 refine Qx ?_
 repeat first|refine QY ?_|refine QO tH ?_
 refine QZ<|wE 7 I ?_
 exact QP ((-1:Int)) I (wT I) (rfl) λF _=>by rw[Bool.eq_false_iff.2 (i.stop o)];rfl
theorem y3{q:Option Addr}{f:Nat}{l:List (Fr×Rat)}{p:(Fr×Rat)->Bool}(j:Fits F w)(b:∀F F',Gs.le F F'->G0 F->G0 F')(h0:G0 F)(i:Qy F q n 4 (l.flatMap λe=>Kj e.1))(g:l.length=n)(hb:n<=1000000)(hc:∀e∈l,∀w F,Fits F w->G0 F->Qf prog f (c1++[e.1.v]++c2) w F (.bool (p e))):Qf prog 92 [.slice q n c,.func (.func f) c1.toArray c2.toArray] w F (.bool (l.any p)):=by
 refine QU.intro (G:=λF=>G0 F/\Qy F q n 4 (l.flatMap λe=>Kj e.1)) func92 rfl tH rfl rfl j (λF' a=>⟨b F F' a h0,i.le a⟩)<|wa<|wZ rfl<|wb rfl<|wW rfl<|QI rfl (λ_ _ f k=>pK (p:=p) f b k.1 k.2 g hb hc) λm=>JQ _ (λ_ _ f h=>h.2) λh7=>QA (QT rfl rfl rfl)<|wZ rfl<|QX ?_
 exact wg I I (congrArg av h7.symm) tL
def EK(c:Nat):Bool:=Yp c||(decide (48<=c)&&decide (c<=57))||c==95||c==39||c==35
def cN(s:List UInt8):Bool:=s.all (λc=>EK c.toNat)&&decide (1<=s.length)&&decide (s.length<=32)
theorem Ay(h:128<=c):EK c=false:=by
 unfold EK Yp;simp;omega
def nsV(o:Option (Nat×Nat))(p:Nat):Value:=match o with
 |none=>.tuple #[.bool false]
 |some (c,_)=>.tuple #[.bool true,.int .i64 p,.int .i32 c]
theorem QE6(o:Option (Nat×Nat))(p:Nat):∃vs,nsV o p = .tuple vs/\vs[0]?=some (.bool o.isSome):=by
 cases o with
 |none=>exact⟨_,rfl,rfl⟩
 |some x=>exact⟨_,rfl,rfl⟩
def nsW(o:Option (Nat×Nat)):Nat:=match o with | none=>0 | some (_,w)=>w
def nsP(s:List UInt8)(p:Nat)(o:Option (Nat×Nat)):Prop:=match o with
 |none=>s.length<=p
 |some (c,a)=>∃hi:p<s.length,(s[p].toNat<128/\c=s[p].toNat/\a=1)\/(128<=s[p].toNat/\128<=c)
section
variable{P:Program}{Q:Exit->Act->World->Prop}{N:Nat}{m:Sl}{ops:Array Oper}{l:List Oper}{w0:World}{F0:Gs}{bs:List (Nat×Obj)}{G:Gs->Prop}{d:Nat}{ty:TypeId}{pos:String}{aft:Array Edge}
theorem IL{x:Operand}{b p:Nat}{f:Obj->List (Nat×Obj)}(hx:ev m x=some (.pointer (some ⟨b,0,none⟩)))(i:Own bs b (.stringIter ⟨s.toArray⟩ p) f)
  (k:∀o,nsP s p o->JS P ops Q l N ((d,nsV o p)::m) ⟨w0,F0,f (.stringIter ⟨s.toArray⟩ (p+nsW o)),G⟩) (hd:J5 N (some d)=true:=by rfl) :
  JS P ops Q (⟨some d,.next x true,ty,pos,aft,none⟩::l) N m ⟨w0,F0,bs,G⟩:=by
 rcases bp p s.length with hi | hi
 ·obtain⟨c,j,g,a⟩:=qV hi;exact OF hx i hi g (k (some (c,j)) ⟨hi,a⟩) hd
 have h:=k none hi;refine OH hx i hi ?_ hd;obtain⟨pre,post,u,n⟩:=i.split;rw[n]at h;rw[u];exact h
end
theorem pP(R:Fits F w)(T:s.length<=9223372036854775807):Qf prog 198 [tx s] w F (.bool (cN s)):=by
 refine QU.intro (G:=λF=>True) func198 rfl tH rfl rfl R tL<|wa<|wZ rfl<|QG<|wb rfl<|IJ rfl Zm λS=>wY<|QV<|JU (ι:=Wo s λc=>EK c.toNat) [(0,_),(7,_)] (λi=>[]) (λi=>[(S,.stringIter ⟨s.toArray⟩ i.i)]) (λi F=>True) (λi=>s.length-i.i) (Wo.start _ _) wm trivial we tL λi=>?_
 simp only[aa,ab];have Q:=i.le;refine wa<|IL (s:=s) (p:=i.i) rfl .here λo N=>?_
 obtain⟨P,H,K⟩:=QE6 o i.i;refine QA (v:=.bool o.isSome) (Qa (vs:=P) (by rw[<-H];rfl) K)<|wY<|QG ?_
 refine QQ I (λhc=>?_) λhc=>?_
 ·obtain⟨⟨c,D⟩,rfl⟩:∃x,o=some x:=by
   cases o with
   |none=>cases hc
   |some x=>exact⟨x,rfl⟩
  obtain⟨hi,a⟩:=N;refine wC 9 I ?_;refine ZZ [(0,_),(4,_),(7,_)] [(5,.bool ((Yp c||(decide (48<=c)&&decide (c<=57)))))] wu ?_ ?_
  ·refine wA 4 I ?_;refine Qn (t:=13) rfl (λC=>?_) λC=>?_
   ·refine wB 6 I ?_;refine Qn (t:=17) rfl (λB=>?_) λB=>?_
    ·refine wB 3 I<|Jn I I<|Jn I I<|wB 6 I<|Jn I I<|Jn I I<|wB 4 I ?_
     exact JY ⟨rfl,rfl,rfl,(congrArg (λb=>some (av b)) (by rw[aq];simp_all [Yp]<;>omega)),trivial⟩ we tM
    refine wB 6 I ?_;refine Qn (t:=20) rfl (λk=>?_) λk=>?_
    ·refine wB 8 I ?_;refine Qn (t:=25) rfl (λj=>?_) λj=>?_
     ·refine wB 3 I<|Jn I I<|Jn I I<|wB 4 I ?_
      exact JY ⟨rfl,rfl,rfl,(congrArg (λb=>some (av b)) (by rw[aq];simp_all [Yp]<;>omega)),trivial⟩ we tM
     refine wB 6 I ?_;refine Qn (t:=28) rfl (λf=>?_) λf=>?_
     ·refine wB 9 I ?_;exact JY ⟨rfl,rfl,rfl,(congrArg (λb=>some (av b)) (by rw[aq];simp_all [Yp]<;>omega)),trivial⟩ we tM
     refine wB 7 I ?_;exact JY ⟨rfl,rfl,rfl,(congrArg (λb=>some (av b)) (by rw[aq];simp_all [Yp]<;>omega)),trivial⟩ we tM
    refine wB 12 I ?_;refine Qn (t:=28) rfl (λf=>?_) λf=>?_
    ·refine wB 9 I ?_;exact JY ⟨rfl,rfl,rfl,(congrArg (λb=>some (av b)) (by rw[aq];simp_all [Yp]<;>omega)),trivial⟩ we tM
    refine wB 7 I ?_;exact JY ⟨rfl,rfl,rfl,(congrArg (λb=>some (av b)) (by rw[aq];simp_all [Yp]<;>omega)),trivial⟩ we tM
   refine wB 10 I ?_;refine Qn (t:=20) rfl (λk=>?_) λk=>?_
   ·refine wB 8 I ?_;refine Qn (t:=25) rfl (λj=>?_) λj=>?_
    ·refine wB 3 I<|Jn I I<|Jn I I<|wB 4 I ?_
     exact JY ⟨rfl,rfl,rfl,(congrArg (λb=>some (av b)) (by rw[aq];simp_all [Yp]<;>omega)),trivial⟩ we tM
    refine wB 6 I ?_;refine Qn (t:=28) rfl (λf=>?_) λf=>?_
    ·refine wB 9 I ?_;exact JY ⟨rfl,rfl,rfl,(congrArg (λb=>some (av b)) (by rw[aq];simp_all [Yp]<;>omega)),trivial⟩ we tM
    refine wB 7 I ?_;exact JY ⟨rfl,rfl,rfl,(congrArg (λb=>some (av b)) (by rw[aq];simp_all [Yp]<;>omega)),trivial⟩ we tM
   refine wB 12 I ?_;refine Qn (t:=28) rfl (λf=>?_) λf=>?_
   ·refine wB 9 I ?_;exact JY ⟨rfl,rfl,rfl,(congrArg (λb=>some (av b)) (by rw[aq];simp_all [Yp]<;>omega)),trivial⟩ we tM
   refine wB 7 I ?_;exact JY ⟨rfl,rfl,rfl,(congrArg (λb=>some (av b)) (by rw[aq];simp_all [Yp]<;>omega)),trivial⟩ we tM
  simp only[aa,ab];refine ZZ [(0,_),(7,_)] [(46,.bool ((!EK c)))] wm ?_ ?_
  ·refine wA 2 I<|QA (XL I)<|wW I ?_
   refine Qn (t:=35) rfl (λA=>?_) λA=>?_
   ·refine wB 6 I ?_;refine Qn (t:=39) rfl (λz=>?_) λz=>?_
    ·refine wB 6 I ?_;refine Qn (t:=43) rfl (λy=>?_) λy=>?_
     ·refine wB 6 I ?_;exact JY ⟨rfl,rfl,(congrArg (λb=>some (av b)) (by clear a;rw[aq];cases M:Yp c<;>simp_all [EK]<;>omega)),trivial⟩ we tM
     refine wB 4 I ?_;exact JY ⟨rfl,rfl,(congrArg (λb=>some (av b)) (by clear a;rw[aq];cases M:Yp c<;>simp_all [EK]<;>omega)),trivial⟩ we tM
    refine wB 8 I ?_;exact JY ⟨rfl,rfl,(congrArg (λb=>some (av b)) (by clear a;rw[aq];cases M:Yp c<;>simp_all [EK]<;>omega)),trivial⟩ we tM
   refine wB 12 I ?_;exact JY ⟨rfl,rfl,(congrArg (λb=>some (av b)) (by clear a;rw[aq];cases M:Yp c<;>simp_all [EK]<;>omega)),trivial⟩ we tM
  simp only[aa,ab];refine QQ I (λhc=>?_) λhc=>?_
  ·have n:EK (el s i.i).toNat=false:=by
    rw[Jb hi];rcases a with ⟨_,h2,_⟩ | ⟨h2,_⟩
    ·rw[<-h2];simpa using hc
    exact Ay h2
   refine wA 6 I ?_
   repeat first|refine Q6 ?_|refine Qv ?_
   exact wg I I (congrArg av (by unfold cN;rw[i.hit hi n];rfl)) tL
  have g:EK c=true:=by simpa using hc
  have l:s[i.i].toNat<128/\c=s[i.i].toNat/\D=1:=by
   rcases a with h | ⟨_,h2⟩
   ·exact h
   rw[Ay h2]at g;cases g
  have E:D=1:=l.2.2;have L:EK (el s i.i).toNat=true:=by rw[Jb hi,<-l.2.1];exact g
  refine QN<|Qj ?_
  exact Ql (i.next hi L) (by show s.length-(i.i+1)<s.length-i.i;omega) wm ((by rw[show nsW (some (c,D))=1 from E];exact aQ _)) λF h=>⟨h.1,trivial⟩
 obtain rfl:o=none:=by
  cases o with
  |none=>rfl
  |some x=>cases hc
 have m:s.length<=i.i:=N;refine Qx ?_
 repeat first|refine QY ?_|refine QO tH ?_
 refine QZ<|wE 4 I<|QA (Xc I Zm)<|wB 2 I ?_
 refine Qn (t:=50) rfl (λu=>?_) λu=>?_
 ·refine wB 3 I<|QA (Xc I Zm)<|wD 7 I ?_
  exact wg I I (congrArg av (by unfold cN;rw[i.stop m];rw[aq];simp at *;simp_all<;>omega)) tL
 refine wD 8 I ?_;exact wg I I (congrArg av (by unfold cN;rw[i.stop m];rw[aq];simp at *;simp_all<;>omega)) tL
structure Xz where
 nm:Sr
 nl:List (List UInt8)
 rt:Sr
 rl:List NQ
 st:Sr
 sl:List (List UInt8×List UInt8)
variable{y:Xz}
@[reducible] def Xz.v (y:Xz):Value:=.agg #[.slice y.nm.q y.nm.n y.nm.cap,.slice y.rt.q y.rt.n y.rt.cap,.slice y.st.q y.st.n y.st.cap]
structure X4(F:Gs)(y:Xz):Prop where
 nm:Qy F y.nm.q y.nm.n 1 (y.nl.map tx)
 rt:Qy F y.rt.q y.rt.n 1 (y.rl.map λe=>e.1.v)
 pl:IT F y.rl
 st:Qy F y.st.q y.st.n 2 (y.sl.flatMap NU)
 jL:y.nl.length=y.nm.n
 Ka:y.rl.length=y.rt.n
 P0:y.sl.length=y.st.n
theorem X4.le(h:X4 F y)(k:Gs.le F F'):X4 F' y:=⟨h.nm.le k,h.rt.le k,h.pl.le k,h.st.le k,h.jL,h.Ka,h.P0⟩
structure GJ(y:Xz):Prop where
 nn:y.nm.n<=1000000
 nc:y.nm.n<=y.nm.cap
 nt:∀s∈y.nl,s.length<=9223372036854775807
 rn:y.rt.n<=1000000
 tm:∀e∈y.rl,Up e
 sn:y.st.n<=1000000
 st:∀s∈y.sl,s.1.length<=1000000/\s.2.length<=1000000
def EL(nl:List (List UInt8))(i:Nat):Int:=Qs [if(!cN (el nl i))=true then 8 else 0,if decide (el nl i∈nl.take i)=true then 9 else 0]
def DX(nl:List (List UInt8)):Int:=Qs ((aE nl.length).map (EL nl))
def Bz(nl:List (List UInt8))(a:List Pt)(sl:List (List UInt8×List UInt8)):Int :=
 if nl.length=0 then 12 else if nl.length>24 then 5 else if a.length≠nl.length\/sl.length≠nl.length then 2 else
  Qs [DX nl,Qs (a.map λp=>Zh p nl.length),Qs (sl.map λs=>Xd s.1 s.2)]
def Xz.e(y:Xz):Int:=Bz y.nl (y.rl.map λe=>ZX e.2) y.sl
theorem Zn{l:List Int}:Qs (0::l)=Qs l:=by simp[Qs]
theorem Zf{x:Int}{l:List Int}(h:x≠0):Qs (x::l)=x:=by simp[Qs,h]
theorem Bh{b:Bool}{e:Int}(a:Fits F w):Qf prog 197 [.bool b,.int .i64 e] w F (.int .i64 (if b=true then e else 0)):=by
 refine QU.intro (G:=λF=>True) func197 rfl tH rfl rfl a tL<|wa<|wZ rfl<|QG<|wb rfl<|QE<|QC ?_
 refine QQ I (λhc=>?_) λhc=>?_
 ·refine wA 7 I ?_;exact wg I I (congrArg (ah .i64) (by rw[if_pos hc])) tL
 refine wC 8 I ?_;exact wg I I (congrArg (ah .i64) (by rw[if_neg (by rw[hc];decide)])) tL
theorem Be{b:Bool}{e:Int}(a:Fits F w):Qf prog 160 [.bool b,.int .i64 e] w F (.int .i64 (if b=true then e else 0)):=by
 refine QU.intro (G:=λF=>True) func160 rfl tH rfl rfl a tL<|wa<|wZ rfl<|QG<|wb rfl<|QE<|QC ?_
 refine QQ I (λhc=>?_) λhc=>?_
 ·refine wA 7 I ?_;exact wg I I (congrArg (ah .i64) (by rw[if_pos hc])) tL
 refine wC 8 I ?_;exact wg I I (congrArg (ah .i64) (by rw[if_neg (by rw[hc];decide)])) tL
theorem EW{q:Option Addr}{l:List Int}(m:Fits F w)(j:Qy F q n 1 (l.map Jo))(o:n<=1000000000):Qf prog 196 [.slice q n c] w F (.int .i64 (Qs l)):=by
 have k:l.length=n:=by have:=j.1;simpa using this
 have a:Qs l=Qs (l.map id):=by rw[bT]
 refine QU.intro (G:=λF=>Qy F q n 1 (l.map Jo)) func196 rfl tH rfl rfl m (λF' h=>j.le h)<|wa<|wZ rfl<|QG<|wb rfl<|QA (Qg rfl ZM)<|wW rfl<|wY<|QV<|J9 (ι:=X7 l id) [(5,_),(6,_)] (λi=>[(7,.int .i64 ((i.i:Nat):Int))]) (λi=>l.length-i.i) (X7.start _ _) wm wk λi=>?_
 simp only[aa,ab];have hi:=i.le;refine wA 6 I ?_;refine QQ I (λhc=>?_) λhc=>?_
 ·have b:i.i<l.length:=tD<|wi hc
  refine wC 6 I<|QA (Q3 (n:=n) i.i tM rfl rfl ZM YS O)<|QA (JA (n:=n) ((i.i)*1) tM O rfl YS (XT (f:=Jo) (l:=l) O))<|wD 9 I ?_
  refine QQ I (λhc=>?_) λhc=>?_
  ·have h12:id (el l i.i)≠0:=bne_iff_ne.1 hc;refine wA 7 I ?_
   repeat first|refine Q6 ?_|refine Qv ?_
   exact wg I I (congrArg (ah .i64) (a ▸ i.hit b h12)) tL
  have h12:id (el l i.i)=0:=bne_eq_false_iff_eq.1 hc;refine QN<|Qj<|QC<|QB<|QA (Qu I I O)<|wB 2 I ?_
  exact Ql (i.next b h12) (by show l.length-(i.i+1)<l.length-i.i;omega) wu we tM
 have g:l.length<=i.i:=tD<|wj hc
 refine Qx ?_
 repeat first|refine QY ?_|refine QO tH ?_
 refine QZ<|wE 7 I ?_
 exact wg I I (congrArg (ah .i64) (a ▸ i.stop g)) tL
theorem YV{q:Option Addr}{l:List Int}(m:Fits F w)(j:Qy F q n 1 (l.map Jo))(o:n<=1000000000):Qf prog 106 [.slice q n c] w F (.int .i64 (Qs l)):=by
 have k:l.length=n:=by have:=j.1;simpa using this
 have a:Qs l=Qs (l.map id):=by rw[bT]
 refine QU.intro (G:=λF=>Qy F q n 1 (l.map Jo)) func106 rfl tH rfl rfl m (λF' h=>j.le h)<|wa<|wZ rfl<|QG<|wb rfl<|QA (Qg rfl ZM)<|wW rfl<|wY<|QV<|J9 (ι:=X7 l id) [(5,_),(6,_)] (λi=>[(7,.int .i64 ((i.i:Nat):Int))]) (λi=>l.length-i.i) (X7.start _ _) wm wk λi=>?_
 simp only[aa,ab];have hi:=i.le;refine wA 6 I ?_;refine QQ I (λhc=>?_) λhc=>?_
 ·have b:i.i<l.length:=tD<|wi hc
  refine wC 6 I<|QA (Q3 (n:=n) i.i tM rfl rfl ZM YS O)<|QA (JA (n:=n) ((i.i)*1) tM O rfl YS (XT (f:=Jo) (l:=l) O))<|wD 9 I ?_
  refine QQ I (λhc=>?_) λhc=>?_
  ·have h12:id (el l i.i)≠0:=bne_iff_ne.1 hc;refine wA 7 I ?_
   repeat first|refine Q6 ?_|refine Qv ?_
   exact wg I I (congrArg (ah .i64) (a ▸ i.hit b h12)) tL
  have h12:id (el l i.i)=0:=bne_eq_false_iff_eq.1 hc;refine QN<|Qj<|QC<|QB<|QA (Qu I I O)<|wB 2 I ?_
  exact Ql (i.next b h12) (by show l.length-(i.i+1)<l.length-i.i;omega) wu we tM
 have g:l.length<=i.i:=tD<|wj hc
 refine Qx ?_
 repeat first|refine QY ?_|refine QO tH ?_
 refine QZ<|wE 7 I ?_
 exact wg I I (congrArg (ah .i64) (a ▸ i.stop g)) tL
theorem Fh{q:Option Addr}{f:Nat}{ls:List NQ}{fE:NQ->Int}(u:Fits F w)(o:∀F F',Gs.le F F'->G0 F->G0 F')(h0:G0 F)(s:Qy F q n 1 (ls.map λe=>e.1.v))(x:ls.length=n)(hb:n<=1000000)(hc:∀e∈ls,∀w F,Fits F w->G0 F->Qf prog f (c1++[e.1.v]++c2) w F (.int .i64 (fE e))):
  Qf prog 200 [.slice q n c,.func (.func f) c1.toArray c2.toArray] w F (.int .i64 (Qs (ls.map fE))):=by
 refine QU.intro (G:=λF=>G0 F/\Qy F q n 1 (ls.map λe=>e.1.v)) func200 rfl tH rfl rfl u (λF' h=>⟨o F F' h h0,s.le h⟩)<|wa<|wZ rfl<|QG<|wb rfl<|QA (Qg rfl VJ)<|wW rfl<|wY<|QV<|J9 (ι:=X7 ls fE) [(1,_),(8,_),(9,_)] (λi=>[(10,.int .i64 ((i.i:Nat):Int))]) (λi=>ls.length-i.i) (X7.start _ _) wu wk λi=>?_
 simp only[aa,ab];have hi:=i.le;refine wA 6 I ?_;refine QQ I (λa=>?_) λa=>?_
 ·have b:i.i<ls.length:=tD<|wi a
  have m:=Qw b;refine wC 6 I<|QA (Q3 (n:=n) i.i tO rfl rfl VJ Vu O)<|QA (JA (n:=n) ((i.i)*1) tO O rfl Vu (XT (f:=λe:NQ=>e.1.v) (l:=ls) O))<|wD 7 I<|Ge (c1:=c1) (c2:=c2) rfl rfl (λw F f k=>hc _ m w F f k.1) λ_=>wD 9 I ?_
  refine QQ I (λa=>?_) λa=>?_
  ·have g:=bne_iff_ne.1 a;refine wA 7 I ?_
   repeat first|refine Q6 ?_|refine Qv ?_
   exact wg I I (congrArg (ah .i64) (i.hit b g)) tL
  have g:=bne_eq_false_iff_eq.1 a;refine QN<|Qj<|QC<|QB<|QA (Qu I I O)<|wB 2 I ?_
  exact Ql (i.next b g) (by show ls.length-(i.i+1)<ls.length-i.i;omega) wv we tN
 have j:ls.length<=i.i:=tD<|wj a
 refine Qx ?_
 repeat first|refine QY ?_|refine QO tH ?_
 refine QZ<|wE 7 I ?_
 exact wg I I (congrArg (ah .i64) (i.stop j)) tL
theorem Fg{q:Option Addr}{f:Nat}{ls:List (List UInt8×List UInt8)}{fE:List UInt8×List UInt8->Int}(y:Fits F w)(u:∀F F',Gs.le F F'->G0 F->G0 F')(h0:G0 F)(x:Qy F q n 2 (ls.flatMap NU))(z:ls.length=n)(hb:n<=1000000)(hc:∀e∈ls,∀w F,Fits F w->G0 F->Qf prog f (c1++[.agg #[tx e.1,tx e.2]]++c2) w F (.int .i64 (fE e))):
  Qf prog 202 [.slice q n c,.func (.func f) c1.toArray c2.toArray] w F (.int .i64 (Qs (ls.map fE))):=by
 refine QU.intro (G:=λF=>G0 F/\Qy F q n 2 (ls.flatMap NU)) func202 rfl tH rfl rfl y (λF' h=>⟨u F F' h h0,x.le h⟩)<|wa<|wZ rfl<|QG<|wb rfl<|QA (Qg rfl XF)<|wW rfl<|wY<|QV<|J9 (ι:=X7 ls fE) [(1,_),(8,_),(9,_)] (λi=>[(10,.int .i64 ((i.i:Nat):Int))]) (λi=>ls.length-i.i) (X7.start _ _) wu wk λi=>?_
 simp only[aa,ab];have hi:=i.le;refine wA 6 I ?_;refine QQ I (λa=>?_) λa=>?_
 ·have b:i.i<ls.length:=tD<|wi a
  have o:=Qw b;refine wC 6 I<|QA (Q3 (n:=n) i.i tO rfl rfl XF Jd O)<|QA (JZ (n:=n) (vs:=[tx (el ls i.i).1,tx (el ls i.i).2]) ((i.i)*2) tO O rfl Jd I λj v s=>JN (f:=NU) (l:=ls) K1 O s)<|Qc Xa λA=>QW (vs:=[_,_]) I I I Jd I .here .h2 wm<|wD 5 I<|QA (wN I Jd .here)<|Ge (c1:=c1) (c2:=c2) rfl rfl (λw F f k=>hc _ o w F f k.1) λ_=>wD 8 I ?_
  refine QC ?_;refine QQ I (λa=>?_) λa=>?_
  ·have g:=bne_iff_ne.1 a;refine wA 7 I ?_
   repeat first|refine Q6 ?_|refine Qv ?_
   exact wg I I (congrArg (ah .i64) (i.hit b g)) tL
  have g:=bne_eq_false_iff_eq.1 a;refine QN<|Qj<|QC<|QB<|QA (Qu I I O)<|wB 2 I ?_
  exact Ql (i.next b g) (by show ls.length-(i.i+1)<ls.length-i.i;omega) wv (tQ) tN
 have m:ls.length<=i.i:=tD<|wj a
 refine Qx ?_
 repeat first|refine QY ?_|refine QO tH ?_
 refine QZ<|wE 7 I ?_
 exact wg I I (congrArg (ah .i64) (i.stop m)) tL
structure NoI(l:List (List UInt8))(v:List UInt8) where
 i:Nat
 le:i<=l.length
 h:∀j,j<i->¬el l j=v
theorem NoI.stop{l:List (List UInt8)}{v:List UInt8}(s:NoI l v)(h:l.length<=s.i):¬v∈l:=λhm=>by
 obtain⟨j,a,e⟩:=bN hm;exact s.h j O (by rw[Jb a];exact e)
theorem yL{q:Option Addr}{l:List (List UInt8)}{v:List UInt8}(u:Fits F w)(m:Qy F q n 1 (l.map tx))(x:l.length=n)(hb:n<=1000000000):QU prog 273 [.slice q n c,tx v] w F (λ(k:Int)=>.int .i64 k) (λk _=>decide (k>=0)=decide (v∈l)):=by
 refine QU.intro (G:=λF=>Qy F q n 1 (l.map tx)) func273 rfl tH rfl rfl u (λF' o=>m.le o)<|wa<|wZ rfl<|QG<|wb rfl<|QA (Qg rfl Kw)<|wW rfl<|wY<|QV<|J9 (ι:=NoI l v) [(0,_),(1,_),(7,_)] (λi=>[(8,.int .i64 ((i.i:Nat):Int))]) (λi=>l.length-i.i) (⟨0,ao _,λj h=>absurd h (ba _)⟩) wu wk λi=>?_
 simp only[aa,ab];have hi:=i.le;refine wA 6 I ?_;refine QQ I (λhc=>?_) λhc=>?_
 ·have b:i.i<l.length:=tD<|wi hc
  refine wC 15 I<|QA (Q3 (n:=n) i.i tM rfl rfl Kw Du O)<|QA (JA (n:=n) ((i.i)*1) tM O rfl Du (XT (f:=tx) (l:=l) O))<|QA (VE I I)<|QE<|QC ?_
  refine QQ I (λhc=>?_) λhc=>?_
  ·have a:v=el l i.i:=by simpa using hc
   have hm:v∈l:=by rw[a];exact Qw b
   refine wA 7 I ?_
   repeat first|refine Q6 ?_|refine Qv ?_
   exact QP (((i.i:Nat):Int)) I (wT I) (rfl) λF m=>by simp[hm]
  have a:¬v=el l i.i:=by simpa using hc
  refine QN<|Qj<|QC<|QB<|QA (Qu I I O)<|wB 2 I ?_
  exact Ql (⟨i.i+1,b,λj s=>by rcases Nat.lt_succ_iff_lt_or_eq.1 s with h | rfl;exact i.h j h;exact λe=>a e.symm⟩) (by show l.length-(i.i+1)<l.length-i.i;omega) wv we tM
 have g:l.length<=i.i:=tD<|wj hc
 refine Qx ?_
 repeat first|refine QY ?_|refine QO tH ?_
 refine QZ<|wE 7 I ?_
 exact QP ((-1:Int)) I (wT I) (rfl) λF m=>by simp[i.stop g]
theorem Fx{q:Option Addr}{l:List (List UInt8)}{v:List UInt8}(i:Fits F w)(g:Qy F q n 1 (l.map tx))(b:l.length=n)(hb:n<=1000000000):Qf prog 199 [.slice q n c,tx v] w F (.bool (decide (v∈l))):=by
 refine QU.intro (G:=λF=>Qy F q n 1 (l.map tx)) func199 rfl tH rfl rfl i (λF' a=>g.le a)<|wa<|wZ rfl<|wb rfl<|wW rfl<|QI rfl (λ_ _ f k=>yL f k b hb) λj=>JQ _ (λ_ _ f h=>h.2) λh7=>QA (QT rfl rfl rfl)<|wZ rfl<|QX ?_
 exact wg I I (congrArg av h7.symm) tL
theorem UT{b:Nat}{v:Int}{e:NQ}(j:Fits F w)(g:JE F)(l:F b=some (#[.int .i64 v],3))(i:Qy F e.1.q e.1.n 2 (e.2.flatMap VM))(m:Yy F e.2)(ht:Up e)(h:0<=v/\v<=24):Qf prog 201 [e.1.v,.pointer (some ⟨b,0,none⟩)] w F (.int .i64 (Zh (ZX e.2) v)):=by
 obtain⟨⟨q,n,c⟩,ps⟩:=e;dsimp only[Sr.v]at *
 refine QU.intro (G:=λF=>JE F/\F b=some (#[.int .i64 v],3)/\Qy F q n 2 (ps.flatMap VM)/\Yy F ps) func201 rfl tH rfl rfl j (λF' a=>⟨g.le a,a _ _ l,i.le a,m.le a⟩)<|wa<|wZ rfl<|wb rfl<|QA (JA (n:=1) ((0)*1) (λF h9=>(Qy.of (n:=1) (sz:=1) h9.2.1 rfl)) O rfl JK rfl)<|QI rfl (λ_ _ f k=>G6 f k.1 k.2.2.1 k.2.2.2 ht.1 ht.2.1 ht.2.2) λ_=>wZ rfl<|QX ?_
 exact wg I I (congrArg (ah .i64) (by unfold Hc;rw[if_pos ((Bs v).2 h)])) tL
def DS(n r s:Nat):Int:=Qs [if decide ((n:Int)=0)=true then 12 else 0,if decide ((n:Int)>24)=true then 5 else 0,if((r:Int) != n||(s:Int) != n)=true then 2 else 0]
theorem Qy.QCd{q:Option Addr}{l:List (List UInt8)}(h:Qy F q n 1 (l.map tx))(o:l.length=n)(hk:k<=l.length):Qy F q k 1 ((l.take k).map tx):=by
 refine⟨tK,λh0=>?_⟩;obtain⟨b,off,a,T,m,i,f⟩:=h.2 O;refine⟨b,off,a,T,m,i,λj u hu=>f j u ?_⟩;rw[List.map_take]at hu;have c:j<k:=by
  rcases bp j k with g | g
  ·exact g
  rw[bc tK]at hu;cases hu
 rw[List.getElem?_take_of_lt c]at hu;exact hu
theorem j8{nl:List (List UInt8)}{a:List Pt}{sl:List (List UInt8×List UInt8)}(h:DS nl.length a.length sl.length≠0):Bz nl a sl=DS nl.length a.length sl.length:=by
 unfold Bz;by_cases h1:nl.length=0
 ·rw[if_pos h1];simp[DS,h1,Qs]
 rw[if_neg h1];by_cases h2:nl.length>24
 ·rw[if_pos h2];simp[DS,h1,Qs];omega
 rw[if_neg h2];by_cases h3:a.length≠nl.length\/sl.length≠nl.length
 ·rw[if_pos h3];have e:((a.length:Int) != nl.length||(sl.length:Int) != nl.length)=true:=by simp only[aX,bne_iff_ne];omega
  unfold DS;rw[e];simp[h1,Qs];omega
 exfalso;apply h;have e:((a.length:Int) != nl.length||(sl.length:Int) != nl.length)=false:=by rw[Bool.eq_false_iff];simp only[ne_eq,aX,bne_iff_ne];omega
 unfold DS;rw[e];simp[h1,Qs];omega
theorem Tq{r s:Nat}(h:DS n r s=0):n≠0/\n<=24/\r=n/\s=n:=by
 unfold DS at h;by_cases h1:n=0
 ·simp[h1,Qs]at h
 by_cases h2:n>24
 ·have:((n:Int)>24):=O;simp[h1,this,Qs]at h
 by_cases h3:r≠n\/s≠n
 ·have e:((r:Int) != n||(s:Int) != n)=true:=by simp only[aX,bne_iff_ne];omega
  have h4:¬((n:Int)>24):=O;rw[e]at h;simp[h1,h4,Qs]at h
 omega
theorem LD{nl:List (List UInt8)}{a:List Pt}{sl:List (List UInt8×List UInt8)}(h:DS nl.length a.length sl.length=0):Bz nl a sl=Qs [DX nl,Qs (a.map λp=>Zh p nl.length),Qs (sl.map λs=>Xd s.1 s.2)]:=by
 obtain⟨h1,h2,h3,h4⟩:=Tq h;unfold Bz;rw[if_neg h1,if_neg O,if_neg O]
theorem Zs(X:Fits F w)(H:JE F)(hy:X4 F y)(ht:GJ y):Qf prog 107 [y.v] w F (.int .i64 y.e):=by
 obtain⟨⟨N,nn,Z⟩,nl,⟨M,D,Y⟩,A,⟨L,C,cs⟩,sl⟩:=y;have c:=hy.jL;have u:=hy.Ka;have o:=hy.P0;have V:=ht.nn;have Q:=ht.rn;have P:=ht.sn;dsimp only at *
 dsimp only[Xz.v];refine QU.intro (G:=λF=>JE F/\X4 F ⟨⟨N,nn,Z⟩,nl,⟨M,D,Y⟩,A,⟨L,C,cs⟩,sl⟩) func107 rfl tH rfl rfl X (λF' B=>⟨H.le B,hy.le B⟩)<|wa<|Qp rfl (vs:=[_,_,_]) rfl λb1=>wZ rfl<|wa<|QA (QH rfl Hj VU)<|QA (Qe rfl VU .here .h1)<|QA (Qg rfl Kw)<|Qc R4 λb3=>QW (vs:=[_]) rfl rfl rfl JK rfl .here .h1 wk<|wY<|QG ?_
 refine ZZ [(1,_),(3,_)] [(4,.int .i64 (DS nn D C))] wm ?_ ?_
 ·refine JG we mixed tE<|QK (Qe I JK .here .h1)<|QK (QT I I I)<|QR I (λ_ _ f k=>Bh f ) λ_=>QK (Qe I JK .here .h1)<|QK (QT I I I)<|QR I (λ_ _ f k=>Bh f ) λ_=>QK (QH I VY Z6)<|QK (Qe I Z6 .u1 (.skip .h1))<|QK (Qg I VJ)<|QK (Qe I JK .here .h1)<|QK (QT I I I)<|QK (QD I) ?_
  refine Gg (t:=22) rfl (λm=>?_) λm=>?_
  ·refine Jj I I I<|Jj I I I<|Jj I I I<|Jj I I I<|Jj I I I<|QK (Qh I I I)<|QR I (λ_ _ f k=>Bh f ) λ_=>?_
   refine Qo I (Q5 ZM) YS Ht I I (λK=>?_) (λw h=>h.imp tP λF h=>h.1.1.1);refine QR I (λ_ _ f k=>EW f (Qy.of (cs:=aT Jo [_,_,_]) k.2 I) tF) (λ_=>QK (QF I)<|Q7 ?_);exact JY ⟨rfl,rfl,(congrArg (λb=>some (ah .i64 b)) (by unfold DS;rw[m];rfl)),trivial⟩ we λ_ h=>h.1.1.1.1.1
  refine XA I I<|QK (QH I YM J0)<|XA I I<|QK (Qe I J0 .u1 (.skip (.skip .h1)))<|XA I I<|QK (Qg I XF)<|XA I I<|QK (Qe I JK .here .h1)<|XA I I<|QK (QT I I I)<|QK (Qd I I I)<|QR I (λ_ _ f k=>Bh f ) λ_=>?_
  refine Qo I (Q5 ZM) YS Ht I I (λK=>?_) (λw h=>h.imp tP λF h=>h.1.1.1);refine QR I (λ_ _ f k=>EW f (Qy.of (cs:=aT Jo [_,_,_]) k.2 I) tF) (λ_=>QK (QF I)<|Q7 ?_);exact JY ⟨rfl,rfl,(congrArg (λb=>some (ah .i64 b)) (by unfold DS;rw[m];rfl)),trivial⟩ we λ_ h=>h.1.1.1.1.1
 simp only[aa,ab];refine wA 6 I ?_;refine QQ I (λhc=>?_) λhc=>?_
 ·have z:=bne_iff_ne.1 hc;refine wA 7 I ?_;exact wg I I (congrArg (ah .i64) (by show Bz nl (A.map λe=>ZX e.2) sl=DS nn D C;rw[j8 (by rw[ae,c,u,o];exact z),ae,c,u,o])) tL
 have z:=bne_eq_false_iff_eq.1 hc;have h0:DS nl.length (A.map λe=>ZX e.2).length sl.length=0:=by rw[ae,c,u,o];exact z
 obtain⟨U,T,S,R⟩:=Tq z;refine wC 5 I<|QA (QH I Hj VU)<|QA (Qe I VU .u1 .h1)<|QA (Qg I Kw)<|wD 4 I<|J9 (ι:=X7 (aE nl.length) (EL nl)) [(1,_),(3,_),(36,_),(37,_)] (λi=>[(38,.int .i64 ((i.i:Nat):Int))]) (λi=>nl.length-i.i) (X7.start _ _) wv wk λi=>?_
 simp only[aa,ab];have hi:=i.le;rw[au]at hi;refine wA 6 I ?_;refine QQ I (λhc=>?_) λhc=>?_
 ·have a:i.i<nl.length:=tD<|wi hc
  refine wC 7 I<|QA (Q3 (n:=nn) i.i (λF h9=>h9.2.nm) rfl rfl Kw Du O)<|QA (JA (n:=nn) ((i.i)*1) (λF h9=>h9.2.nm) O rfl Du (XT (f:=tx) (l:=nl) O))<|wD 5 I<|JG we mixed tE<|QK (QD I)<|QR I (λ_ _ f k=>pP f (ht.nt _ (Qw a))) λ_=>QK (XL I)<|QR I (λ_ _ f k=>Bh f ) λ_=>QK (QH I Hj VU)<|QK (Qe I VU .u1 .h1)<|QK (QD I)<|QK (NV i.i I I I Kw Du (by have:=ht.nc;dsimp only at this;omega))<|QK (QD I)<|QR I (λ_ _ f k=>Fx f (Qy.QCd (l:=nl) k.1.1.2.nm c hi) (by rw[bA];omega) O) λ_=>?_
  refine QR I (λ_ _ f k=>Bh f ) (λ_=>?_);refine Qo I (Q5 ZM) YS Ht I I (λb54=>?_) (λw h=>h.imp tP λF h=>h.1.1.1.1);refine QR I (λ_ _ f k=>EW f (Qy.of (cs:=aT Jo [_,_]) k.2 I) tF) (λ_=>QK (QF I)<|Q7<|wE 7 I ?_);refine QQ I (λhc=>?_) λhc=>?_
  ·have x:=bne_iff_ne.1 hc;refine wA 7 I ?_
   repeat first|refine Q6 ?_|refine Qv ?_
   exact wg I I (congrArg (ah .i64) (by show Bz nl (A.map λe=>ZX e.2) sl=_;rw[LD h0];have h9:=i.hit (by rw[au];exact a) (by rw[ZG a];exact x);rw[ZG a]at h9;rw[show DX nl=EL nl i.i from h9,Zf (show EL nl i.i≠0 from x)];rfl)) tL
  have x:=bne_eq_false_iff_eq.1 hc;refine QN<|Qj<|QC<|QB<|QA (Qu I I O)<|wB 2 I ?_
  exact Ql (i.next (by rw[au];exact a) (by rw[ZG a];exact x)) (by show nl.length-(i.i+1)<nl.length-i.i;omega) wy we λF h=>h.1.1.1.1.1.1
 have E:nl.length<=i.i:=tD<|wj hc
 refine Qx ?_
 repeat first|refine QY ?_|refine QO tH ?_
 refine QZ<|QC<|QG<|DP (b:=b3) .here<|JG we mixed tE<|QK (QH I VY Z6)<|QK (Qe I Z6 .here (.skip .h1))<|QK (VD I)<|QR I (λw F g k=>Fh (f:=201) (fE:=λe=>Zh (ZX e.2) (nn:Int)) (c1:=[]) (c2:=[.pointer (some ⟨b3,0,none⟩)]) (G0:=λF=>JE F/\IT F A/\F b3=some (#[.int .i64 (nn:Int)],3)) g (λF F' j h=>⟨h.1.le j,h.2.1.le j,j _ _ h.2.2⟩) ⟨k.1.1,k.1.2.pl,k.2⟩ k.1.2.rt u O λe he w F g h=>UT g h.1 h.2.2 (h.2.1 e he).1 (h.2.1 e he).2 (ht.tm e he) O) λ_=>QK (QH I YM J0)<|QK (Qe I J0 .here (.skip (.skip .h1)))<|QR I (λw F g k=>Fg (f:=108) (fE:=λs=>Xd s.1 s.2) (c1:=[]) (c2:=[]) (G0:=λF=>JE F) g (λF F' j h=>h.le j) k.1.1.1 k.1.1.2.st o O λe he w F g h=>W2 g h (ht.st e he)) λ_=>?_
 refine Qo I (Q5 ZM) YS Ht I I (λb67=>?_) (λw h=>h.imp tP λF h=>h.1.1);refine QR I (λ_ _ f k=>EW f (Qy.of (cs:=aT Jo [_,_]) k.2 I) tF) (λ_=>QK (QF I)<|Q7<|QC<|QX ?_);exact wg I I (congrArg (ah .i64) (by show Bz nl (A.map λe=>ZX e.2) sl=_;rw[LD h0];have h9:=i.stop (by rw[au];exact E);rw[show DX nl=0 from h9,Zn,aY,c];rfl)) tL
theorem Fe(i:Nat):0<ZW i:=by
 unfold ZW;exact Rat.pow_pos tG
theorem yj(x:Rat)(i:Nat):x/ZW i*ZW i=x:=by
 rw[bW,bR,Rat.inv_mul_cancel _ (N2 i),bM]
theorem Az(x:Rat)(i:Nat):x*ZW i/ZW i=x:=by
 rw[bW,bR,Rat.mul_inv_cancel _ (N2 i),bM]
theorem Db(x:Rat)(i:Nat):0<=x-YL x i/\x-YL x i<ZW i:=by
 have h0:=yj x i;have hp:=Fe i;unfold YL;generalize x/ZW i=t at h0 ⊢;generalize ZW i=g at h0 hp ⊢;have h1:=Rat.floor_le t;have h2:=Rat.lt_floor_add_one t;rw[Rat.intCast_add]at h2;generalize ((t.floor:Int):Rat)=k at h1 h2 ⊢;have:((1:Int):Rat)=1:=rfl;rw[this]at h2;have a:t-k<1:=by grind
 have c:=Rat.mul_le_mul_of_nonneg_right h1 (bJ hp);have b:=Rat.mul_lt_mul_of_pos_right a hp;subst h0;constructor<;>grind
theorem TZ(y:Rat)(i:Nat):0<=-YL (-y) i-y/\-YL (-y) i-y<ZW i:=by
 have:=Db (-y) i;constructor<;>grind
theorem QBS{x y:Rat}(h:x<=y)(i:Nat):YL x i<=-YL (-y) i:=by
 have h1:=(Db x i).1;have h2:=(TZ y i).1
 grind
section
variable{w:World}{F:Gs}
theorem TM{x:Rat}{b:Int}(hx:JW x<=k)(hb:b<=64):JW (ax (x*((two b:Int):Rat)).floor (two b))<=k+140:=by
 have h1:=YN x ((two b:Int):Rat);have h2:=GK (two b);have h3:=j6 hb;have h4:=Px (x*((two b:Int):Rat));have h5:=j5 (n:=(x*((two b:Int):Rat)).floor) (b:=b) (k:=k+129) O hb;omega
end
theorem EJ(h:Xf a k)(hb:b<=64):Xf (Z7 a b) (k+140):=by
 refine⟨TM h.1 hb,?_⟩;have h2:=TM (x:=-a.2) (b:=b) (k:=k) (by rw[Vh];exact h.2) hb;have e:(Z7 a b).2 = -(ax (-a.2*((two b:Int):Rat)).floor (two b)):=by
  unfold Z7;dsimp only;rw[Rat.neg_mul,<-Rat.neg_divInt]
 rw[e,Vh];exact h2
theorem FW{c:Rat×Rat}(h:Xf a k)(b:Xf c k):Xf (XC a c) k:=⟨D2 h.1 b.1,DC h.2 b.2⟩
theorem FE{f:Rat×Rat->Rat×Rat->Rat×Rat}{a b:List (Rat×Rat)}{P:Rat×Rat->Prop}(h:∀i,i<a.length->P (f (el a i) (el b i))):∀x∈DJ f a b,P x:=λx hx=>by
 obtain⟨i,hi,rfl⟩:=List.mem_map.1 hx;exact h i (List.mem_range.1 hi)
theorem EP(f:Rat×Rat->Rat×Rat->Rat×Rat)(a b:List (Rat×Rat)):(DJ f a b).length=a.length:=by simp[DJ]
theorem Z3(rs:List (List Tm))(fr t2:Rat)(x on:List (Rat×Rat)):(YP rs fr t2 x on).length=x.length:=by simp[YP]
theorem yP(b:Int)(hb:0<=b/\b<=64):JW (((two b:Int):Rat))⁻¹<=200:=by
 have h0:((two b:Int):Rat).num≠0:=Tn b;refine aV (Np h0) ?_;rw[<-BV];have h1:=VP (((2:Int):Rat)) b.toNat;have h2:JW (((2:Int):Rat))<=2:=tF;have h3:b.toNat*JW (((2:Int):Rat))<=64*2:=aU O h2;omega
theorem jn{c:Rat×Rat}(h:Xf a 2000000)(f:Xf c 2000000)(hb:0<=b/\b<=64):Xf (SM b a c) 9000000:=by
 have hz:=FW h f;have i:=hz.1;have g:=hz.2;have u:=BX (XC a c).2 (XC a c).1;have s:=YN ((XC a c).2-(XC a c).1) (ax 1 4);have o:JW (ax 1 4)<=4:=tF;have n:=yP b hb;have m:=Kz (((XC a c).2-(XC a c).1)*ax 1 4) (((two b:Int):Rat))⁻¹;have l:=BX (XC a c).1 (((XC a c).2-(XC a c).1)*ax 1 4+(((two b:Int):Rat))⁻¹);have j:=Kz (XC a c).2 (((XC a c).2-(XC a c).1)*ax 1 4+(((two b:Int):Rat))⁻¹);exact(EJ (k:=7000000) ⟨by show JW ((XC a c).1-_)<=_;omega,by show JW ((XC a c).2+_)<=_;omega⟩ hb.2).mono tF
structure OD(rs:List (List Tm))(fr t2:Rat)(x:List (Rat×Rat)):Prop where
 x0:∀a∈x,Xf a 2000000
 m0:kT rs fr t2 x x
 s0:∀a∈YP rs fr t2 x x,Xf a 2000000
 m1:∀v,v.length=x.length->(∀a∈v,Xf a 2400)->kT rs fr t2 x v
 s1:∀v,v.length=x.length->(∀a∈v,Xf a 2400)->∀a∈YP rs fr t2 x v,Xf a 2000000
theorem DZ{v:List (Rat×Rat)}(h:¬Jx v=true):∀a∈v,Xf a 2400:=λa ha=>by
 have h1:(Jh a.1||Jh a.2)=false:=by
  cases e:(Jh a.1||Jh a.2)with
  |false=>rfl
  |true=>exact absurd (by unfold Jx;exact List.any_eq_true.2 ⟨a,ha,e⟩) h
 rw[Bool.or_eq_false_iff]at h1;exact⟨Gm h1.1,Gm h1.2⟩
structure TrI(rs:List (List Tm))(fr t2:Rat)(x:List (Rat×Rat))(b:Int) where
 j:Nat
 c:Sr×List Yx
 vs:List (Rat×Rat)
 le:j<=12
 h:Yu rs fr t2 x b=D1 rs fr t2 x b (12-j) vs
 len:vs.length=x.length
 sz:∀a∈vs,Xf a 10000000
def trV(o:Option (List (Rat×Rat)))(c:Sr×List Yx):Value:=.tuple #[c.1.v,.bool o.isSome]
def trF(F:Gs)(o:Option (List (Rat×Rat)))(c:Sr×List Yx):Prop:=match o with
 |none=>c.1=⟨none,0,0⟩
 |some l=>J7 F c.1 c.2 l
theorem OQ{y:jP}{x:jR}{rs:List (List Tm)}{vs vx:List (Rat×Rat)}(hF:Fits F w)(H:JE F)(hy:Gd F y rs vs)(hx:Mc F x fr t2 vx)(hn:y.rt.n=x.bx.n)(hnx:x.bx.n<=100000)(hn0:0<x.bx.n)(hpn:∀e∈y.ps,e.1.n<=1000000)(hb:0<=b/\b<=64)(D:OD rs fr t2 vx):
  QU prog 173 [.pointer (some ⟨y.b,0,none⟩),x.v,.int .i64 b] w F (trV (Yu rs fr t2 vx b)) (λc F=>trF F (Yu rs fr t2 vx b) c):=by
 have s:=hx.bx.YI;have hne:((((2:Int):Rat))^b.toNat).num≠0:=by rw[BV];exact Tn b
 refine QU.intro (G:=λF=>JE F/\Gd F y rs vs/\Mc F x fr t2 vx) func173 rfl tH rfl rfl hF (λF' N=>⟨H.le N,hy.le N,hx.le N⟩)<|wa<|Qp rfl (vs:=[_,_,_,_,_,_,_,_,_]) rfl λb4=>Qp rfl (vs:=[_]) rfl λQ=>wX rfl<|wZ rfl<|uM<|QG<|Kr (r:=[0,1,2,3,4,5]) tS mixed tE rfl<|Jr 1 tE rfl rfl<|QK (Qe rfl JK .here .h1)<|JC<|Kq (A:=[4]) (r:=[0,2,3,5]) tE<|XQ 0 tE tE tH tS tM rfl rfl rfl (λ_=>rfl) (λ_ _ f k=>TN (n:=2) f tF tF) λc13=>XQ 2 tE tE tH tS tN rfl rfl rfl (λ_=>rfl) (λ_ _ f h=>MR (x:=c13) (r:=(((2:Int):Rat))) (k:=b) f h.2 hb.1 O (by have h2:JW (((2:Int):Rat))<=2:=tF;have h3:b.toNat*JW (((2:Int):Rat))<=64*2:=aU O h2;omega)) λc15=>XQ 3 tE tE tH tS (λ_ h=>h.1.1) rfl rfl rfl (λ_=>rfl) (λ_ _ f k=>Lz (x:=c15) (r:=(((2:Int):Rat))^b.toNat) f k.2 hne (by have h1:=VP (((2:Int):Rat)) b.toNat;have h2:JW (((2:Int):Rat))<=2:=tF;have h3:b.toNat*JW (((2:Int):Rat))<=64*2:=aU O h2;omega)) λc16=>VH 4 (d:=8) (T:=135) tE tE tH tS (λ_ h=>h.1.1.1) tE tE Jw λb8=>Zv (vs:=[_,_,_,_]) 5 tE tE tH (.cons _ tS) (λ_ h=>h.1.1.1) rfl rfl (λ_=>rfl) (λ_=>rfl) rfl QS I .here tS .h4 wv ?_
 refine WL ?_ tE;refine QC<|QG<|DP (b:=Q) .u1<|JG we mixed tE<|QK (QH I Bj JH)<|QK (Qe I JH .u1 (.skip (.skip (.skip (.skip (.skip (.skip (.skip (.skip .h1)))))))))<|QK (QD I)<|QK (QJ (vs:=[_,_,_,_,_,_,_,_,_]) I Hv .u1 .h9 rfl)<|QK (QH I Bj JH)<|QK (Qe I JH .u1 (.skip (.skip (.skip (.skip (.skip (.skip (.skip (.skip .h1)))))))))<|QR I (λ_ _ f k=>MF f k.1.1.1.1.2.1 k.1.1.1.1.2.2 k.1.1.1.1.2.2.bx hn O O hpn D.m0) λc23=>QK (VD I)<|QR I (λw F u k=>EN (f:=248) (c1:=[]) (c2:=[.pointer (some ⟨Q,0,none⟩)]) (g:=λa c=>Z7 (XC a c) b) (G0:=(λF=>F Q=some (#[.int .i64 b],3))) u (λF F' m h=>m _ _ h) k.1.2 k.1.1.1.1.1.2.2.bx k.2 (by rw[<-k.2.YI,Z3,s];exact aD _) O λi hi x1 y1 w F u hG z E=>QAn u z E hG hb ((D.x0 _ (Qw O)).mono tF) ((D.s0 _ (Qw (by rw[Z3];omega))).mono tF)) λc25=>QK (QF I)<|Q7<|QC<|QG<|DP (b:=b8) .here<|QB<|QA (VD I)<|wD 5 I ?_
 refine wD 4 I<|uN<|wE 8 I<|JU (ι:=TrI rs fr t2 vx b) [(0,_),(4,_),(5,_),(10,_)] (λi=>[(9,.slice i.c.1.q i.c.1.n i.c.1.cap),(11,.slice none 0 0),(27,.int .i64 ((i.j:Nat):Int))]) (λi=>[(b4,.cells (gM x).toArray 183 (0,0))]) (λi F=>J7 F i.c.1 i.c.2 i.vs) (λi=>12-i.j) (⟨0,c25,_,ao _,rfl,by rw[EP],FE λi hi=>(EJ (FW (D.x0 _ (Qw hi)) (D.s0 _ (Qw (by rw[Z3];exact hi)))) hb.2).mono tF⟩) wv wu we (λ_ h=>h.1.2) λi=>?_
 simp only[aa,ab];have hi:=i.le;refine XV _ (λ_ _ f h=>ar h.2.len (ar h.2.YI h.2.val)) (λhvp=>?_);obtain⟨hvl,U,K⟩:=hvp;have hVm:∀e∈i.c.2,e.2∈i.vs:=λe he=>by rw[<-K];exact aj (f:=λe:Yx=>e.2) he
 have L:(i.c.2.any λe:Yx=>Jh e.2.1||Jh e.2.2)=Jx i.vs:=by unfold Jx;rw[<-K,List.any_map];simp only[Function.comp_def]
 refine wA 6 I ?_;refine QQ I (λhc=>?_) λhc=>?_
 ·have hlt:i.j<12:=tD<|wi hc
  refine wC 8 I<|QI I (λw F g k=>yz (f:=209) (c1:=[]) (c2:=[]) (p:=λe:Yx=>Jh e.2.1||Jh e.2.2) (G0:=λF=>JE F/\YA F i.c.2) g (λF F' m h=>⟨h.1.le m,λe he=>(h.2 e he).le m⟩) ⟨k.1.1.1.1.1.1.1.1.1,k.2.sp⟩ k.2.row k.2.len (by rw[<-k.2.YI,i.len,s];omega) λe he w F g hG=>Fp g hG.1 (hG.2 e he) ((i.sz _ (hVm _ he)).mono tF)) λ_=>QE<|QC ?_
  refine QQ I (λhc=>?_) λhc=>?_
  ·have C:Jx i.vs=true:=by rw[<-L];exact hc
   have l:Yu rs fr t2 vx b=none:=by rw[i.h,show 12-i.j=(12-(i.j+1))+1 by omega];unfold D1;rw[if_pos C]
   refine Qx ?_
   repeat first|refine QY ?_|refine QO tH ?_
   refine QZ<|wE 5 I<|QA (RB I I JO)<|wD 5 I<|QCb ?_
   exact Je ((⟨none,0,0⟩,[])) I (wU I I) (by unfold trV;rw[l];rfl) λF _=>by rw[l];rfl
  have C:¬Jx i.vs=true:=by rw[<-L,hc];decide
  have o:=DZ C;refine wC 5 I<|QA (QJ (vs:=[_,_,_,_,_,_,_,_,_]) I Hv .here .h9 rfl)<|wW I<|QI I (λ_ _ f k=>MF f k.1.1.1.1.1.1.1.1.1.2.1 k.1.1.1.1.1.1.1.1.1.2.2 k.1.2 hn (by rw[<-k.1.2.YI,i.len,s];omega) O hpn (D.m1 _ i.len o)) λc34=>JQ _ (λ_ _ f h=>h.2.YI) λh34v=>wD 8 I<|QI I (λ_ _ f k=>TR f k.2 k.1.1.2 (by rw[<-k.2.YI,<-k.1.1.2.YI,Z3,i.len];exact aD _) (by rw[<-k.2.YI,Z3];omega) (λa ha=>(D.s1 _ i.len o a ha).mono tF) λa ha=>(i.sz a ha).mono tF) λ_=>QE<|QC ?_
  refine QQ I (λhc=>?_) λhc=>?_
  ·have l:Yu rs fr t2 vx b=some ((YP rs fr t2 vx i.vs).map λa=>Z7 a b):=by rw[i.h,show 12-i.j=(12-(i.j+1))+1 by omega];unfold D1;rw[if_neg C,if_pos hc]
   refine wA 4 I<|QA (VD I)<|QI I (λw F u k=>EN (f:=252) (c1:=[]) (c2:=[.pointer (some ⟨Q,0,none⟩)]) (g:=λa _=>Z7 a b) (G0:=(λF=>F Q=some (#[.int .i64 b],3))) u (λF F' m h=>m _ _ h) k.1.1.1.1.1.1.1.2 k.1.2 k.1.2 (aD _) (by rw[<-k.1.2.YI,Z3];omega) λi2 hi x1 y1 w F u hG z E=>QAl u z hG hb ((D.s1 _ i.len o _ (Qw O)).mono tF)) λc41=>wD 4 I ?_
   repeat first|refine QY ?_|refine QO tH ?_
   refine QZ<|QC<|wb rfl<|wW rfl<|QA (RB rfl rfl JO)<|wX rfl<|wZ rfl<|QX<|QCb<|QCa _ (λw F hF ⟨⟨⟨⟨⟨⟨⟨⟨⟨⟨⟨⟨⟨H,hY,hX⟩,h13⟩,Z⟩,Y⟩,S⟩,X⟩,V⟩,R⟩,hV⟩,_⟩,h34⟩,_⟩,P⟩=>ar P.YI (P.row.ptr (by rw[<-P.YI,EP,Z3];omega))) λB=>?_
   obtain⟨_,qb,qo,B⟩:=B;exact Je (c41) rfl (wU I I) (by unfold trV;rw[l,B];rfl) λF h9=>by rw[l];have h:=h9.2;rw[FD]at h;exact h
  have M:Yu rs fr t2 vx b=D1 rs fr t2 vx b (12-(i.j+1)) (DJ (SM b) i.vs (YP rs fr t2 vx i.vs)):=by
   rw[i.h,show 12-i.j=(12-(i.j+1))+1 by omega]
   conv=>lhs;unfold D1
   rw[if_neg C,if_neg (by rw[hc];decide)]
  refine wC 6 I<|QI I (λw F u k=>EN (f:=250) (c1:=[]) (c2:=[.pointer (some ⟨b8,0,none⟩),.pointer (some ⟨Q,0,none⟩)]) (g:=SM b) (G0:=(λF=>F b8=some ((Kj c16).toArray,135)/\JR F c16 (((two b:Int):Rat))⁻¹/\F Q=some (#[.int .i64 b],3))) u (λF F' m h=>⟨m _ _ h.1,h.2.1.le m,m _ _ h.2.2⟩) ⟨k.1.1.1.1.2,(by rw[<-BV];exact k.1.1.1.1.1.1.1.1.2),k.1.1.1.1.1.1.1.2⟩ k.1.1.1.2 k.1.2 (by rw[<-k.1.2.YI,<-k.1.1.1.2.YI,Z3,i.len];exact aD _) (by rw[<-k.1.1.1.2.YI,i.len];omega) λi2 hi x1 y1 w F u hG z E=>QAm u z E hG.1 hG.2.1 hG.2.2 hb ((o _ (Qw (by rw[U];exact hi))).mono tF) (D.s1 _ i.len o _ (Qw (by rw[Z3,<-i.len,U];exact hi)))) λc45=>wB 2 I<|Qj<|QC<|QB<|QA (Qu I I O)<|wB 2 I ?_
  exact Ql (⟨i.j+1,c45,DJ (SM b) i.vs (YP rs fr t2 vx i.vs),hlt,M,by rw[EP,i.len],FE λk hk=>(jn ((o _ (Qw hk)).mono tF) (D.s1 _ i.len o _ (Qw (by rw[Z3,<-i.len];exact hk))) hb).mono tF⟩) (by show 12-(i.j+1)<12-i.j;omega) w6 we λF ⟨⟨⟨⟨⟨⟨⟨⟨⟨⟨⟨⟨⟨H,hY,hX⟩,h13⟩,Z⟩,Y⟩,S⟩,X⟩,V⟩,R⟩,hV⟩,_⟩,h34⟩,_⟩,h45⟩=>⟨⟨⟨⟨⟨⟨⟨⟨⟨H,hY,hX⟩,h13⟩,Z⟩,Y⟩,S⟩,X⟩,V⟩,R⟩,h45⟩
 have hge:i.j=12:=tD<|wj hc
 have l:Yu rs fr t2 vx b=none:=by rw[i.h,hge];rfl
 refine Qx ?_
 repeat first|refine QY ?_|refine QO tH ?_
 refine QZ<|wE 5 I<|QA (RB I I JO)<|wD 5 I<|QCb ?_
 exact Je ((⟨none,0,0⟩,[])) I (wU I I) (by unfold trV;rw[l];rfl) λF _=>by rw[l];rfl
theorem Qy.pre{b sz:Nat}{cs:List Value}(h:F b=some ((cs++rest).toArray,T))(a:cs.length=n*sz):Qy F (some ⟨b,0,none⟩) n sz cs :=
 ⟨a,λ_=>⟨b,0,_,T,rfl,h,λj u hu=>by
  have c:j<cs.length:=by rcases bp j cs.length with g | g;exact g;rw[bc g]at hu;cases hu
  rw[ay,ag,bC c];exact hu⟩⟩
theorem QAa{h:Nat}{es:List VB}{v:List (List (Rat×Rat))}(f:F h=some ((es.map (VB.sl k)).toArray,173))(a:∀e∈es,F e.b=some ((Xl e.l++e.rest).toArray,168))(i:∀e∈es,YA F e.l)(g:es.length=n)(ok:∀e∈es,e.Ok k)(hq:es.map (λe=>e.l.map (·.2))=v):
  Qy F (some ⟨h,0,none⟩) n 1 ((es.map λe=>((⟨some ⟨e.b,0,none⟩,k,e.c⟩:Sr),e.l)).map λe=>e.1.v)/\IS F (es.map λe=>((⟨some ⟨e.b,0,none⟩,k,e.c⟩:Sr),e.l))/\(es.map λe=>((⟨some ⟨e.b,0,none⟩,k,e.c⟩:Sr),e.l)).map (λe=>e.2.map (·.2))=v/\(es.map λe=>((⟨some ⟨e.b,0,none⟩,k,e.c⟩:Sr),e.l)).length=n/\n<=n:=by
 refine⟨?_,λx hx=>?_,by rw[aY];exact hq,by rw[ae,g],aD _⟩
 ·rw[aY];exact Qy.of f (by rw[ae,g,bX])
 obtain⟨e,he,rfl⟩:=List.mem_map.1 hx;exact⟨Qy.pre (a e he) (by rw[GQ,(ok e he).hl]),i e he,rfl,(ok e he).hl,(ok e he).hc⟩
theorem Ue{l:List Yx}(h:l.map (·.2)=(aE n).map f)(hi:i<n):(el l i).2=f i:=by
 have a:l.length=n:=by have:=congrArg bh h;simpa using this
 have h1:el (l.map (·.2)) i=f i:=by rw[h,VR _ hi]
 rw[Jb (by rw[ae];omega),aL]at h1;rw[Jb (show i<l.length by omega)];exact h1
theorem Ah{N:Nat}{m:Sl}{b:Tmp}{a c:Code}{r:Loop}(h:kS N m #[b] a c r)(v1:Value)(h1:b<N):Ja (df:=DH) N ((b,v1)::m) (Ty r #[v1]):=by
 have e:Ty r #[v1]=(({ tmps:=r.tmps,defers:=[] }:Act).put (some b) v1):=by
  unfold Ty;rw[h.params];simp[Act.put]
 rw[e];exact h.QEf.put (d:=some b) (by simpa[J5]using h1) v1
theorem Pv{y:jP}{x:Sp}{rs:List (List Tm)}{vs:List (Rat×Rat)}{t:Rat×Rat}{n:Nat}(hF:Fits F w)(hy:Gd F y rs vs)(hx:Jl F x t)(hb:J7 F rb lb vb)(hn:y.rt.n=rb.n)(hnb:rb.n<=1000)(hn0:0<rb.n)(hor:n<=999)(hpn:∀e∈y.ps,e.1.n<=100000)(hok:Uo rs t vb n):
  QU prog 112 [.pointer (some ⟨y.b,0,none⟩),x.v,rb.v,.int .i64 (n:Int)] w F (λ(c:Sr×List U5)=>c.1.v) (λc F=>Qy F c.1.q c.1.n 1 (c.2.map λe=>e.1.v)/\IS F c.2/\c.2.map (λe=>e.2.map (·.2))=J1 rs t vb n/\c.2.length=c.1.n/\c.1.n<=c.1.cap):=by
 have hvb:=hb.YI;have hlb:=hb.len;have hrl:=hy.Ka;have hpl0:=hy.len;dsimp only[Sr.v];refine QU.QB6 (G:=λF=>Gd F y rs vs/\Jl F x t/\J7 F rb lb vb) func112 rfl tH rfl rfl hF (λF' hF'=>⟨hy.le hF',hx.le hF',hb.le hF'⟩)<|wa<|Qp rfl (vs:=[_,_,_,_,_,_,_,_]) rfl λb5=>wZ rfl<|wb rfl<|QA (Qg rfl JO)<|Mm (n:=rb.n) (bytes:=24) rfl rfl W9 XK WT rfl QCK O O λbk=>wZ rfl<|QG<|wb rfl<|QA (Qg rfl JO)<|wW rfl<|wY<|QV<|JU (ι:=TaJ vb) [(0,_),(2,_),(3,_),(5,_),(8,_),(9,_),(23,_),(24,_)] (λi=>[(25,.int .i64 ((i.i:Nat):Int))]) (λi=>(bk,.cells (i.es.map (VB.sl 1)++Xg [.slice none 0 0] (rb.n-i.i)).toArray 173 (0,0))::(b5,.cells (Xs x).toArray 168 (0,0))::i.M) (λi F=>∀e∈i.es,YA F e.l) (λi=>rb.n-i.i) (⟨0,[],[],rfl,ao _,rfl,(λ_ h=>by cases h),rfl⟩) w8 wk we (λ_ _ _ h=>by cases h) λi=>?_
 simp only[aa,ab];have hi:=i.le;refine wA 6 I ?_;refine QQ I (λhc=>?_) λhc=>?_
 ·have hlt:i.i<rb.n:=tD<|wi hc
  refine wC 7 I<|QA (Q3 (n:=rb.n) i.i (λF h9=>h9.1.2.2.row) rfl rfl JO Qk O)<|QA (JZ (n:=rb.n) (vs:=[.int .i64 (el lb i.i).1.lo.n.s,.slice (el lb i.i).1.lo.n.q (el lb i.i).1.lo.n.n (el lb i.i).1.lo.n.cap,.int .i64 (el lb i.i).1.lo.d.s,.slice (el lb i.i).1.lo.d.q (el lb i.i).1.lo.d.n (el lb i.i).1.lo.d.cap,.int .i64 (el lb i.i).1.hi.n.s,.slice (el lb i.i).1.hi.n.q (el lb i.i).1.hi.n.n (el lb i.i).1.hi.n.cap,.int .i64 (el lb i.i).1.hi.d.s,.slice (el lb i.i).1.hi.d.q (el lb i.i).1.hi.d.n (el lb i.i).1.hi.d.cap]) ((i.i)*8) (λF h9=>h9.1.2.2.row) O rfl Qk I λj v hv=>JN (f:=(λe=>Xs e.1)) (l:=lb) (λ_=>rfl) O hv)<|Qc Jk λb11=>wX I<|QW (vs:=[_,_,_,_,_,_,_,_]) I I I Qk I .here .h8 w8<|wD 5 I<|QA (wQ I Qk .here)<|Y2 I (Q5 JO) Qk Jk I I λb33=>QA (JL (i:=i.i) rfl rfl W9 XK O)<|QA (QH I Xk JH)<|QW (vs:=[.slice (some ⟨b33,0,none⟩) 1 1]) I I I JH I .u2 (xo (by rw[ae,i.len]) O) wk<|QE<|Qj<|QC ?_
  refine QB<|QA (Qu I I O)<|wB 2 I<|OJ (List.perm_append_singleton _ _).symm ?_
  exact Ql (⟨i.i+1,i.es++[⟨b33,1,[(( el lb i.i).1,el vb i.i)],[]⟩],i.M++[_],by rw[i.hM,ak];rfl,O,by rw[aF,i.len];rfl,λe he=>by
     rcases List.mem_append.1 he with he | he
     ·exact i.ok e he
     ·rw[List.mem_singleton.1 he];exact⟨rfl,rfl,aD _,by show 1<=maxLen;decide⟩,by rw[ak,i.hq,XE (show i.i<vb.length by omega),ak];rfl⟩) (by show rb.n-(i.i+1)<rb.n-i.i;omega) w9 (.cons _ (by rw[ak];exact aQ _)) (λF ⟨⟨R,U,V⟩,Y⟩=>⟨⟨R,U,V⟩,λe he=>by
     rcases List.mem_append.1 he with he | he
     ·exact Y e he
     rw[List.mem_singleton.1 he];intro e2 he2;rw[List.mem_singleton.1 he2];exact V.at hlt⟩)
 have hge:i.i=rb.n:=tD<|wj hc
 refine Qx ?_
 repeat first|refine QY ?_|refine QO tH ?_
 refine QZ<|wE 9 I<|II (ι:=TkJ rs t vb n) (λg=>K5 g.Ds) [(0,_),(2,_),(5,_),(8,_),(9,_),(37,_)] (λg=>[(38,.int .i64 ((g.k:Nat):Int))]) (λg=>(bk,.cells (g.es.map (VB.sl (g.k+1))).toArray 173 (0,0))::(b5,.cells (Xs x).toArray 168 (0,0))::(g.M++dfB g.Ds)) (λg F=>∀e∈g.es,YA F e.l) (λg=>n-g.k) (⟨0,i.es,i.M,[],i.hM,ao _,by rw[i.len];omega,i.ok,by rw[i.hq,hge,<-hvb,aP];rfl⟩) I wz wk ((by show List.Sublist (_::_::(i.M++[])) _;rw[aK,show rb.n-i.i=0 by omega];simp only[Xg,aK];exact aQ _)) tO λg=>?_
 letI:Df:=K5 g.Ds;simp only[aa,ab];have hk:=g.le;have hlen2:=g.len;refine wA 6 I ?_;refine QQ I (λhc=>?_) λhc=>?_
 ·have hk2:g.k<n:=tD<|wi hc
  refine wC 12 I<|QI I (λ_ _ f k=>TN (n:=0) f tF tF) λc41=>wW I<|XX I (bw _) (Rq (x:=c41) (a:=((0:Int):Rat)) (n:=g.k) tO O) λc43=>?_
  obtain⟨m,X,P,hv43,hob43⟩:=zJ c43.hr O;rw[hv43,hob43];rw[bL];refine Qc WT (λb13=>QW (vs:=[_]) I I I XK I .here .h1 wk<|wY<|wa<|QA (QH I Xk JH)<|QA (Qe I JH .here .h1)<|QA (wQ I Qk .u3)<|QA (JL (i:=0) rfl rfl JO Qk O)<|QW (vs:=Xs x) rfl rfl rfl Qk I .u1 (xp (i:=0) (by rw[P.hl];omega) x t) w8<|QE<|QC ?_);refine Us (ι:=List Yx) [(0,_),(2,_),(5,_),(8,_),(9,_),(12,_),(13,_),(37,_),(38,_)] (λlt=>[]) (λlt=>(b13,.cells [.slice (some ⟨m.b,0,none⟩) (g.k+1) m.c].toArray 173 (0,0))::(m.b,.cells (Xl lt++m.rest).toArray 168 (0,0))::(bk,.cells (g.es.map (VB.sl (g.k+1))).toArray 173 (0,0))::(b5,.cells (Xs x).toArray 168 (0,0))::(g.M++dfB g.Ds)) (λlt F=>YA F lt/\lt.map (·.2)=KC t g.k/\lt.length=g.k+1) w9 ?_ ?_
  ·refine wA 6 I ?_;refine QQ I (λhc=>?_) λhc=>?_
   ·have hkp:0<g.k:=tD<|wi hc
    refine JG (.cons_cons _ (.cons _ tS)) mixed tE<|QK (QH I Xk JH)<|QK (Qe I JH .here .h1)<|QR I (λ_ _ f k=>TN (n:=1) f tF tF) λc52=>QR I (λ_ _ f k=>Kc (x:=c52) (r:=((1:Int):Rat)) f k.2) λc53=>QK (JL (i:=1) rfl rfl JO Qk O)<|JV (vs:=Xs c53) rfl rfl rfl Qk I .u1 tT (λ_ h=>h.1.1) (xp (i:=1) (by rw[aZ,P.hl];omega) c53 (((1:Int):Rat),((1:Int):Rat))) w8<|Q7 ?_
    exact Za ((m.l.set 0 (x,t)).set 1 (c53,(((1:Int):Rat),((1:Int):Rat)))) w9 we λF ⟨⟨⟨⟨⟨⟨⟨R,U,V⟩,Y⟩,A⟩,K⟩,E⟩,h52⟩,h53⟩=>⟨⟨⟨⟨⟨⟨R,U,V⟩,Y⟩,A⟩,K⟩,E⟩,⟨YA.set (YA.set (by rw[X];exact E) U) h53,by rw[bG,bG,X,c43.hl,Uh];exact p8 t O,by rw[aZ,aZ,P.hl]⟩⟩
   have hkp:¬0<g.k:=tD<|wj hc
   refine QN ?_;exact Za (m.l.set 0 (x,t)) w9 we λF ⟨⟨⟨⟨⟨R,U,V⟩,Y⟩,A⟩,K⟩,E⟩=>⟨⟨⟨⟨⟨⟨R,U,V⟩,Y⟩,A⟩,K⟩,E⟩,⟨YA.set (by rw[X];exact E) U,by rw[bG,X,c43.hl,Uh,show g.k=0 by omega];exact y7 t,by rw[aZ,P.hl]⟩⟩
  intro lt;simp only[aa,ab];refine XV _ (λ_ _ f h=>h.2.2) (λhlt2p=>?_);obtain⟨hltq,hlt2⟩:=hlt2p;refine wb I<|QA (Qg I JO)<|Mm (n:=rb.n) (bytes:=128) rfl rfl JO Qk Jk I Wh O O λbn=>wD 7 I<|QA (Zd I)<|QA (QH I Bi YK)<|QA (Zq (c:=#[y.rt.v,y.st.v]) (T':=188) rfl YK (λF h9=>h9.1.1.1.1.1.1.Hs) rfl)<|QA (Qg I YT)<|wD 4 I<|II (ι:=TrJ (nxQ rs t vb g.k) rb.n) (λu=>K5 u.Ds) [(0,_),(2,_),(5,_),(8,_),(9,_),(12,_),(13,_),(14,_),(37,_),(38,_),(61,_),(62,_)] (λu=>[(63,.int .i64 ((u.i:Nat):Int))]) (λu=>(bn,.cells (Xl u.nx++Xg [.int .i64 0,.slice none 0 0,.int .i64 0,.slice none 0 0,.int .i64 0,.slice none 0 0,.int .i64 0,.slice none 0 0] (rb.n-u.i)).toArray 168 (0,0))::(b13,.cells [.slice (some ⟨m.b,0,none⟩) (g.k+1) m.c].toArray 173 (0,0))::(m.b,.cells (Xl lt++m.rest).toArray 168 (0,0))::(bk,.cells (g.es.map (VB.sl (g.k+1))).toArray 173 (0,0))::(b5,.cells (Xs x).toArray 168 (0,0))::(g.M++dfB u.Ds)) (λu F=>YA F u.nx) (λu=>rb.n-u.i) (⟨0,[],g.Ds,ao _,rfl,rfl⟩) I tC wk we (λ_ _=>YA.nil _) λu=>?_
  letI:Df:=K5 u.Ds;simp only[aa,ab];have hi3l:=u.le;refine wA 6 I ?_;refine QQ I (λhc=>?_) λhc=>?_
  ·have hi3':u.i<y.rt.n:=tD<|wi hc
   have hi3:u.i<rs.length:=O;have hem:=Qw (show u.i<y.ps.length by omega);obtain⟨pp,hpp⟩:∃pp,pp=el y.ps u.i:=⟨_,rfl⟩;have hpp1:=hpn _ hem;rw[<-hpp]at hpp1;have hall:(((⟨m.b,m.c,lt⟩:VL)::(g.es.map VB.vl)).map VL.q)=(KC t g.k::J1 rs t vb g.k):=by rw[aR,aY];show lt.map (·.2)::g.es.map (λe=>e.l.map (·.2))=_;rw[hltq,g.hq]
   have hto:=hok.tm _ hk2 _ hi3;refine XV _ (λw F hF ⟨⟨⟨⟨⟨⟨⟨R,U,V⟩,Y⟩,A⟩,K⟩,E⟩,S⟩,hN⟩=>ar (R.at hi3').2 (R.at hi3').1.2.2.2.2) (λhY2=>?_);rw[<-hpp]at hY2;have hpe:J4 pp.2=el rs u.i:=hY2.1;have hpl2:pp.2.length=pp.1.n:=hY2.2;rw[<-hpe]at hto;refine wC 7 I<|QA (Q3 (n:=y.rt.n) (u.i) (λF h9=>h9.1.1.1.1.1.1.1.row) rfl rfl YT YJ O)<|QA (JA (n:=y.rt.n) ((u.i)*1) (λF h9=>h9.1.1.1.1.1.1.1.row) O rfl YJ (XT (f:=λe:WS=>e.1.v) (l:=y.ps) O))<|wD 6 I<|QI I (λ_ _ f k=>TN (n:=0) f tF tF) λc68=>wW I<|QI I (λ_ _ f h=>Rp (x:=c68) (a:=((0:Int):Rat)) (n:=g.k) f h.2 O) λc70=>Qc WT λb17=>QW (vs:=[_]) I I I XK I .here .h1 wk<|wD 5 I ?_
   refine wB 2 I<|QA (QJ (vs:=[_]) I XK .u2 .h1 rfl)<|wW I<|QI I (λ_ _ f h=>gE (p:=el y.ps u.i) (n:=g.k) (v1:=.slice (some ⟨m.b,0,none⟩) (g.k+1) m.c) (v2:=.slice (some ⟨bk,0,none⟩) rb.n rb.n) f ⟨rfl,rfl⟩ ⟨rfl,rfl⟩) λT=>wY<|QV<|QCW (λG hG=>?_)
   have hlsl:(g.es.map VB.vl).length=rb.n:=by rw[ae];omega
   have hfacts:∀F,G F->(F T.1=some (#[pp.1.v],190)/\F T.2.1=some (#[.int .i64 (g.k:Int)],3)/\F T.2.2.1=some (#[.slice (some ⟨m.b,0,none⟩) (g.k+1) m.c],173)/\F T.2.2.2=some (#[.slice (some ⟨bk,0,none⟩) (g.es.map VB.vl).length rb.n],163))/\XU F pp.1 pp.2 (J4 pp.2)/\∀e∈(⟨m.b,m.c,lt⟩:VL)::g.es.map VB.vl,YA F e.l:=λF h=>by
    obtain⟨⟨⟨⟨⟨⟨⟨⟨⟨⟨R,U,V⟩,Y⟩,A⟩,K⟩,E⟩,S⟩,hN⟩,h68⟩,h70⟩,h75⟩:=hG F h;rw[hpp,hlsl];exact⟨h75,(R.at hi3').1,λe he=>by
     rcases List.mem_cons.1 he with rfl | he
     ·exact S.1
     obtain⟨e',he',rfl⟩:=List.mem_map.1 he;exact A e' he'⟩
   have h70f:∀F,G F->J7 F c70.1 c70.2 (Ek 0 g.k):=λF h=>by obtain⟨⟨⟨⟨⟨⟨⟨⟨⟨⟨R,U,V⟩,Y⟩,A⟩,K⟩,E⟩,S⟩,hN⟩,h68⟩,h70⟩,h75⟩:=hG F h;exact h70
   refine Ur (Ds:=u.Ds) (ι:=TsS pp.2.length) (λs=>(b17,.cells [.slice s.y.1.q s.y.1.n s.y.1.cap].toArray 173 (0,0))::(bn,.cells (Xl u.nx++Xg [.int .i64 0,.slice none 0 0,.int .i64 0,.slice none 0 0,.int .i64 0,.slice none 0 0,.int .i64 0,.slice none 0 0] (rb.n-u.i)).toArray 168 (0,0))::(b13,.cells [.slice (some ⟨m.b,0,none⟩) (g.k+1) m.c].toArray 173 (0,0))::(m.b,.cells (Xl lt++m.rest).toArray 168 (0,0))::(bk,.cells (g.es.map (VB.sl (g.k+1))).toArray 173 (0,0))::(b5,.cells (Xs x).toArray 168 (0,0))::(g.M++dfB u.Ds)) (λs F=>J7 F s.y.1 s.y.2 (Vw ((J4 pp.2).take s.i) (KC t g.k::J1 rs t vb g.k) g.k)) (λs=>s.i=pp.2.length) rfl rfl (enters_of func275 tH rfl) (λL D r W N hW=>?_) λD s hs=>?_
   ·have hterms:=jy (ι:=TsS pp.2.length) (w0:=w) (F0:=F) (B:=λs=>(L,.loop r)::(D,.deferred (some []))::(b17,.cells [.slice s.y.1.q s.y.1.n s.y.1.cap].toArray 173 (0,0))::(bn,.cells (Xl u.nx++Xg [.int .i64 0,.slice none 0 0,.int .i64 0,.slice none 0 0,.int .i64 0,.slice none 0 0,.int .i64 0,.slice none 0 0] (rb.n-u.i)).toArray 168 (0,0))::(b13,.cells [.slice (some ⟨m.b,0,none⟩) (g.k+1) m.c].toArray 173 (0,0))::(m.b,.cells (Xl lt++m.rest).toArray 168 (0,0))::(bk,.cells (g.es.map (VB.sl (g.k+1))).toArray 173 (0,0))::(b5,.cells (Xs x).toArray 168 (0,0))::(g.M++dfB u.Ds)) (H:=λs F=>G F/\J7 F s.y.1 s.y.2 (Vw ((J4 pp.2).take s.i) (KC t g.k::J1 rs t vb g.k) g.k)) (pos:=λs=>s.i) (p:=pp) (b1:=T.1) (b2:=T.2.1) (b3:=T.2.2.1) (b4:=T.2.2.2) (L:=L) (n:=g.k) (bv:=bk) (cv:=rb.n) (e0:=(⟨m.b,m.c,lt⟩:VL)) (ls:=(g.es.map VB.vl))
     (λs F h=>hfacts F h.1) hpl2 O O (by rw[ae];omega)
     (λs e he=>by
      rcases List.mem_cons.1 he with rfl | he
      ·exact⟨⟨m.rest,tJ⟩,hlt2,P.hc⟩
      obtain⟨e',he',rfl⟩:=List.mem_map.1 he;exact⟨⟨e'.rest,by rw[g.hM];simp only[bF,List.mem_append];exact .inr (.inr (.inr (.inr (.inr (.inr (.inr (.inr (.inl (aj (f:=VB.box) he')))))))))⟩,(g.ok _ he').hl,(g.ok _ he').hc⟩)
     (λs=>by rw[aY];simp only[bF];exact .inr (.inr (.inr (.inr (.inr (.inr (.inl rfl)))))))
     (by rw[hall];exact hto)
     (λG' C s i y W hi hp hst=>?_) ⟨0,c70,ao _⟩ rfl
    ·refine(hterms.2 W (hW.B5 λF h=>⟨h,by rw[aG];exact(h70f F h)⟩)).mono ?_;rintro e w' ⟨c,rfl,h⟩;exact⟨⟨_,rfl⟩,c.1,c.2,h⟩
    letI:Df:=DH;obtain rfl:s.i=i:=hp;rw[hall]at hst;refine I1 hst .here (by rw[N.params];rfl) (Ah N _ tF) ?_;rw[N.assign,N.body];refine Tf (RL L) (λ⟨_,_,h⟩=>h) rfl<|Qc WT λb18=>QW (vs:=[.slice y.1.q y.1.n y.1.cap]) I I I XK I .here .h1 wk<|QE<|uR .u1 N.state<|kY<|Tf (RL L) (λ⟨_,_,h⟩=>h) rfl<|QA (QJ (vs:=[_]) I XK .u3 .h1 rfl)<|QA (QJ (vs:=[_]) I XK .here .h1 rfl) ?_
    have hit:s.i<(J4 pp.2).length:=by rw[Yb];exact hi
    refine QI I (λ_ _ f h=>QBL (ra:=s.y.1) (rb:=y.1) (la:=s.y.2) (lb:=y.2) f h.1.2.2 h.2 (by rw[<-h.1.2.2.YI,<-h.2.YI,KI,Kf];omega) (by rw[<-h.1.2.2.YI,KI];omega) (by rw[hpe];exact hok.sm _ hk2 _ hi3 s.i) λx hx=>hok.mn _ hk2 _ hi3 _ (by rw[<-hpe];exact aj (Qw hi)) x (by have e:=WV rs t vb g.k;rw[bB,e]at hx;exact hx)) (λZ=>QW (vs:=[.slice Z.1.q Z.1.n Z.1.cap]) I I I XK I .u3 .h1 wk<|QE<|Qj ?_);refine uP .u1 (λw1 hw1=>⟨rfl,⟨s.i+1,Z,by show s.i+1<=_;omega⟩,rfl,?_⟩);rw[LU N]at hw1;exact St.imp hw1 (.cons _ we) λF h=>⟨h.1.1.1,h.1.1.2.1,by show J7 F Z.1 Z.2 (Vw ((J4 pp.2).take (s.i+1)) _ _);rw[P8 (by rw[Yb];omega),<-jv hi];exact h.2⟩
   letI:Df:=K5 (D::u.Ds);have Q:∀F,J7 F s.y.1 s.y.2 (Vw ((J4 pp.2).take s.i) (KC t g.k::J1 rs t vb g.k) g.k)->J7 F s.y.1 s.y.2 (Vw (el rs u.i) (KC t g.k::J1 rs t vb g.k) g.k):=λF h=>by
    rw[aS (by rw[Yb];omega),hpe]at h;exact h
   refine Qj<|QC<|XV _ (λ_ _ f h=>ar (Q _ h.2).YI (Q _ h.2).len) λhsv=>?_
   obtain⟨hsv,hsl2⟩:=hsv;rw[KI]at hsv;have hsl:g.k<s.y.1.n:=O;refine Jq 13 (.cons_cons _ (.cons_cons _ (.cons _ (.cons_cons _ (.cons_cons _ (.cons_cons _ (.cons_cons _ tQ))))))) mixed tE tE ?_;simp only[aA,aG,aB,aJ];refine QK (QD I)<|QK (QD I)<|QK (QH I Xk JH)<|QK (Qe I JH .u1 .h1)<|QK (QD I)<|QK (Q3 (n:=s.y.1.n) (g.k) (λF h9=>(Q _ h9.2).row) rfl rfl JO Qk O)<|QK (JZ (n:=s.y.1.n) (vs:=[.int .i64 (el s.y.2 (g.k)).1.lo.n.s,.slice (el s.y.2 (g.k)).1.lo.n.q (el s.y.2 (g.k)).1.lo.n.n (el s.y.2 (g.k)).1.lo.n.cap,.int .i64 (el s.y.2 (g.k)).1.lo.d.s,.slice (el s.y.2 (g.k)).1.lo.d.q (el s.y.2 (g.k)).1.lo.d.n (el s.y.2 (g.k)).1.lo.d.cap,.int .i64 (el s.y.2 (g.k)).1.hi.n.s,.slice (el s.y.2 (g.k)).1.hi.n.q (el s.y.2 (g.k)).1.hi.n.n (el s.y.2 (g.k)).1.hi.n.cap,.int .i64 (el s.y.2 (g.k)).1.hi.d.s,.slice (el s.y.2 (g.k)).1.hi.d.q (el s.y.2 (g.k)).1.hi.d.n (el s.y.2 (g.k)).1.hi.d.cap]) ((g.k)*8) (λF h9=>(Q _ h9.2).row) O rfl Qk I λj v hv=>JN (f:=(λe=>Xs e.1)) (l:=s.y.2) (λ_=>rfl) O hv)<|QK (QD I)<|QK (Qu I I O)<|QR I (λ_ _ f h=>TN (n:=((g.k+1:Nat):Int)) f O O) λc89=>QR I (λ_ _ f h=>Lz (x:=c89) (r:=(((g.k+1:Nat):Int):Rat)) f h.2 (by show((g.k+1:Nat):Int)≠0;omega) (by have h1:=GK ((g.k+1:Nat):Int);have h2:sz ((g.k+1:Nat):Int)<=40:=(XD _ 40).2 O;omega)) λc90=>QR I (λ_ _ f h=>Rg (x:=(el s.y.2 g.k).1) (y:=c90) (a:=el (Vw (el rs u.i) (KC t g.k::J1 rs t vb g.k) g.k) g.k) (r:=(((g.k+1:Nat):Int):Rat)⁻¹) f ((Q _ h.1.1.2).at hsl) h.2 (hok.cf _ hk2 _ hi3) (aV (Np (by show((g.k+1:Nat):Int)≠0;omega)) (by have h1:=GK ((g.k+1:Nat):Int);have h2:sz ((g.k+1:Nat):Int)<=40:=(XD _ 40).2 O;omega))) λc91=>QK (JL (i:=u.i) rfl rfl JO Qk O)<|ZS<|QW (vs:=Xs c91) rfl rfl rfl Qk I .u2 (QBI (z:=[.int .i64 0,.slice none 0 0,.int .i64 0,.slice none 0 0,.int .i64 0,.slice none 0 0,.int .i64 0,.slice none 0 0]) c91 (nxQ rs t vb g.k u.i) rfl u.len O) w8<|QE<|Qj<|QC<|QB<|QA (Qu I I O)<|wB 2 I<|OJ (.trans (.swap _ _ _) (.cons _ (MI [_,_,_,_,_] g.M _ _))) ?_
   exact IQ (⟨u.i+1,u.nx++[(c91,nxQ rs t vb g.k u.i)],D::u.Ds,O,by rw[aF,u.len];rfl,by rw[ak,u.hv,aM,ak];rfl⟩) I (by show rb.n-(u.i+1)<rb.n-u.i;omega) ⟨rfl,rfl,rfl,rfl,rfl,rfl,rfl,rfl,rfl,rfl,rfl,rfl,rfl,trivial⟩ (.cons _ we) λF ⟨⟨⟨⟨hG0,hS⟩,h89⟩,h90⟩,h91⟩=>by obtain⟨⟨⟨⟨⟨⟨⟨⟨⟨⟨R,U,V⟩,Y⟩,A⟩,K⟩,E⟩,S⟩,hN⟩,h68⟩,h70⟩,h75⟩:=hG F hG0;exact⟨⟨⟨⟨⟨⟨⟨R,U,V⟩,Y⟩,A⟩,K⟩,E⟩,S⟩,YA.snoc hN h91⟩
  have hge3:u.i=rb.n:=tD<|wj hc
  refine Qx ?_
  repeat first|refine QY ?_|refine QO tH ?_
  refine QZ<|wE 4 I<|QA (Qg I W9)<|wD 4 I<|JU (ι:=TeJ g.es g.k (nxQ rs t vb g.k)) [(0,_),(2,_),(5,_),(8,_),(9,_),(14,_),(37,_),(38,_),(95,_)] (λo=>[(96,.int .i64 ((o.i:Nat):Int))]) (λo=>(bn,.cells (Xl u.nx++Xg [.int .i64 0,.slice none 0 0,.int .i64 0,.slice none 0 0,.int .i64 0,.slice none 0 0,.int .i64 0,.slice none 0 0] (rb.n-u.i)).toArray 168 (0,0))::(b13,.cells [.slice (some ⟨m.b,0,none⟩) (g.k+1) m.c].toArray 173 (0,0))::(m.b,.cells (Xl lt++m.rest).toArray 168 (0,0))::(bk,.cells (o.e1.map (VB.sl (g.k+2))++(g.es.drop o.i).map (VB.sl (g.k+1))).toArray 173 (0,0))::(b5,.cells (Xs x).toArray 168 (0,0))::(o.M1++(o.M2++dfB u.Ds))) (λo F=>∀e∈o.e1,YA F e.l) (λo=>rb.n-o.i) (⟨0,[],[],g.M,rfl,by rw[g.hM];rfl,ao _,rfl,(λ_ h=>by cases h),rfl⟩) w9 wk we (λ_ _ _ h=>by cases h) λo=>?_
  simp only[aa,ab];have hi4l:=o.le;refine wA 6 I ?_;refine QQ I (λhc=>?_) λhc=>?_
  ·have hlt4:o.i<rb.n:=tD<|wi hc
   have hnx:=u.len;obtain⟨e4,he4⟩:∃e4,el g.es o.i=e4:=⟨_,rfl⟩;have hm4:=Qw (show o.i<g.es.length by omega);have ok4:e4.Ok (g.k+1):=by rw[<-he4];exact g.ok _ hm4
   have hd4:g.es.drop o.i=e4::g.es.drop (o.i+1):=by rw[Bp (show o.i<g.es.length by omega),he4]
   have hnx2:(el u.nx o.i).2=nxQ rs t vb g.k o.i:=Ue u.hv O;have hM4:o.M2=e4.box::(g.es.drop (o.i+1)).map VB.box:=by rw[o.hM2,hd4];rfl
   refine kX (by rw[hM4])<|wC 10 I<|Jq 15 (.cons_cons _ (.cons_cons _ (.cons_cons _ (.cons_cons _ (.cons_cons _ tQ))))) mixed tE tE ?_
   simp only[aA,aG,aB,aJ];refine QK (QD I)<|QK (QD I)<|QK (QD I)<|QK (QD I)<|QK (JL (i:=o.i) rfl rfl W9 XK O)<|QK (QH I Xk JH)<|QK (V1 (v:=.slice (some ⟨e4.b,0,none⟩) (g.k+1) e4.c) rfl JH .u3 (by rw[show 0+o.i*1+0=(o.e1.map (VB.sl (g.k+2))).length by rw[ae,o.len];omega,hd4,aR];simp))<|QK (QD I)<|QK (QD I)<|QK (JL (i:=o.i) rfl rfl JO Qk O)<|QK (Ak (vs:=Xs (el u.nx o.i).1) rfl Qk .here rfl λj v hv=>zM O hv) ?_
   refine Qo I (Q5 JO) Qk Jk I I (λb110=>?_) (λw h=>h.imp (.cons_cons _ (.cons_cons _ (.cons_cons _ (.cons_cons _ (.cons_cons _ tQ))))) tM);refine IM (MI [_,_,_,_,_] o.M1 _ _).symm ?_;refine Yz (ob:=[e4.box]) (n:=g.k+1) (k:=1) (sz:=8) (news:=Xs (el u.nx o.i).1) rfl rfl JO Qk Jk I Wh ok4.own (Src.row (off:=0) tO (λj q hq=>by rw[ay];rw[ag];exact hq) rfl) O O (KY _) (.cons_cons _ (.cons_cons _ (.cons_cons _ (.cons_cons _ (.cons_cons _ tQ))))) tN (λv111 ob111 hr111=>?_);obtain⟨e5,hl5,ok5,hv5,hob5⟩:=zJ (l:=e4.l++[el u.nx o.i]) (by rw[MD];exact hr111) O;rw[hv5,hob5,bL];refine IM (MI [_,_,_,_,_] o.M1 _ _)<|QK (JL (i:=o.i) rfl rfl W9 XK O)<|QK (QH I Xk JH)<|ZS ?_
   rw[hd4,aR];refine QW (vs:=[.slice (some ⟨e5.b,0,none⟩) (g.k+2) e5.c]) I I I JH I .u3 (QBH (by rw[ae,o.len])) wk<|QE<|Qj<|QC<|QB<|QA (Qu I I O)<|wB 2 I ?_
   exact Ql (⟨o.i+1,o.e1++[e5],o.M1++[e5.box],(g.es.drop (o.i+1)).map VB.box,by rw[o.hM1,ak];rfl,rfl,O,by rw[aF,o.len];rfl,λe he=>by
      rcases List.mem_append.1 he with he | he
      ·exact o.ok e he
      ·rw[List.mem_singleton.1 he];exact ok5,by rw[ak,o.hq,aM,ak];simp only[aR,bH,hl5,ak,he4,hnx2]⟩) (by show rb.n-(o.i+1)<rb.n-o.i;omega) tA ((by simp only[ak,aC,aR,bH,aa,ab];exact aQ _)) (λF ⟨⟨⟨⟨⟨⟨⟨⟨⟨R,U,V⟩,Y⟩,A⟩,K⟩,E⟩,S⟩,hN⟩,hE4⟩,hs110⟩=>⟨⟨⟨⟨⟨⟨⟨⟨R,U,V⟩,Y⟩,A⟩,K⟩,E⟩,S⟩,hN⟩,λe he=>by
      rcases List.mem_append.1 he with he | he
      ·exact hE4 e he
      rw[List.mem_singleton.1 he,hl5];intro e2 he2;rcases List.mem_append.1 he2 with he2 | he2
      ·exact A _ hm4 e2 (by rw[he4];exact he2)
      rw[List.mem_singleton.1 he2];exact hN _ (Qw O)⟩)
  have hge4:o.i=rb.n:=tD<|wj hc
  refine Qx ?_
  repeat first|refine QY ?_|refine QO tH ?_
  refine QZ<|Qj<|QC<|QB<|QA (Qu I I O)<|wB 2 I ?_
  have hdn:g.es.drop o.i=[]:=List.drop_of_length_le O;have hM0:o.M2=[]:=by rw[o.hM2,hdn];rfl
  have hq4:o.e1.map (λe=>e.l.map (·.2))=J1 rs t vb (g.k+1):=by
   have e1:=o.hq;rw[hge4,<-hvb]at e1;rw[e1];refine List.map_congr_left λj hj=>?_;have hj:=List.mem_range.1 hj;have hel:el (J1 rs t vb g.k) j=(el g.es j).l.map (·.2):=by rw[<-g.hq,Jb (show j<(g.es.map λe=>e.l.map (·.2)).length by rw[ae];omega),aL,<-Jb (show j<g.es.length by omega)]
   show(el g.es j).l.map (·.2)++[nxQ rs t vb g.k j]=el (J1 rs t vb g.k) j++[nxQ rs t vb g.k j];rw[hel]
  exact IQ (⟨g.k+1,o.e1,o.M1,u.Ds,o.hM1,hk2,by rw[o.len];omega,o.ok,hq4⟩) I (by show n-(g.k+1)<n-g.k;omega) w6 (.cons _ (.cons _ (.cons _ (by rw[hdn,hM0,bH,aK,ab];exact aQ _)))) λF ⟨⟨⟨⟨⟨⟨⟨⟨R,U,V⟩,Y⟩,A⟩,K⟩,E⟩,S⟩,hN⟩,hE4⟩=>⟨⟨⟨R,U,V⟩,Y⟩,hE4⟩
 have hge2:g.k=n:=tD<|wj hc
 refine Qx ?_
 repeat first|refine QY ?_|refine QO tH ?_
 refine QZ<|wE 8 I ?_
 rw[g.hM];refine OJ (af (l₁:=_::_::g.es.map VB.box))<|uQ g.Ds I<|QDI (λw1 h1=>(St.freeze (pre:=[]) (St.ct (bs:=[_,_]) g.es h1)).imp tQ tM) ?_
 exact QP ((⟨some ⟨bk,0,none⟩,rb.n,rb.n⟩,g.es.map λe=>(⟨some ⟨e.b,0,none⟩,g.k+1,e.c⟩,e.l))) I (wT I) (rfl) λF h9=>QAa (n:=rb.n) h9.2 h9.1.2 h9.1.1.2 O g.ok (by have e:=g.hq;rw[hge2]at e;exact e)
theorem MB(l:List (Rat×Rat))(h:Rat)(i:Nat):B0 l h (i+1)=Vz (B0 l h i) (Jg (el l i) (h^i,h^i)):=by
 unfold B0;rw[aM,aO];rfl
theorem Vo{a:List (List (Rat×Rat))}(h:IS F ls)(hq:ls.map (λe=>e.2.map (·.2))=a)(hi:i<ls.length):J7 F (el ls i).1 (el ls i).2 (el a i):=by
 have h1:=h _ (Qw hi);rw[<-hq,Jb (show i<(ls.map λe=>e.2.map (·.2)).length by rw[ae];exact hi),aL,<-Jb hi];exact h1
structure kO(rs:List (List Tm))(fr t2:Rat)(x on:List (Rat×Rat))(n:Nat):Prop where
 y1:Uo rs (fr,fr) x n
 y2:Uo rs (fr,t2) on (n+1)
 e1:∀i,i<x.length->∀k,k<=n->Xf (el (el (J1 rs (fr,fr) x n) i) k) 10000000
 e2:∀i,i<x.length->Xf (el (el (J1 rs (fr,t2) on (n+1)) i) (n+1)) 10000000
 su:∀i,i<x.length->∀k,k<=n+1->Xf (B0 (el (J1 rs (fr,fr) x n) i) (t2-fr) k) 50000000
 pw:∀k,k<=n+1->JW ((t2-fr)^k)<=10000000
 hh:JW (t2-fr)<=1000000
 tm:JW fr<=10000000/\JW t2<=10000000
theorem Mp{y:jP}{x:jR}{rs:List (List Tm)}{vs vx H:List (Rat×Rat)}{ro:Sr}{lo:List Yx}{n:Nat}(U:Fits F w)(hy:Gd F y rs vs)(hx:Mc F x fr t2 vx)(ho:J7 F ro lo H)(hn:y.rt.n=x.bx.n)(hno:ro.n=x.bx.n)(hnx:x.bx.n<=1000)(hn0:0<x.bx.n)(hor:n<=300)(hpn:∀e∈y.ps,e.1.n<=100000)(hk:kO rs fr t2 vx H n):
  Wi prog 125 [.pointer (some ⟨y.b,0,none⟩),x.v,ro.v,.int .i64 (n:Int)] w F (Yc rs fr t2 vx H n):=by
 have Y:=hx.bx.YI;have hol2:=ho.YI;have hbl2:=hx.bx.len;refine QU.intro (G:=λF=>Gd F y rs vs/\Mc F x fr t2 vx/\J7 F ro lo H) func125 rfl tH rfl rfl U (λF' X=>⟨hy.le X,hx.le X,ho.le X⟩)<|wa<|Qp rfl (vs:=[_,_,_,_,_,_,_,_,_]) rfl λb5=>wZ rfl<|wa<|QA (QH rfl Bk QS)<|QA (wR I QS .here)<|QA (QH rfl Bl QS)<|QA (wP I QS .here)<|QI rfl (λ_ _ f k=>UU (x:=x.Sd) (y:=x.fr) (r:=t2) (s:=fr) f k.2.1.Sd k.2.1.fr (aV hk.tm.2 tF) (aV hk.tm.1 tF)) λS=>Qc Jw λb9=>QW (vs:=[_,_,_,_]) rfl rfl rfl QS rfl .here .h4 wv<|wY<|QG<|JG we mixed tE<|QK (QD rfl)<|QK (QH rfl Bl QS)<|QK (wP I QS .u1)<|QR rfl (λ_ _ f k=>Kc (x:=x.fr) (r:=fr) f k.1.2.1.fr) λc25=>QK (QH rfl Bj JH) ?_
 refine QK (Qe rfl JH .u1 (.skip (.skip (.skip (.skip (.skip (.skip (.skip (.skip .h1)))))))))<|QK (QD rfl)<|QR rfl (λ_ _ f k=>Pv (y:=y) (x:=c25) (t:=(fr,fr)) (n:=n) f k.1.1.1 k.2 k.1.1.2.1.bx hn hnx hn0 O hpn hk.y1) λg=>Yl _ (λ_ _ f h=>ar h.2.2.2.1 h.2.2.2.2.1) λh29p=>?_
 obtain⟨C,hl29⟩:=h29p;have hn29:g.2.length=(vx).length:=by have e:=congrArg bh C;rw[ae,WV]at e;exact e
 refine QK (QF I)<|Q7<|wE 4 I<|QA (QH I Bl QS)<|QA (wP I QS .u1)<|QA (QH I Bk QS)<|QA (wR I QS .u1)<|QA (Q4 I Z2 Jk (.cons (vs:=[_,_,_,_]) I I I .h4 (.cons (vs:=[_,_,_,_]) I I I (.skip (.skip (.skip (.skip .h4)))) .nil)))<|wB 2 I<|QA (Qu I I O) ?_
 rw[show((n:Int)+1)=((n+1:Nat):Int) by omega];refine QI rfl (λw F U ⟨⟨⟨⟨P,N,Q⟩,A⟩,z⟩,o⟩=>Pv (y:=y) (x:=⟨x.fr,x.Sd⟩) (t:=(fr,t2)) (n:=n+1) U P ⟨N.fr,N.Sd⟩ Q O O O O hpn hk.y2) (λc=>JQ _ (λ_ _ f h=>ar h.2.2.2.1 h.2.2.2.2.1) λh39p=>?_);obtain⟨B,hl39⟩:=h39p;have hn39:c.2.length=(H).length:=by have e:=congrArg bh B;rw[ae,WV]at e;exact e
 refine wD 11 I<|QA (QH I Bj JH)<|QA (Qe I JH .u1 (.skip (.skip (.skip (.skip (.skip (.skip (.skip (.skip .h1)))))))))<|QA (Qg I JO)<|wD 4 I<|JU (ι:=Wn (x.bx.n) λi=>Vz (B0 (el (J1 rs (fr,fr) vx n) i) (t2-fr) (n+1)) (Jg (el (el (J1 rs (fr,t2) H (n+1)) i) (n+1)) ((t2-fr)^(n+1),(t2-fr)^(n+1)))) [(3,_),(9,_),(10,_),(11,_),(42,_)] (λi=>[(12,i.v),(43,.int .i64 ((i.i:Nat):Int))]) (λi=>(b9,.cells (Kj S).toArray 135 (0,0))::(b5,.cells (gM x).toArray 183 (0,0))::i.ob) (λi F=>YA F i.l) (λi=>(x.bx.n)-i.i) (Wn.start _ _) wy wm we (λ_ _=>YA.nil _) λi=>?_
 simp only[aa,ab];have hi:=i.le;refine wA 6 I ?_;refine QQ I (λhc=>?_) λhc=>?_
 ·have hlt:i.i<x.bx.n:=tD<|wi hc
  have M:i.i<vx.length:=O;have E:i.i<g.2.length:=O;have D:i.i<c.2.length:=O;refine XV _ (λw F U ⟨⟨⟨⟨⟨⟨P,N,Q⟩,A⟩,z⟩,o⟩,u⟩,R⟩=>ar (Vo o.2.1 C E).YI (ar (Vo o.2.1 C E).len (ar (Vo u.2.1 B D).YI (Vo u.2.1 B D).len))) (λhvv=>?_);obtain⟨hv29,hw29,Z,hw39⟩:=hvv;rw[VO _ _ _ _ O]at hv29 Z;refine wC 12 I<|QI I (λ_ _ f k=>TN (n:=0) f tF tF) λc46=>QI I (λ_ _ f k=>Kc (x:=c46) (r:=((0:Int):Rat)) f k.2) λc47=>Qc Jk λb14=>QW (vs:=[_,_,_,_,_,_,_,_]) I I I Qk I .here .h8 w8<|wD 7 I<|QA (Q3 (n:=g.1.n) i.i (λF h9=>h9.1.1.1.1.2.1) rfl rfl W9 XK O)<|QA (QH I Xk JH) ?_
  refine QA (JA (n:=g.1.n) ((i.i)*1) (λF h9=>h9.1.1.1.1.2.1) O rfl JH (XT (f:=λe:U5=>e.1.v) (l:=g.2) E))<|QA (Qg I JO)<|wD 4 I<|JU (ι:=VaI (n+1)) [(3,_),(9,_),(10,_),(11,_),(12,_),(13,_),(14,_),(42,_),(43,_),(52,_),(53,_)] (λm=>[(54,.int .i64 ((m.i:Nat):Int))]) (λm=>(b14,.cells (Xs m.x).toArray 168 (0,0))::(b9,.cells (Kj S).toArray 135 (0,0))::(b5,.cells (gM x).toArray 183 (0,0))::i.ob) (λm F=>Jl F m.x (B0 (el (J1 rs (fr,fr) vx n) i.i) (t2-fr) m.i)) (λm=>n+1-m.i) (⟨0,c47,ao _⟩) tB wk we tO λm=>?_
  simp only[aa,ab];have hj:=m.le;refine wA 6 I ?_;refine QQ I (λhc=>?_) λhc=>?_
  ·have hlt2:m.i<n+1:=tD<|wi hc
   refine wC 7 I<|QA (Q3 (n:=(el g.2 i.i).1.n) (m.i) (λF ⟨⟨⟨⟨⟨⟨⟨⟨⟨P,N,Q⟩,A⟩,z⟩,o⟩,u⟩,R⟩,L⟩,K⟩,V⟩=>(Vo o.2.1 C E).row) rfl rfl JO Qk O)<|QA (JZ (n:=(el g.2 i.i).1.n) (vs:=[.int .i64 (el (el g.2 i.i).2 (m.i)).1.lo.n.s,.slice (el (el g.2 i.i).2 (m.i)).1.lo.n.q (el (el g.2 i.i).2 (m.i)).1.lo.n.n (el (el g.2 i.i).2 (m.i)).1.lo.n.cap,.int .i64 (el (el g.2 i.i).2 (m.i)).1.lo.d.s,.slice (el (el g.2 i.i).2 (m.i)).1.lo.d.q (el (el g.2 i.i).2 (m.i)).1.lo.d.n (el (el g.2 i.i).2 (m.i)).1.lo.d.cap,.int .i64 (el (el g.2 i.i).2 (m.i)).1.hi.n.s,.slice (el (el g.2 i.i).2 (m.i)).1.hi.n.q (el (el g.2 i.i).2 (m.i)).1.hi.n.n (el (el g.2 i.i).2 (m.i)).1.hi.n.cap,.int .i64 (el (el g.2 i.i).2 (m.i)).1.hi.d.s,.slice (el (el g.2 i.i).2 (m.i)).1.hi.d.q (el (el g.2 i.i).2 (m.i)).1.hi.d.n (el (el g.2 i.i).2 (m.i)).1.hi.d.cap]) ((m.i)*8) (λF ⟨⟨⟨⟨⟨⟨⟨⟨⟨P,N,Q⟩,A⟩,z⟩,o⟩,u⟩,R⟩,L⟩,K⟩,V⟩=>(Vo o.2.1 C E).row) O rfl Qk I λj v hv=>JN (f:=(λe=>Xs e.1)) (l:=(el g.2 i.i).2) (λ_=>rfl) O hv)<|Qc Jk λb16=>wX I<|QW (vs:=[_,_,_,_,_,_,_,_]) I I I Qk I .here .h8 w8<|wY<|Jq 7 we mixed tE tE ?_
   simp only[aA,aG,aB,aJ];refine QK (wQ I Qk .u1)<|QK (wQ I Qk .here)<|QK (wP I QS .u2)<|QK (QD I)<|QR I (λ_ _ f h=>MR (x:=S) (r:=t2-fr) (k:=(m.i:Int)) f h.1.1.1.1.1.1.1.2 O O (by rw[ai];have h3:m.i*JW (t2-fr)<=400*1000000:=aU O hk.hh;omega)) λc63=>?_
   rw[ai];refine QR I (λw F U ⟨⟨⟨⟨⟨⟨⟨⟨⟨⟨P,N,Q⟩,A⟩,z⟩,o⟩,u⟩,R⟩,L⟩,K⟩,V⟩,h63⟩=>Rg (x:=(el (el g.2 i.i).2 m.i).1) (y:=c63) (a:=el (el (J1 rs (fr,fr) vx n) i.i) m.i) (r:=(t2-fr)^m.i) U ((Vo o.2.1 C E).at (show m.i<(el g.2 i.i).1.n by omega)) h63 ((hk.e1 _ M _ O).mono tF) (aV (hk.pw _ O) tF)) (λc64=>QR I (λ_ _ f k=>MW (x:=m.x) (y:=c64) (a:=B0 (el (J1 rs (fr,fr) vx n) i.i) (t2-fr) m.i) (b:=Jg (el (el (J1 rs (fr,fr) vx n) i.i) m.i) ((t2-fr)^m.i,(t2-fr)^m.i)) f k.1.1.2 k.2 ((hk.su _ M _ O).mono tF) ((K7 (hk.e1 _ M _ O) ⟨hk.pw _ O,hk.pw _ O⟩).mono tF)) λc65=>ZS<|QW (vs:=[_,_,_,_,_,_,_,_]) I I I Qk I .u1 .h8 w8<|QE<|Qj<|QC<|QB<|QA (Qu I I O)<|wB 2 I ?_);exact Ql (⟨m.i+1,c65,hlt2⟩) (by show n+1-(m.i+1)<n+1-m.i;omega) tC (.cons _ we) λF ⟨⟨⟨⟨⟨⟨⟨⟨⟨⟨⟨⟨P,N,Q⟩,A⟩,z⟩,o⟩,u⟩,R⟩,L⟩,K⟩,V⟩,h63⟩,h64⟩,h65⟩=>⟨⟨⟨⟨⟨⟨⟨⟨⟨P,N,Q⟩,A⟩,z⟩,o⟩,u⟩,R⟩,L⟩,K⟩,by show Jl F c65 (B0 _ _ (m.i+1));rw[MB];exact h65⟩
  have hge2:m.i=n+1:=tD<|wj hc
  have hz2:∀F,Jl F m.x (B0 (el (J1 rs (fr,fr) vx n) i.i) (t2-fr) m.i)->Jl F m.x (B0 (el (J1 rs (fr,fr) vx n) i.i) (t2-fr) (n+1)):=λF h=>by rw[hge2]at h;exact h
  refine Qx ?_
  repeat first|refine QY ?_|refine QO tH ?_
  refine QZ<|QC<|JG tT mixed tE<|QK (QD I)<|QK (wQ I Qk .here)<|QK (QD I)<|QK (QD I)<|QK (Q3 (n:=c.1.n) i.i (λF h9=>h9.1.1.1.1.2.1) rfl rfl W9 XK O)<|QK (QH I Xk JH)<|QK (JA (n:=c.1.n) ((i.i)*1) (λF h9=>h9.1.1.1.1.2.1) O rfl JH (XT (f:=λe:U5=>e.1.v) (l:=c.2) D))<|QK (QD I)<|QK (Qu I I O)<|QK (Q3 (n:=(el c.2 i.i).1.n) ((n+1)) (λF ⟨⟨⟨⟨⟨⟨⟨⟨⟨P,N,Q⟩,A⟩,z⟩,o⟩,u⟩,R⟩,L⟩,K⟩,V⟩=>(Vo u.2.1 B D).row) rfl wS JO Qk O)<|QK (JZ (n:=(el c.2 i.i).1.n) (vs:=[.int .i64 (el (el c.2 i.i).2 ((n+1))).1.lo.n.s,.slice (el (el c.2 i.i).2 ((n+1))).1.lo.n.q (el (el c.2 i.i).2 ((n+1))).1.lo.n.n (el (el c.2 i.i).2 ((n+1))).1.lo.n.cap,.int .i64 (el (el c.2 i.i).2 ((n+1))).1.lo.d.s,.slice (el (el c.2 i.i).2 ((n+1))).1.lo.d.q (el (el c.2 i.i).2 ((n+1))).1.lo.d.n (el (el c.2 i.i).2 ((n+1))).1.lo.d.cap,.int .i64 (el (el c.2 i.i).2 ((n+1))).1.hi.n.s,.slice (el (el c.2 i.i).2 ((n+1))).1.hi.n.q (el (el c.2 i.i).2 ((n+1))).1.hi.n.n (el (el c.2 i.i).2 ((n+1))).1.hi.n.cap,.int .i64 (el (el c.2 i.i).2 ((n+1))).1.hi.d.s,.slice (el (el c.2 i.i).2 ((n+1))).1.hi.d.q (el (el c.2 i.i).2 ((n+1))).1.hi.d.n (el (el c.2 i.i).2 ((n+1))).1.hi.d.cap]) (((n+1))*8) (λF ⟨⟨⟨⟨⟨⟨⟨⟨⟨P,N,Q⟩,A⟩,z⟩,o⟩,u⟩,R⟩,L⟩,K⟩,V⟩=>(Vo u.2.1 B D).row) O rfl Qk I λj v hv=>JN (f:=(λe=>Xs e.1)) (l:=(el c.2 i.i).2) (λ_=>rfl) O hv)<|QK (wP I QS .u1)<|QK (QD I)<|QK (Qu I I O) ?_
  rw[show((n:Int)+1)=((n+1:Nat):Int) by omega];refine QR I (λ_ _ f h=>MR (x:=S) (r:=t2-fr) (k:=((n+1:Nat):Int)) f h.1.1.1.1.1.1.1.2 O O (by rw[ai];have h3:(n+1)*JW (t2-fr)<=400*1000000:=aU O hk.hh;omega)) (λc81=>?_);rw[ai];refine QR I (λw F U ⟨⟨⟨⟨⟨⟨⟨⟨⟨⟨P,N,Q⟩,A⟩,z⟩,o⟩,u⟩,R⟩,L⟩,K⟩,V⟩,h81⟩=>Rg (x:=(el (el c.2 i.i).2 (n+1)).1) (y:=c81) (a:=el (el (J1 rs (fr,t2) H (n+1)) i.i) (n+1)) (r:=(t2-fr)^(n+1)) U ((Vo u.2.1 B D).at (show n+1<(el c.2 i.i).1.n by omega)) h81 ((hk.e2 _ M).mono tF) (aV (hk.pw _ O) tF)) (λc82=>QR I (λ_ _ f k=>MW (x:=m.x) (y:=c82) (a:=B0 (el (J1 rs (fr,fr) vx n) i.i) (t2-fr) (n+1)) (b:=Jg (el (el (J1 rs (fr,t2) H (n+1)) i.i) (n+1)) ((t2-fr)^(n+1),(t2-fr)^(n+1))) f (hz2 _ k.1.1.2) k.2 ((hk.su _ M _ O).mono tF) ((K7 (hk.e2 _ M) ⟨hk.pw _ O,hk.pw _ O⟩).mono tF)) λc83=>?_);refine Qo I (Q5 JO) Qk Jk I I (λb84=>?_) (λw h=>h.imp tT λF h=>h.1.1.1);refine Y6 (af (l₁:=[_,_,_])) ?_;refine Yz (n:=i.i) (k:=1) (sz:=8) (news:=Xs c83) rfl rfl JO Qk Jk I Wh i.hr (Src.row (off:=0) tO (λj q hq=>by rw[ay];rw[ag];exact hq) rfl) O O (KY _) we (λ_ h=>h.1.1.1.1) (λv85 ob85 hr85=>?_);refine Y6 (af (l₂:=[_,_,_]))<|QK (QF I)<|Q7<|Qj<|QC<|QB<|QA (Qu I I O)<|wB 2 I ?_
  exact Ql (i.next hlt c83 _ hr85 rfl) (by show x.bx.n-(i.i+1)<x.bx.n-i.i;omega) w6 (.cons _ we) λF ⟨⟨⟨⟨⟨⟨⟨⟨⟨⟨⟨⟨⟨P,N,Q⟩,A⟩,z⟩,o⟩,u⟩,R⟩,L⟩,K⟩,V⟩,h81⟩,h82⟩,h83⟩,hs84⟩=>⟨⟨⟨⟨⟨⟨P,N,Q⟩,A⟩,z⟩,o⟩,u⟩,R.snoc h83⟩
 have hge:i.i=x.bx.n:=tD<|wj hc
 refine Qx ?_
 repeat first|refine QY ?_|refine QO tH ?_
 refine QZ<|wE 3 I ?_
 have hxl:=i.len;obtain⟨⟨rq,rn,rc⟩,hv2,hrn,hrc,T⟩:=Q8.fix (w0:=w) (F0:=F) (bs1:=[_,_]) (G:=_) i.hr;dsimp only at hrn hrc T;subst hrn;refine Zj T ?_;rw[hv2];dsimp only[Sr.v];refine wD 5 I ?_;exact QP ((⟨rq,i.i,rc⟩,i.l)) I (wT I) (rfl) λF h9=>by have:=i.box hge (r:=⟨rq,i.i,rc⟩) h9.2 I hrc h9.1.2;unfold Yc;rw[Y];exact this
structure Ks(F:Gs)(r:Sr)(l:List (List UInt8×List UInt8)):Prop where
 row:Qy F r.q r.n 2 (l.flatMap NU)
 len:l.length=r.n
theorem Ks.le{r:Sr}(h:Ks F r l)(k:Gs.le F F'):Ks F' r l:=⟨h.row.le k,h.len⟩
structure BS(r:Sr)(l:List (List UInt8×List UInt8)):Prop where
 n:r.n<=1000000
 t:∀s∈l,s.1.length<=1000000/\s.2.length<=1000000
def YZ(n:Nat)(l:List (List UInt8×List UInt8)):Int:=if l.length≠n then 2 else Qs (l.map λs=>Xd s.1 s.2)
def BD(o:Int):Int:=if(decide (o<1)||decide (o>16))=true then 3 else 0
def VZ(o:Int):Int:=if(decide (o<0)||decide (o>64))=true then 3 else 0
def Wc(a b:Rat):Int:=if decide (Yw b a<=0)=true then 11 else 0
def Nb(l:Rat)(s:List UInt8):Int:=if Jp s≠0 then Jp s else Wc l (Qz s)
def Y0(l:List (List UInt8))(i:Nat):Rat:=if i=0 then((0:Int):Rat)else Qz (el l (i-1))
def NA(l:List (List UInt8)):Int:=if l.length>1000 then 5 else Qs ((aE l.length).map λi=>Nb (Y0 l i) (el l i))
theorem G9{l:Rat}(h:Nb l s=0):Jp s=0/\Wc l (Qz s)=0:=by
 unfold Nb at h;split at h
 ·exact absurd h ‹_›
 rename_i h1;exact⟨Decidable.byContradiction h1,h⟩
theorem Wd(l:List (List UInt8))(i:Nat):Y0 l (i+1)=Qz (el l i):=by unfold Y0;rw[if_neg O,Nat.add_sub_cancel]
structure QH7(l:List (List UInt8)) extends X7 (aE l.length) (λi=>Nb (Y0 l i) (el l i)) where
 c:Fr
 ok:JW (Y0 l i)<=2400
theorem WA{o:Int}(b:Fits F w):Qf prog 110 [.int .i64 o] w F (.int .i64 (BD o)):=by
 refine QU.intro (G:=λF=>True) func110 rfl tH rfl rfl b tL<|wa<|wZ rfl<|wb rfl<|QA (QT rfl rfl rfl)<|wW rfl ?_
 refine Qn (t:=5) rfl (λa=>?_) λa=>?_
 ·refine wB 3 I<|QI I (λ_ _ f k=>Be f ) λ_=>wD 4 I ?_
  exact wg I I (congrArg (ah .i64) (by unfold BD;rw[a];rfl)) tL
 refine wB 5 I<|QI I (λ_ _ f k=>Be f ) λ_=>wD 4 I ?_
 exact wg I I (congrArg (ah .i64) (by unfold BD;rw[a];rfl)) tL
theorem BN{o:Int}(b:Fits F w):Qf prog 164 [.int .i64 o] w F (.int .i64 (VZ o)):=by
 refine QU.intro (G:=λF=>True) func164 rfl tH rfl rfl b tL<|wa<|wZ rfl<|wb rfl<|QA (QT rfl rfl rfl)<|wW rfl ?_
 refine Qn (t:=5) rfl (λa=>?_) λa=>?_
 ·refine wB 3 I<|QI I (λ_ _ f k=>Be f ) λ_=>wD 4 I ?_
  exact wg I I (congrArg (ah .i64) (by unfold VZ;rw[a];rfl)) tL
 refine wB 5 I<|QI I (λ_ _ f k=>Be f ) λ_=>wD 4 I ?_
 exact wg I I (congrArg (ah .i64) (by unfold VZ;rw[a];rfl)) tL
theorem WB{a b:List UInt8}(h:Fits F w)(c:JE F)(ha:Jp a=0/\a.length<=1000000)(hb:Jp b=0/\b.length<=1000000):Qf prog 124 [tx a,tx b] w F (.int .i64 (Wc (Qz a) (Qz b))):=by
 have j:=KO ha.1;have i:=KO hb.1;refine QU.intro (G:=λF=>JE F) func124 rfl tH rfl rfl h (λF' g=>c.le g)<|wa<|wZ rfl<|wb rfl<|QI rfl (λ_ _ f k=>Ki f k (XM hb.1).1 O) λm=>wW rfl<|QI rfl (λ_ _ f k=>Ki f k.1 (XM ha.1).1 O) λl=>QI rfl (λ_ _ f k=>G3 f k.1.2 k.2 O O) λ_=>QA (QT rfl rfl rfl)<|QI rfl (λ_ _ f k=>Be f ) λ_=>wZ rfl<|QX ?_
 exact wg I I (rfl) tL
theorem KD{r:Sr}(z:Fits F w)(o:JE F)(hy:X4 F y)(hb:Ks F r l)(hc:BS r l):Qf prog 109 [y.v,r.v] w F (.int .i64 (YZ y.nm.n l)):=by
 have B:=hb.len;have A:=hc.n;refine QU.intro (G:=λF=>JE F/\X4 F y/\Ks F r l) func109 rfl tH rfl rfl z (λF' c=>⟨o.le c,hy.le c,hb.le c⟩)<|wa<|Qp rfl (vs:=[_,_,_]) rfl λb2=>wZ rfl<|QG<|wb rfl<|QA (Qg rfl XF)<|QA (QH rfl Hj VU)<|QA (Qe rfl VU .here .h1)<|QA (Qg rfl Kw)<|QA (QT rfl rfl rfl)<|QE<|QC ?_
 refine QQ I (λa=>?_) λa=>?_
 ·have u:=bne_iff_ne.1 a;refine wA 6 I ?_;exact wg I I (congrArg (ah .i64) (by unfold YZ;rw[if_pos O])) tL
 have u:=bne_eq_false_iff_eq.1 a;refine wC 6 I<|QA (Qg I XF)<|wD 4 I<|J9 (ι:=X7 l λs=>Xd s.1 s.2) [(14,_),(15,_)] (λi=>[(16,.int .i64 ((i.i:Nat):Int))]) (λi=>l.length-i.i) (X7.start _ _) wm wk λi=>?_
 simp only[aa,ab];have hi:=i.le;refine wA 6 I ?_;refine QQ I (λa=>?_) λa=>?_
 ·have b:i.i<l.length:=tD<|wi a
  have m:=Qw b;refine wC 6 I<|QA (Q3 (n:=r.n) i.i (λF h9=>h9.2.2.row) rfl rfl XF Jd O)<|QA (JZ (n:=r.n) (vs:=[tx (el l i.i).1,tx (el l i.i).2]) ((i.i)*2) (λF h9=>h9.2.2.row) O rfl Jd I λj v x=>JN (f:=NU) (l:=l) K1 O x)<|Qc Xa λC=>QW (vs:=[_,_]) I I I Jd I .here .h2 wm<|wY<|wa<|QA (wN I Jd .here)<|QI I (λ_ _ f k=>W2 f k.1 (hc.t _ m)) λ_=>wD 9 I ?_
  refine QQ I (λa=>?_) λa=>?_
  ·have g:=bne_iff_ne.1 a;refine wA 7 I ?_
   repeat first|refine Q6 ?_|refine Qv ?_
   exact wg I I (congrArg (ah .i64) (by unfold YZ;rw[if_neg O];exact i.hit b g)) tL
  have g:=bne_eq_false_iff_eq.1 a;refine QN<|Qj<|QC<|QB<|QA (Qu I I O)<|wB 2 I ?_
  exact Ql (i.next b g) (by show l.length-(i.i+1)<l.length-i.i;omega) wu ((bY _ we)) tN
 have h:l.length<=i.i:=tD<|wj a
 refine Qx ?_
 repeat first|refine QY ?_|refine QO tH ?_
 refine QZ<|wE 7 I ?_
 exact wg I I (congrArg (ah .i64) (by unfold YZ;rw[if_neg O];exact i.stop h)) tL
theorem Mq{a b:List UInt8}{r:Sr}(u:Fits F w)(g:JE F)(ha:Jp a=0/\a.length<=1000000)(hb:Jp b=0/\b.length<=1000000)(hx:Ks F r l)(hc:BS r l)(o:∀s∈l,Xd s.1 s.2=0):QU prog 126 [tx a,r.v,tx b] w F (λ(c:jR)=>c.v) (λc F=>Mc F c (Qz a) (Qz b) (l.map JB)):=by
 refine QU.intro (G:=λF=>JE F/\Ks F r l) func126 rfl tH rfl rfl u (λF' h=>⟨g.le h,hx.le h⟩)<|wa<|Qc OM λy=>wY<|wb rfl<|QI rfl (λ_ _ f k=>Ki f k.1 (XM ha.1).1 O) λx=>wW rfl<|QI rfl (λ_ _ f k=>Ki f k.1.1 (XM hb.1).1 O) λj=>wW rfl<|QI rfl (λ_ _ f k=>BK f k.1.1.1 k.1.1.2.row k.1.1.2.len hc.n λs m=>⟨o s m,hc.t s m⟩) λi=>QA (Q4 rfl zC OM (.cons (vs:=[_,_,_,_]) rfl rfl rfl .h4 (.cons (vs:=[_,_,_,_]) rfl rfl rfl (.skip (.skip (.skip (.skip .h4)))) (.cons (vs:=[_]) rfl rfl rfl (.skip (.skip (.skip (.skip (.skip (.skip (.skip (.skip .h1)))))))) .nil))))<|QW (vs:=[_,_,_,_,_,_,_,_,_]) rfl rfl rfl Hv rfl .here .h9 w9<|wY<|QX ?_
 exact QP ((⟨x,j,i.1,i.2⟩:jR)) I (.JX (c:=[_,_,_,_,_,_,_,_,_]) I Hv .here .nil) (rfl) λF ⟨⟨⟨⟨g,hx⟩,h8⟩,h10⟩,h12⟩=>⟨h8,h10,h12⟩
def Ys(y:Xz)(a:List UInt8)(l:List (List UInt8×List UInt8))(b:List UInt8):Int:=Qs [y.e,Jp a,YZ y.nm.n l,Jp b]
theorem W1{a b:List UInt8}{r:Sr}(i:Fits F w)(c:JE F)(hy:X4 F y)(ht:GJ y)(hb:Ks F r l)(hc:BS r l)(ha:a.length<=1000000)(j:b.length<=1000000):Qf prog 123 [y.v,tx a,r.v,tx b] w F (.int .i64 (Ys y a l b)):=by
 refine QU.intro (G:=λF=>JE F/\X4 F y/\Ks F r l) func123 rfl tH rfl rfl i (λF' g=>⟨c.le g,hy.le g,hb.le g⟩)<|wa<|Qp rfl (vs:=[_,_,_]) rfl λb4=>wZ rfl<|QG<|JG we mixed tE<|QK (wO I J6 .here)<|QR rfl (λ_ _ f k=>Zs (y:=y) f k.1 k.2.1 ht) λ_=>QK (QD rfl)<|QR rfl (λ_ _ f k=>Eo f k.1.1 O) λ_=>QK (wO I J6 .here)<|QK (QD rfl)<|QR rfl (λw F i ⟨⟨⟨c,hy,hb⟩,_⟩,_⟩=>KD (y:=y) i c hy hb hc) λ_=>QK (QD rfl)<|QR rfl (λ_ _ f k=>Eo f k.1.1.1.1 O) λ_=>?_
 refine Qo I (Q5 ZM) YS Ht I I (λm=>?_) (λw h=>h.imp tP λF h=>h.1.1.1.1);refine QR I (λ_ _ f k=>YV f (Qy.of (cs:=aT Jo [_,_,_,_]) k.2 I) tF) (λ_=>QK (QF I)<|Q7<|QC<|QX ?_);exact wg I I (rfl) tL
theorem Tb{c:Fr}{x:Rat}(i:Fits F w)(h:JE F)(hx:JR F c x)(hz:JW x<=2400)(l:s.length<=1000000):Qf prog 233 [c.v,tx s] w F (.int .i64 (Nb x s)):=by
 refine QU.intro (G:=λF=>JE F/\JR F c x) func233 rfl tH rfl rfl i (λF' g=>⟨h.le g,hx.le g⟩)<|wa<|Qp rfl (vs:=[_,_,_,_]) rfl λb2=>wZ rfl<|QG<|wb rfl<|QI rfl (λ_ _ f k=>Eo f k.1 O) λ_=>wZ rfl<|wb rfl<|QA (QT rfl rfl rfl)<|QE<|QC ?_
 refine QQ I (λb=>?_) λb=>?_
 ·have a:=bne_iff_ne.1 b;refine wA 7 I ?_;exact wg I I (congrArg (ah .i64) (by unfold Nb;rw[if_pos a])) tL
 have a:=bne_eq_false_iff_eq.1 b;have zs:=KO a;refine wC 3 I<|JG we mixed tE<|QK (QD I)<|QR I (λ_ _ f k=>Ki f k.1.1 (XM a).1 O) λj=>QK (wP I QS .here)<|QR I (λ_ _ f k=>G3 f k.2 k.1.1.2 O O) λ_=>QK (QT I I I)<|QR I (λ_ _ f k=>Be f ) λ_=>QK (QF I)<|Q7<|QC<|QX ?_
 exact wg I I (congrArg (ah .i64) (by unfold Nb;rw[if_neg (by simpa using a)];rfl)) tL
theorem F5{q:Option Addr}{l:List (List UInt8)}(A:Fits F w)(u:JE F)(z:Qy F q n 1 (l.map tx))(B:l.length=n)(y:n>1000\/∀s∈l,s.length<=1000000):Qf prog 163 [.slice q n c] w F (.int .i64 (NA l)):=by
 refine QU.intro (G:=λF=>JE F/\Qy F q n 1 (l.map tx)) func163 rfl tH rfl rfl A (λF' j=>⟨u.le j,z.le j⟩)<|wa<|wZ rfl<|QG<|wb rfl<|QA (Qg rfl YG)<|QA (QT rfl rfl rfl)<|QE<|QC ?_
 refine QQ I (λa=>?_) λa=>?_
 ·have h9:=wi a;refine wA 6 I ?_;exact wg I I (congrArg (ah .i64) (by unfold NA;rw[if_pos O])) tL
 have h9:=wj a;have hl2:∀s∈l,s.length<=1000000:=y.resolve_left O;refine wC 4 I<|QI I (λ_ _ f k=>TN (n:=0) f O O) λx=>Qc Jw λb3=>QW (vs:=[_,_,_,_]) I I I QS I .here .h4 wv<|wD 6 I<|QA (Qg I YG)<|wD 4 I<|JU (ι:=QH7 l) [(3,_),(11,_),(12,_)] (λi=>[(13,.int .i64 ((i.i:Nat):Int))]) (λi=>[(b3,.cells (Kj i.c).toArray 135 (0,0))]) (λi F=>JR F i.c (Y0 l i.i)) (λi=>l.length-i.i) (⟨X7.start _ _,x,by show JW ((0:Int):Rat)<=2400;decide⟩) wu wk we tO λi=>?_
 simp only[aa,ab];have hi:=i.le;rw[au]at hi;refine wA 6 I ?_;refine QQ I (λa=>?_) λa=>?_
 ·have b:i.i<l.length:=tD<|wi a
  have h:=Qw b;refine wC 6 I<|QA (Q3 (n:=n) i.i (λF h9=>h9.1.1.2) rfl rfl YG JF O)<|QA (JA (n:=n) ((i.i)*1) (λF h9=>h9.1.1.2) O rfl JF (XT (f:=tx) (l:=l) O))<|wD 6 I<|QA (wP I QS .here)<|wW I<|QI I (λ_ _ f k=>Tb f k.1.1.1 k.2 i.ok (hl2 _ h)) λ_=>wD 8 I ?_
  refine QC ?_;refine QQ I (λa=>?_) λa=>?_
  ·have g:=bne_iff_ne.1 a;refine wA 7 I ?_
   repeat first|refine Q6 ?_|refine Qv ?_
   exact wg I I (congrArg (ah .i64) (by unfold NA;rw[if_neg O];have h9:=i.toX7.hit (by rw[au];exact b) (by rw[ZG b];exact g);rw[ZG b]at h9;exact h9)) tL
  have g:=bne_eq_false_iff_eq.1 a;refine wC 4 I<|QI I (λ_ _ f k=>Ki f k.1.1.1.1 (XM (G9 g).1).1 (tD<|hl2 _ h)) λm=>QW (vs:=[_,_,_,_]) I I I QS I .here .h4 wv<|QE<|Qj<|QC<|QB<|QA (Qu I I O)<|wB 2 I ?_
  exact Ql (⟨i.toX7.next (by rw[au];exact b) (by rw[ZG b];exact g),m,by show JW (Y0 l (i.i+1))<=2400;rw[Wd];exact KO (G9 g).1⟩) (by show l.length-(i.i+1)<l.length-i.i;omega) wv we λF h9=>⟨⟨⟨h9.1.1.1.1.1,h9.1.1.1.1.2⟩,h9.1.1.1.2⟩,by show JR F m (Y0 l (i.i+1));rw[Wd];exact h9.2⟩
 have o:l.length<=i.i:=tD<|wj a
 refine Qx ?_
 repeat first|refine QY ?_|refine QO tH ?_
 refine QZ<|wE 7 I ?_
 exact wg I I (congrArg (ah .i64) (by unfold NA;rw[if_neg O];exact i.toX7.stop (by rw[au];exact o))) tL
def Xz.rs(y:Xz):List (List Tm):=y.rl.map λe=>Xq (ZX e.2)
def Xz.vs(y:Xz):List (Rat×Rat):=y.sl.map JB
structure vF(y:Xz):Prop where
 n0:1<=y.nm.n
 n1:y.nm.n<=24
 rn:y.rt.n=y.nm.n
 sn:y.st.n=y.nm.n
 nm:DX y.nl=0
 pl:∀e∈y.rl,Dk (ZX e.2) (y.nm.n:Int)
 st:∀s∈y.sl,Xd s.1 s.2=0
theorem Q9{l:List Int}(h:Qs l=0):∀x∈l,x=0:=by
 induction l with
 |nil=>intro x hx;cases hx
 |cons a l ih =>
  intro x hx;unfold Qs at h;by_cases g:a=0
  ·rw[if_pos g]at h;rcases List.mem_cons.1 hx with rfl | hx
   ·exact g
   exact ih h x hx
  rw[if_neg g]at h;exact absurd h g
theorem EY{a c:Int}(h:Qs [a,b,c]=0):a=0/\b=0/\c=0:=⟨Q9 h a (.head _),Q9 h b (.tail _ (.head _)),Q9 h c (.tail _ (.tail _ (.head _)))⟩
theorem X4.ok(h:X4 F y)(he:y.e=0):vF y:=by
 have h1:=h.jL;have h2:=h.Ka;have h3:=h.P0;unfold Xz.e at he;by_cases h0:DS y.nl.length (y.rl.map λe=>ZX e.2).length y.sl.length=0
 ·rw[LD h0]at he;obtain⟨j,i,f,g⟩:=Tq h0;rw[ae]at f;obtain⟨c,b,a⟩:=EY he;refine⟨O,O,O,O,c,λe hm=>?_,λs hm=>?_⟩
  ·have h5:=Q9 b _ (aj (aj hm));rw[h1]at h5;exact H4 h5
  exact Q9 a _ (aj hm)
 rw[j8 h0]at he;exact absurd he h0
structure RdJ(y:Xz) where
 i:Nat
 v:Value
 ob:List (Nat×Obj)
 ps:List WS
 le:i<=y.rl.length
 hr:Q8 190 1 v i (ps.map λe=>e.1.v) ob
 hq:jI ps=y.rs.take i
theorem RdJ.len(s:RdJ y):s.ps.length=s.i:=by
 have h:=congrArg bh s.hq;have h2:=s.le;unfold jI Xz.rs at h;rw[ae,bA,ae]at h;omega
theorem Oq(h:i<y.rl.length):y.rs.take (i+1)=y.rs.take i++[Xq (ZX (el y.rl i).2)]:=by
 unfold Xz.rs;rw[XE (by rw[ae];exact h)];congr 2;rw[Jb (by rw[ae];exact h),aL,Jb h]
theorem Nk.snoc{ps:List WS}{c:WS}{p:List Tm}(h:Nk F ps)(k:XU F c.1 c.2 p):Nk F (ps++[c]):=λe he=>by
 rcases List.mem_append.1 he with he | he
 ·exact h e he
 rw[List.mem_singleton.1 he,show J4 c.2=p from k.2.2.1];exact k
theorem Zc(hF:Fits F w)(x:JE F)(hy:X4 F y)(ht:GJ y)(C:vF y):QU prog 111 [y.v] w F (λ(c:jP)=>.pointer (some ⟨c.b,0,none⟩)) (λc F=>Gd F c y.rs y.vs):=by
 have Z:=hy.Ka;have M:=hy.P0;have hn1:=C.n1;have o:=C.rn;have Y:=C.sn;refine QU.intro (G:=λF=>JE F/\X4 F y) func111 rfl tH rfl rfl hF (λF' D=>⟨x.le D,hy.le D⟩)<|wa<|Qp rfl (vs:=[_,_,_]) rfl λb1=>wZ rfl<|wa<|QA (QH rfl YM J0)<|QA (Qe rfl J0 .here (.skip (.skip .h1)))<|QI rfl (λ_ _ f k=>BK f k.1 k.2.st M O λs T=>⟨C.st s T,ht.st s T⟩) λE=>QA (Q4 rfl QBN QEK (.cons (vs:=[_]) rfl rfl rfl (.skip .h1) .nil))<|Qp rfl (vs:=[_,_]) rfl λz=>wZ rfl<|QG<|wa<|QA (QH rfl VY Z6)<|QA (Qe rfl Z6 .u1 (.skip .h1))<|QA (Qg rfl VJ)<|wW rfl<|QE ?_
 refine QC<|QV<|JU (ι:=RdJ y) [(3,_),(12,_),(13,_)] (λi=>[(14,.int .i64 ((i.i:Nat):Int))]) (λi=>(z,.cells #[i.v,.slice E.1.q E.1.n E.1.cap] 188 (0,0))::i.ob) (λi F=>Nk F i.ps) (λi=>y.rl.length-i.i) (⟨0,.slice none 0 0,[],[],ao _,.nil,rfl⟩) wu wk (tR) (λ_ _ _ h=>by cases h) λi=>?_
 simp only[aa,ab];have hi:=i.le;refine wA 6 I ?_;refine QQ I (λhc=>?_) λhc=>?_
 ·have u:i.i<y.rl.length:=tD<|wi hc
  have g:=Qw u;refine wC 6 I<|QA (Q3 (n:=y.rt.n) i.i (λF h9=>h9.1.1.2.rt) rfl rfl VJ Vu O)<|QA (JA (n:=y.rt.n) ((i.i)*1) (λF h9=>h9.1.1.2.rt) O rfl Vu (XT (f:=λe:NQ=>e.1.v) (l:=y.rl) O))<|wZ I<|Jq 11 tR mixed tE tE ?_
  simp only[aA,aG,aB,aJ];refine QK (QD I)<|QK (QD I)<|QK (Zd I)<|QK (QH I Bi YK)<|QK (Qe I YK .here .h1)<|QK (QD I)<|QR I (λ_ _ f k=>Ns f k.1.1.1 (k.1.1.2.pl _ g).1 (k.1.1.2.pl _ g).2 (ht.tm _ g) (C.pl _ g) O) λH=>Yl _ (λ_ _ f h=>h.2.2.2.1) λR=>?_
  refine Qo I (Q5 YT) YJ U6 I I (λb25=>?_) (λw h=>h.imp tR tN);refine Y6 (af (l₁:=[_])) ?_;refine Yz (n:=i.i) (k:=1) (sz:=1) (news:=[H.1.v]) I I YT YJ U6 I kB i.hr (Src.row (off:=0) tO (λj q hq=>by rw[ay];rw[ag];exact hq) rfl) O O (λv X=>by rw[List.mem_singleton.1 X];rfl) we (λ_ h=>h.1.1) (λA B a=>?_);refine Y6 (af (l₂:=[_]))<|QK (Zd I)<|QK (QH I Bi YK)<|ZS<|QW (vs:=[A]) I I a.one.2 YK I .here .h1 ⟨a.one.1,trivial⟩<|QE<|Qj<|QC<|QB<|QA (Qu I I O)<|wB 2 I ?_
  exact Ql (⟨i.i+1,A,B,i.ps++[H],u,by rw[ak];exact a,by unfold jI;rw[ak,Oq u,<-R];exact congrArg (·++_) i.hq⟩) (by show y.rl.length-(i.i+1)<y.rl.length-i.i;omega) wv we λF ⟨⟨⟨⟨⟨x,hy⟩,h8⟩,hS⟩,Q⟩,S⟩=>⟨⟨⟨x,hy⟩,h8⟩,hS.snoc Q⟩
 have P:i.i=y.rl.length:=by have:=wj hc;have:=i.le;omega
 refine Qx ?_
 repeat first|refine QY ?_|refine QO tH ?_
 refine QZ<|wE 3 I ?_
 have K:=i.len;obtain⟨⟨U,rn,V⟩,L,o,N,m⟩:=Q8.fix (w0:=w) (F0:=F) (bs1:=[_]) (G:=_) i.hr;dsimp only at o N m;subst o;refine Zj m ?_;rw[L];dsimp only[Sr.v];refine VI (b:=z) .here<|wD 5 I ?_
 exact QP ((⟨z,⟨U,i.i,V⟩,i.ps,E.1,E.2⟩:jP)) I (wT I) (rfl) λF h9=>⟨h9.2,h9.1.2,h9.1.1.2,by have e:=i.hq;rw[P]at e;rw[e];exact aS (by unfold Xz.rs;rw[ae];exact aD _),K,h9.1.1.1.2⟩
structure Rx(F:Gs)(c:Sr×List WS)(rs:List (List Tm)):Prop where
 row:Qy F c.1.q c.1.n 1 (c.2.map λe=>e.1.v)
 pls:Nk F c.2
 val:jI c.2=rs
 len:c.2.length=c.1.n
theorem Rx.le{c:Sr×List WS}{rs:List (List Tm)}(h:Rx F c rs)(k:Gs.le F F'):Rx F' c rs:=⟨h.row.le k,λe he=>(h.pls e he).le k,h.val,h.len⟩
theorem Rx.Ka{c:Sr×List WS}{rs:List (List Tm)}(h:Rx F c rs):rs.length=c.1.n:=by rw[<-h.val,<-h.len];simp[jI]
theorem Rx.at{c:Sr×List WS}{rs:List (List Tm)}(h:Rx F c rs){i:Nat}(hi:i<c.1.n):XU F (el c.2 i).1 (el c.2 i).2 (J4 (el c.2 i).2)/\J4 (el c.2 i).2=el rs i:=by
 have h1:=h.len;refine⟨h.pls _ (Qw O),?_⟩;rw[<-h.val,Jb (show i<c.2.length by omega),Jb (by simp[jI];omega)];simp[jI]
def QEy(y:Xz)(c:Sr×List WS):List Value:=[.slice y.nm.q y.nm.n y.nm.cap,.slice y.rt.q y.rt.n y.rt.cap,.slice y.st.q y.st.n y.st.cap,.int .i64 ((y.nm.n:Int)+1),c.1.v]
theorem pO(T:Fits F w)(H:JE F)(hy:X4 F y)(ht:GJ y)(he:y.e=0):QU prog 295 [y.v] w F (λ(c:Sr×List WS)=>.tuple #[.agg (QEy y c).toArray,.int .i64 0]) (λc F=>Rx F c y.rs):=by
 have A:=hy.ok he;have R:=hy.Ka;have Q:=hy.P0;have S:=A.n1;have m:=A.rn;have P:=A.sn;refine QU.intro (G:=λF=>JE F/\X4 F y) func295 rfl tH rfl rfl T (λF' x=>⟨H.le x,hy.le x⟩)<|wa<|Qp rfl (vs:=[_,_,_]) rfl λb1=>Qc SY λb2=>wZ rfl<|QG<|wa<|QA (wO I J6 .u1)<|QI rfl (λ_ _ f k=>Zs (y:=y) f k.1 k.2 ht) λ_=>?_
 rw[he];refine wD 9 I ?_;refine QQ I (λhc=>?_) λhc=>?_
 ·exact absurd hc (tJ)
 refine wC 4 I<|QA (wO I J6 .u1)<|QA (QH rfl Hj VU)<|QA (Qe rfl VU .u1 .h1)<|QA (Qg rfl Kw)<|QA (Qu rfl rfl O)<|QA (Q4 rfl QBM SY (.cons (vs:=[_,_,_]) rfl rfl rfl .h3 (.cons (vs:=[_]) rfl rfl rfl (.skip (.skip (.skip .h1))) (.cons (vs:=[_]) rfl rfl rfl (.skip (.skip (.skip (.skip .h1)))) .nil))))<|Qc SY λU=>QW (vs:=[_,_,_,_,_]) rfl rfl rfl Gk rfl .here .h5 wy<|wD 5 I<|QA (QH rfl VY Z6)<|QA (Qe rfl Z6 .u2 (.skip .h1))<|QA (Qg rfl VJ)<|wW rfl<|wY<|QV<|JU (ι:=RdJ y) [(2,_),(5,_),(21,_),(22,_)] (λi=>[(23,.int .i64 ((i.i:Nat):Int))]) (λi=>(U,.cells #[.slice y.nm.q y.nm.n y.nm.cap,.slice y.rt.q y.rt.n y.rt.cap,.slice y.st.q y.st.n y.st.cap,.int .i64 ((y.nm.n:Int)+1),i.v] 276 (0,0))::(b2,.cells [.slice none 0 0,.slice none 0 0,.slice none 0 0,.int .i64 0,.slice none 0 0].toArray 276 (0,0))::i.ob) (λi F=>Nk F i.ps) (λi=>y.rl.length-i.i) (⟨0,.slice none 0 0,[],[],ao _,.nil,rfl⟩) wv wk (tS) (λ_ _ _ h=>by cases h) λi=>?_
 simp only[aa,ab];have hi:=i.le;refine wA 6 I ?_;refine QQ I (λhc=>?_) λhc=>?_
 ·have o:i.i<y.rl.length:=tD<|wi hc
  have b:=Qw o;refine wC 6 I<|QA (Q3 (n:=y.rt.n) i.i (λF h9=>h9.1.1.2.rt) rfl rfl VJ Vu O)<|QA (JA (n:=y.rt.n) ((i.i)*1) (λF h9=>h9.1.1.2.rt) O rfl Vu (XT (f:=λe:NQ=>e.1.v) (l:=y.rl) O))<|wZ I<|Jq 7 tS mixed tE tE ?_
  simp only[aA,aG,aB,aJ];refine QK (QH I Ua YK)<|QK (Qe I YK .here (.skip (.skip (.skip (.skip .h1)))))<|QK (QD I)<|QR I (λ_ _ f k=>Ns f k.1.1.1 (k.1.1.2.pl _ b).1 (k.1.1.2.pl _ b).2 (ht.tm _ b) (A.pl _ b) O) λz=>Yl _ (λ_ _ f h=>h.2.2.2.1) λK=>?_
  refine Qo I (Q5 YT) YJ U6 I I (λV=>?_) (λw h=>h.imp tS tN);refine Y6 (af (l₁:=[_,_])) ?_;refine Yz (n:=i.i) (k:=1) (sz:=1) (news:=[z.1.v]) I I YT YJ U6 I kB i.hr (Src.row (off:=0) tO (λj q hq=>by rw[ay];rw[ag];exact hq) rfl) O O (λv N=>by rw[List.mem_singleton.1 N];rfl) we (λ_ h=>h.1.1) (λs u a=>?_);refine Y6 (af (l₂:=[_,_]))<|QK (QH I Ua YK)<|ZS<|QW (vs:=[s]) I I a.one.2 YK I .here (.skip (.skip (.skip (.skip .h1)))) ⟨a.one.1,trivial⟩<|QE<|Qj<|QC<|QB<|QA (Qu I I O)<|wB 2 I ?_
  exact Ql (⟨i.i+1,s,u,i.ps++[z],o,by rw[ak];exact a,by unfold jI;rw[ak,Oq o,<-K];exact congrArg (·++_) i.hq⟩) (by show y.rl.length-(i.i+1)<y.rl.length-i.i;omega) wy we λF h9=>⟨⟨⟨h9.1.1.1.1.1,h9.1.1.1.1.2⟩,trivial⟩,h9.1.1.2.snoc h9.1.2⟩
 have E:i.i=y.rl.length:=by have:=wj hc;have:=i.le;omega
 refine Qx ?_
 repeat first|refine QY ?_|refine QO tH ?_
 refine QZ<|wE 3 I ?_
 have B:=i.len;obtain⟨⟨L,X,M⟩,C,m,D,g⟩:=Q8.fix (w0:=w) (F0:=F) (bs1:=[_,_]) (G:=_) i.hr;dsimp only at m D g;subst m;refine Zj g ?_;rw[C];dsimp only[Sr.v];refine QA (QJ (vs:=[_,_,_,_,_]) I Gk .here .h5 rfl)<|QW (vs:=[_,_,_,_,_]) I I I Gk I .u1 .h5 wy<|wD 4 I ?_
 exact Je (((⟨L,i.i,M⟩,i.ps):Sr×List WS)) I (.JX (c:=[_,_,_,_,_]) I Gk .u1 (wT I)) (rfl) λF h9=>⟨h9.2,h9.1.2,by have e:=i.hq;rw[E]at e;rw[e];exact aS (by unfold Xz.rs;rw[ae];exact aD _),B⟩
def Ul(rs:List (List Tm))(p:List Tm):Nat->List Tm
 |0=>XO (ZT 0 p)
 |k+1=>XO (Ul rs p k++XO (Zr (XO (ZT (k+1) p)) (el rs k)))
structure Cf(rs:List (List Tm))(p:List Tm)(N:Nat):Prop where
 n:N=rs.length+1
 n1:N<=1000
 lp:p.length<=100000
 pw:∀t∈p,PW t.2/\t.2.length=N
 sp:∀t∈p,JW t.1<=20000000
 der:∀v,v<=rs.length->Yr (ZT v p)<=40000000
 mul:∀k,k<rs.length->kU (XO (ZT (k+1) p)) (el rs k) N
 add:∀k,k<rs.length->kc (Ul rs p k) (XO (Zr (XO (ZT (k+1) p)) (el rs k)))
structure QIA(n:Nat) where
 i:Nat
 c:WS
 le:i<=n
theorem XU.eqT{s:Sr}{ts:List ZY}{p:List Tm}(h:XU F s ts p):J4 ts=p:=h.2.2.1
theorem XU.self{s:Sr}{ts:List ZY}{p:List Tm}(h:XU F s ts p):XU F s ts (J4 ts):=by rw[h.eqT];exact h
theorem yR{c:Sr×List WS}{rs:List (List Tm)}{p:WS}{N:Nat}(K:Fits F w)(b:JE F)(hr:Rx F c rs)(B:XU F p.1 p.2 (J4 p.2))(a:Cf rs (J4 p.2) N):QU prog 235 [c.1.v,p.1.v] w F (λ(d:WS)=>d.1.v) (λd F=>XU F d.1 d.2 (Ul rs (J4 p.2) rs.length)):=by
 have Q:=hr.Ka;have P:=hr.len;have Y:=a.n;have D:=a.n1;have u:∀v,v<=rs.length->∀t∈p.2,PW t.t.2/\v<t.t.2.length:=λv X t ht=>⟨(a.pw _ (aj ht)).1,by rw[(a.pw _ (aj ht)).2];omega⟩;have x:p.2.length<=100000:=by have:=a.lp;rwa [Yb]at this
 refine QU.intro (G:=λF=>JE F/\Rx F c rs/\XU F p.1 p.2 (J4 p.2)) func235 rfl tH rfl rfl K (λF' m=>⟨b.le m,hr.le m,B.le m⟩)<|wa<|wZ rfl<|wb rfl<|QI rfl (λ_ _ f k=>Lf (v:=0) f k.1 k.2.2 (u 0 O) x (λt ht=>a.sp _ (aj ht)) (a.der 0 O)) λT=>wZ rfl<|QG<|wb rfl<|QA (Qg rfl YT)<|wW rfl<|wY<|QV<|JU (ι:=QIA rs.length) [(1,_),(10,_),(11,_)] (λi=>[(5,.slice i.c.1.q i.c.1.n i.c.1.cap),(12,.int .i64 ((i.i:Nat):Int))]) (λi=>[]) (λi F=>XU F i.c.1 i.c.2 (Ul rs (J4 p.2) i.i)) (λi=>rs.length-i.i) (⟨0,T,ao _⟩) wu wm we tO λi=>?_
 simp only[aa,ab];have hi:=i.le;refine wA 6 I ?_;refine QQ I (λj=>?_) λj=>?_
 ·have g:i.i<rs.length:=tD<|wi j
  refine XV _ (λw F K ⟨⟨⟨b,hr,B⟩,h9⟩,L⟩=>ar (hr.at (show i.i<c.1.n by omega)).2 L.eqT) (λC=>?_);obtain⟨y,M⟩:=C;refine wC 7 I<|QA (Q3 (n:=c.1.n) i.i (λF h9=>h9.1.1.2.1.row) rfl rfl YT YJ O)<|QA (JA (n:=c.1.n) ((i.i)*1) (λF h9=>h9.1.1.2.1.row) O rfl YJ (XT (f:=λe:WS=>e.1.v) (l:=c.2) O))<|wD 8 I<|QA (Qu I I O) ?_
  rw[show(((i.i:Nat):Int)+1)=((i.i+1:Nat):Int)from rfl];refine QI I (λ_ _ f k=>Lf (v:=i.i+1) f k.1.1.1 k.1.1.2.2 (u _ O) x (λt ht=>a.sp _ (aj ht)) (a.der _ O)) (λV=>JQ _ (λ_ _ f h=>h.2.eqT) λA=>wW I<|QI I (λ_ _ f k=>xy (q:=el c.2 i.i) (N:=N) f k.1.1.1.1 k.2.self (k.1.1.1.2.1.at O).1 D (by rw[A,y];exact a.mul _ g)) λU=>JQ _ (λ_ _ f h=>h.2.eqT) λo=>?_);rw[A,y]at o;refine QI I (λ_ _ f k=>zG (p:=i.c) f k.1.1.1.1.1 k.1.1.2.self k.2.self (by rw[M,o];exact a.add _ g)) (λs=>JQ _ (λ_ _ f h=>h.2.eqT) λz=>?_);rw[M,o]at z;refine wB 2 I<|Qj<|QC<|QB<|QA (Qu I I O)<|wB 2 I ?_
  exact Ql (⟨i.i+1,s,g⟩) (by show rs.length-(i.i+1)<rs.length-i.i;omega) wy we λF ⟨⟨⟨⟨⟨⟨b,hr,B⟩,h9⟩,L⟩,S⟩,R⟩,H⟩=>⟨⟨⟨b,hr,B⟩,h9⟩,by show XU F s.1 s.2 (XO (Ul rs (J4 p.2) i.i++XO (Zr (XO (ZT (i.i+1) (J4 p.2))) (el rs i.i))));rw[<-z];exact H.self⟩
 have E:i.i=rs.length:=by have:=wj j;have:=i.le;omega
 refine Qx ?_
 repeat first|refine QY ?_|refine QO tH ?_
 refine QZ<|wE 8 I ?_
 exact QP (i.c) rfl (wT I) (rfl) λF h=>by have h1:=h.2;rw[E]at h1;exact h1
theorem pR{a:NQ}(x:Fits F w)(i:JE F)(hy:X4 F y)(ht:GJ y)(he:y.e=0)(u:Qy F a.1.q a.1.n 2 (a.2.flatMap VM))(z:Yy F a.2)(b:Up a)(h:Zh (ZX a.2) (y.nm.n:Int)=0):QU prog 234 [y.v,a.1.v] w F (λ(c:(Sr×List WS)×WS)=>.tuple #[.agg (QEy y c.1).toArray,c.2.1.v,.int .i64 0]) (λc F=>Rx F c.1 y.rs/\XU F c.2.1 c.2.2 (Xq (ZX a.2))):=by
 have m:=hy.ok he;have o:=m.n1;have s:=m.n0;refine QU.intro (G:=λF=>JE F/\X4 F y/\Qy F a.1.q a.1.n 2 (a.2.flatMap VM)/\Yy F a.2) func234 rfl tH rfl rfl x (λF' g=>⟨i.le g,hy.le g,u.le g,z.le g⟩)<|wa<|Qp rfl (vs:=[_,_,_]) rfl λb2=>Qc SY λb4=>wX rfl<|wZ rfl<|wa<|QA (wO I J6 .u1)<|QI rfl (λ_ _ f k=>pO (y:=y) f k.1 k.2.1 ht he) λl=>wW rfl<|QA (Qa rfl rfl)<|QA (Qa rfl rfl)<|Qc SY λA=>QW (vs:=[_,_,_,_,_]) rfl rfl rfl Gk rfl .here .h5 wy<|wZ rfl<|QG<|wa<|wW rfl ?_
 refine wD 3 I ?_;refine QQ I (λhc=>?_) λhc=>?_
 ·refine wA 2 I<|QA (QH I pW JK)<|QA (Qe I JK .here (.skip (.skip (.skip .h1))))<|QA (X3 I I O) ?_
  rw[show((y.nm.n:Int)+1-1)=y.nm.n by omega];refine QI I (λ_ _ f k=>G6 f k.1.1 k.1.2.2.1 k.1.2.2.2 b.1 b.2.1 b.2.2) (λ_=>?_);rw[show Hc (ZX a.2) (y.nm.n:Int)=0 by unfold Hc;rw[if_pos ((Bs _).2 O)];exact h];refine wD 10 I ?_;refine QQ I (λhc=>?_) λhc=>?_
  ·exact absurd hc (tJ)
  refine wC 3 I<|JG (.cons_cons _ (.cons _ tP)) mixed tE<|QK (QJ (vs:=[_,_,_,_,_]) I Gk .here .h5 rfl)<|QK (QD I)<|QR I (λ_ _ f k=>Ns f k.1.1.1 (a:=a) k.1.1.2.2.1 k.1.1.2.2.2 b (H4 h) O) λj=>JV (vs:=[_,_,_,_,_]) I I I Gk I .u1 tP tN .h5 wy<|QK (QF I)<|QK (QF I)<|Q7<|QC<|QX ?_
  exact Je (((l,j):(Sr×List WS)×WS)) I (.JX (c:=[_,_,_,_,_]) I Gk .u1 (wU I I)) (rfl) λF h9=>⟨h9.1.1.2,h9.2⟩
 exact absurd hc (tJ)
theorem UP{a:NQ}(x:Fits F w)(i:JE F)(hy:X4 F y)(ht:GJ y)(he:y.e=0)(u:Qy F a.1.q a.1.n 2 (a.2.flatMap VM))(z:Yy F a.2)(m:Up a)(o:Zh (ZX a.2) (y.nm.n:Int)=0)(s:Cf y.rs (Xq (ZX a.2)) (y.nm.n+1)):Qf prog 145 [y.v,a.1.v] w F (.tuple #[.bool (decide (Ul y.rs (Xq (ZX a.2)) y.rs.length=[])),.int .i64 0]):=by
 refine QU.intro (G:=λF=>JE F/\X4 F y/\Qy F a.1.q a.1.n 2 (a.2.flatMap VM)/\Yy F a.2) func145 rfl tH rfl rfl x (λF' c=>⟨i.le c,hy.le c,u.le c,z.le c⟩)<|wa<|Qp rfl (vs:=[_,_,_]) rfl λb2=>wX rfl<|wZ rfl<|wa<|QA (wO I J6 .here)<|wW rfl<|QI rfl (λw F x ⟨i,hy,u,z⟩=>pR (y:=y) x i hy ht he u z m o) λB=>JQ _ (λ_ _ f h=>h.2.2.eqT) λj=>wW rfl<|QA (Qa rfl rfl)<|QA (Qa rfl rfl)<|QA (Qa rfl rfl)<|Qc SY λC=>QW (vs:=[_,_,_,_,_]) rfl rfl rfl Gk rfl .here .h5 wy<|wX rfl<|wZ rfl<|QG ?_
 refine wA 6 I ?_;refine QQ I (λhc=>?_) λhc=>?_
 ·exact absurd hc (tJ)
 refine wC 4 I<|QA (QH I Ua YK)<|QA (Qe I YK .here (.skip (.skip (.skip (.skip .h1)))))<|wW I<|QI I (λ_ _ f k=>yR (N:=y.nm.n+1) f k.1.1 k.2.1 k.2.2.self (by rw[j];exact s)) λA=>JQ _ (λ_ _ f h=>ar h.2.len h.2.2.2.2.2) λg=>?_
 obtain⟨g,l⟩:=g;rw[j]at g;refine QA (Qg I Yt)<|wD 6 I ?_
 exact Je (()) I (wU I I) (congrArg (λb=>bS #[.bool b,.int .i64 0]) (decide_eq_decide.2 (by rw[<-List.length_eq_zero_iff,<-g,l];omega))) tL
theorem Gn{F:Gs}{a b:List UInt8}(h:Ys y a l b=0):y.e=0/\Jp a=0/\YZ y.nm.n l=0/\Jp b=0:=by
 unfold Ys at h;exact⟨Q9 h _ (.head _),Q9 h _ (.tail _ (.head _)),Q9 h _ (.tail _ (.tail _ (.head _))),Q9 h _ (.tail _ (.tail _ (.tail _ (.head _))))⟩
theorem XZ(h:YZ n l=0):l.length=n/\∀s∈l,Xd s.1 s.2=0:=by
 unfold YZ at h;by_cases g:l.length≠n
 ·rw[if_pos g]at h;cases h
 rw[if_neg g]at h;exact⟨O,λs a=>Q9 h _ (aj a)⟩
def lV(l:List (List UInt8×List UInt8)):List (Rat×Rat):=l.map JB
theorem Yg(l:List (List UInt8×List UInt8)):(lV l).length=l.length:=by simp[lV]
theorem Gd.pn{y:jP}{rs:List (List Tm)}{vs:List (Rat×Rat)}(h:Gd F y rs vs)(hk:∀l∈rs,l.length<=k):∀e∈y.ps,e.1.n<=k:=λe he=>by
 have h1:=(h.pls e he).2.2.2.2;have h2:=hk (J4 e.2) (by rw[<-h.val];exact aj (f:=λe:WS=>J4 e.2) he);rw[Yb]at h2;omega
theorem vF.short(h:vF y):∀l∈y.rs,l.length<=64:=λl a=>by
 unfold Xz.rs at a;obtain⟨e,he,rfl⟩:=List.mem_map.1 a;unfold Xq;rw[ae];exact(h.pl e he).len
theorem J7.nl{r:Sr}{l:List Yx}{vs:List (Rat×Rat)}(h:J7 F r l vs):r.n=vs.length:=h.YI.symm
def yM(y:Xz)(a:List UInt8)(l:List (List UInt8×List UInt8))(b:List UInt8)(lw:List (List UInt8×List UInt8)):Int:=if Ys y a l b=0 then Qs [YZ y.nm.n lw,Wc (Qz a) (Qz b)]else Ys y a l b
structure QH6(rs:List (List Tm))(fr t2:Rat)(x on:List (Rat×Rat)):Prop where
 mv:kT rs fr t2 x on
 sz:∀v∈YP rs fr t2 x on,Xf v 100000000
theorem QBo(h:YZ n l=0):∀v∈lV l,Xf v 2400:=λv a=>by
 unfold lV at a;obtain⟨s,b,rfl⟩:=List.mem_map.1 a;have h1:=Ku ((XZ h).2 s b);exact⟨KO h1.1,KO h1.2.1⟩
theorem yK{a b:List UInt8}{r:Sr}{rz:Sr}{lw:List (List UInt8×List UInt8)}(U:Fits F w)(K:JE F)(hy:X4 F y)(ht:GJ y)(hx:Ks F r l)(hc:BS r l)(ha:a.length<=1000000)(hb:b.length<=1000000)(B:Ks F rz lw)(x:BS rz lw)(o:yM y a l b lw=0->QH6 y.rs (Qz a) (Qz b) (lV l) (lV lw)):Qf prog 62 [y.v,tx a,r.v,tx b,rz.v] w F (.tuple #[.bool (decide (yM y a l b lw=0)&&Ir (YP y.rs (Qz a) (Qz b) (lV l) (lV lw)) (lV lw)),.int .i64 (yM y a l b lw)]):=by
 refine QU.intro (G:=λF=>JE F/\X4 F y/\Ks F r l/\Ks F rz lw) func62 rfl tH rfl rfl U (λF' u=>⟨K.le u,hy.le u,hx.le u,B.le u⟩)<|wa<|Qp rfl (vs:=[_,_,_]) rfl λb5=>wX rfl<|wZ rfl<|wa<|QA (wO I J6 .here)<|wW rfl<|wW rfl<|wW rfl<|QI rfl (λ_ _ f k=>W1 (y:=y) f k.1 k.2.1 ht k.2.2.1 hc ha hb) λ_=>wX rfl<|QE<|QC ?_
 refine ZZ [(1,_),(2,_),(3,_),(4,_),(5,_)] [(12,.int .i64 (yM y a l b lw))] wy ?_ ?_
 ·refine wA 6 I ?_;refine QQ I (λi=>?_) λi=>?_
  ·have j:Ys y a l b=0:=by simpa using i
   have M:=Gn (F:=F) j;refine QB<|QA (wO I J6 .here)<|wW I<|QI I (λ_ _ f k=>KD (y:=y) f k.1.1 k.1.2.1 k.1.2.2.2 x) λ_=>wB 2 I<|QI I (λ_ _ f k=>WB f k.1.1.1 ⟨M.2.1,ha⟩ ⟨M.2.2.2,hb⟩) λ_=>Qb I (Q5 ZM) YS Ht I I λb27=>QI I (λ_ _ f k=>YV f (Qy.of (cs:=aT Jo [_,_]) k.2 I) tF) λ_=>wB 2 I ?_
   exact JY ⟨rfl,rfl,rfl,rfl,rfl,(congrArg (λb=>some (ah .i64 b)) (by unfold yM;rw[if_pos j])),trivial⟩ we λ_ h=>h.1.1.1.1
  have j:¬Ys y a l b=0:=by simpa using i
  refine QN ?_;exact JY ⟨rfl,rfl,rfl,rfl,rfl,(congrArg (λb=>some (ah .i64 b)) (by unfold yM;rw[if_neg j])),trivial⟩ we tM
 simp only[aa,ab];refine wA 7 I ?_;refine QQ I (λi=>?_) λi=>?_
 ·have c:=bne_iff_ne.1 i;refine wA 8 I ?_;exact Je (()) I (wU I I) (congrArg (λz=>bS #[.bool z,.int .i64 (yM y a l b lw)]) (by rw[decide_eq_false c];rfl)) tL
 have c:=bne_eq_false_iff_eq.1 i;have o:=o c;have C:Ys y a l b=0:=by
  unfold yM at c;by_cases g:Ys y a l b=0
  ·exact g
  rw[if_neg g]at c;exact absurd c g
 have m:=Gn (F:=F) C;have A:YZ y.nm.n lw=0:=by unfold yM at c;rw[if_pos C]at c;exact Q9 c _ (.head _)
 have D:=hy.ok m.1;have hn1:=D.n1;have hn0:=D.n0;have N:=D.rn;have V:=(XZ m.2.2.1).1;have X:=(XZ A).1;have Z:y.rs.length=y.nm.n:=by unfold Xz.rs;rw[ae,hy.Ka,N]
 refine QN<|QC<|wb rfl<|QI rfl (λ_ _ f k=>BK f k.1.1 k.1.2.2.2.row k.1.2.2.2.len x.n λs S=>⟨(XZ A).2 s S,x.t s S⟩) λc33=>wZ rfl<|wa<|QA (wO I J6 .here)<|QI rfl (λ_ _ f k=>Zc (y:=y) f k.1.1.1 k.1.1.2.1 ht D) λc35=>wW rfl<|wW rfl<|wW rfl<|QI rfl (λ_ _ f k=>Mq f k.1.1.1.1 ⟨m.2.1,ha⟩ ⟨m.2.2.2,hb⟩ k.1.1.1.2.2.1 hc (XZ m.2.2.1).2) λc39=>JQ _ (λw F U ⟨⟨⟨⟨⟨K,hy,hx,B⟩,_⟩,R⟩,L⟩,Q⟩=>ar R.nl (ar Q.bx.nl (ar L.Ka (L.pn D.short)))) λP=>?_
 obtain⟨H,E,T,hp35⟩:=P;rw[ae]at H E;refine wW I<|QI I (λ_ _ f k=>MF f k.1.2 k.2 k.1.1.2 O O O (λe he=>tD<|hp35 e he) o.mv) λc41=>wW I<|QI I (λ_ _ f k=>TR f k.2 k.1.1.1.2 (by rw[k.2.nl,Z3,ae];omega) (by rw[k.2.nl,Z3,ae];omega) o.sz λv Y=>(QBo A v Y).mono tF) λ_=>wD 5 I ?_
 exact Je (()) I (wU I I) (by rw[c];rfl) tL
def BQ(F:Gs)(c:Sr)(vs:List (Rat×Rat)):Prop:=Qy F c.q c.n 2 (vs.flatMap QAd)/\c.n=vs.length/\c.n<=c.cap
theorem BQ.nil(F:Gs):BQ F ⟨none,0,0⟩ []:=⟨Qy.nil F none 2,rfl,aD _⟩
def O2(e:Int)(o:Option (List (Rat×Rat))):Int×List (Rat×Rat):=if e≠0 then(e,[])else match o with
 |none=>(25,[])
 |some v=>(if Jx v=true then 4 else 0,if Jx v=true then[]else v)
theorem S5{e:Int}{o:Option (List (Rat×Rat))}(h:e≠0):O2 e o=(e,[]):=by unfold O2;rw[if_pos h]
theorem Ao:O2 0 none=(25,[]):=rfl
theorem EI(v:List (Rat×Rat)):O2 0 (some v)=(if Jx v=true then 4 else 0,if Jx v=true then[]else v):=rfl
theorem DU{a b:List UInt8}{r:Sr}(h:Fits F w)(f:JE F)(ha:Jp a=0/\a.length<=1000000)(hb:Jp b=0/\b.length<=1000000)(hx:Ks F r l)(hc:BS r l)(g:∀s∈l,Xd s.1 s.2=0):QU prog 126 [tx a,r.v,tx b] w F (λ(c:jR)=>c.v) (λc F=>Mc F c (Qz a) (Qz b) (lV l)):=Mq h f ha hb hx hc g
theorem H5{r:Sr}(f:Fits F w)(a:JE F)(hx:Ks F r l)(hc:BS r l)(c:∀s∈l,Xd s.1 s.2=0):Wi prog 114 [r.v] w F (lV l):=BK f a hx.row hx.len hc.n λs b=>⟨c s b,hc.t s b⟩
def MH(y:Xz)(a:List UInt8)(l:List (List UInt8×List UInt8))(b:List UInt8)(bits:Int):Int:=if Qs [Ys y a l b,VZ bits]=0 then Wc (Qz a) (Qz b)else Qs [Ys y a l b,VZ bits]
theorem Rs(h:VZ b=0):0<=b/\b<=64:=by
 unfold VZ at h;by_cases g:(decide (b<0)||decide (b>64))=true
 ·rw[if_pos g]at h;cases h
 simp only[aX,decide_eq_true_eq]at g;omega
theorem Nw(h:BD b=0):1<=b/\b<=16:=by
 unfold BD at h;by_cases g:(decide (b<1)||decide (b>16))=true
 ·rw[if_pos g]at h;cases h
 simp only[aX,decide_eq_true_eq]at g;omega
theorem AM{rs:List (List Tm)}(hb:b<=64)(f:OD rs fr t2 x):∀k v w,v.length=x.length->D1 rs fr t2 x b k v=some w->w.length=x.length/\∀a∈w,Xf a 10000000
 |0,v,w,_,h=>by cases h
 |k+1,v,w,i,h=>by
  unfold D1 at h;by_cases g:Jx v=true
  ·rw[if_pos g]at h;cases h
  rw[if_neg g]at h;have c:=DZ g;by_cases j:Ir (YP rs fr t2 x v) v=true
  ·rw[if_pos j]at h;cases h;refine⟨by rw[ae,Z3],λa ha=>?_⟩;obtain⟨u,hu,rfl⟩:=List.mem_map.1 ha;exact(EJ (f.s1 v i c u hu) hb).mono tF
  rw[if_neg j]at h;exact AM hb f k _ w (by rw[EP];exact i) h
theorem RG{rs:List (List Tm)}{w:List (Rat×Rat)}(hb:b<=64)(c:OD rs fr t2 x)(h:Yu rs fr t2 x b=some w):w.length=x.length/\∀a∈w,Xf a 10000000:=AM hb c 12 _ w (by rw[EP]) h
theorem Am{a b:List UInt8}{r:Sr}{bits:Int}(N:Fits F w)(o:JE F)(hy:X4 F y)(ht:GJ y)(hx:Ks F r l)(hc:BS r l)(ha:a.length<=1000000)(hb:b.length<=1000000)(x:MH y a l b bits=0->OD y.rs (Qz a) (Qz b) (lV l)):QU prog 83 [y.v,tx a,r.v,tx b,.int .i64 bits] w F (λ(c:Sr)=>.tuple #[c.v,.int .i64 (O2 (MH y a l b bits) (Yu y.rs (Qz a) (Qz b) (lV l) bits)).1]) (λc F=>BQ F c (O2 (MH y a l b bits) (Yu y.rs (Qz a) (Qz b) (lV l) bits)).2):=by
 refine QU.intro (G:=λF=>JE F/\X4 F y/\Ks F r l) func83 rfl tH rfl rfl N (λF' D=>⟨o.le D,hy.le D,hx.le D⟩)<|wa<|Qp rfl (vs:=[_,_,_]) rfl λb5=>wX rfl<|wZ rfl<|QG<|wa<|QA (wO I J6 .here)<|wW rfl<|wW rfl<|wW rfl<|QI rfl (λ_ _ f k=>W1 (y:=y) f k.1 k.2.1 ht k.2.2 hc ha hb) λ_=>wW rfl<|QI rfl (λ_ _ f k=>BN f) λ_=>Qb rfl (Q5 ZM) YS Ht rfl rfl λb23=>QI rfl (λ_ _ f k=>YV f (Qy.of (cs:=aT Jo [_,_]) k.2 rfl) tF) λ_=>wZ rfl<|QG<|QB ?_
 refine wD 4 I ?_;refine QQ I (λg=>?_) λg=>?_
 ·have j:=bne_iff_ne.1 g;have h:MH y a l b bits=Qs [Ys y a l b,VZ bits]:=by unfold MH;rw[if_neg j]
  refine wA 8 I ?_;exact Je ((⟨none,0,0⟩:Sr)) I (wU I I) (by rw[h,S5 j]) λF h9=>by rw[h,S5 j];exact BQ.nil F
 have j:Qs [Ys y a l b,VZ bits]=0:=bne_eq_false_iff_eq.1 g;have h:MH y a l b bits=Wc (Qz a) (Qz b):=by unfold MH;rw[if_pos j]
 have P:Ys y a l b=0:=Q9 j _ (.head _);have M:=Rs (Q9 j _ (.tail _ (.head _)));have i:=Gn (F:=F) P;have K:=hy.ok i.1;have Z:=K.n1;have hn0:=K.n0;have Q:=K.rn;have V:=(XZ i.2.2.1).1;have Y:y.rs.length=y.nm.n:=by unfold Xz.rs;rw[ae,hy.Ka,Q]
 refine wC 7 I<|QI I (λ_ _ f k=>WB f k.1.1.1.1.1 ⟨i.2.1,ha⟩ ⟨i.2.2.2,hb⟩) λ_=>wD 9 I ?_
 refine QQ I (λg=>?_) λg=>?_
 ·have A:=bne_iff_ne.1 g;refine wA 8 I ?_;exact Je ((⟨none,0,0⟩:Sr)) I (wU I I) (by rw[h,S5 A]) λF h9=>by rw[h,S5 A];exact BQ.nil F
 have A:Wc (Qz a) (Qz b)=0:=bne_eq_false_iff_eq.1 g;rw[A]at h;have x:=x h;refine wC 4 I<|QA (wO I J6 .here)<|QI rfl (λ_ _ f k=>Zc (y:=y) f k.1.1.1.1.1.1 k.1.1.1.1.1.2.1 ht K) λc36=>wW rfl<|wW rfl<|wW rfl<|QI rfl (λ_ _ f k=>DU f k.1.1.1.1.1.1.1 ⟨i.2.1,ha⟩ ⟨i.2.2.2,hb⟩ k.1.1.1.1.1.1.2.2 hc (XZ i.2.2.1).2) λc40=>JQ _ (λw F N ⟨⟨⟨⟨⟨⟨⟨⟨o,hy,hx⟩,_⟩,_⟩,C⟩,_⟩,_⟩,z⟩,E⟩=>ar E.bx.nl (ar z.Ka (z.pn K.short))) λR=>?_
 obtain⟨L,U,hp36⟩:=R;rw[Yg]at L;refine wW I<|QI I (λ_ _ f k=>OQ f k.1.1.1.1.1.1.1.1 k.1.2 k.2 O O O (λe he=>tD<|hp36 e he) M x) λB=>wD 11 I<|QA (XL I)<|QE<|QC ?_
 refine QQ I (λg=>?_) λg=>?_
 ·have m:Yu y.rs (Qz a) (Qz b) (lV l) bits=none:=by cases m:Yu y.rs (Qz a) (Qz b) (lV l) bits with
   |none=>rfl
   |some v=>rw[m]at g;cases g
  refine wA 7 I ?_;exact Je ((⟨none,0,0⟩:Sr)) I (wU I I) (by rw[h,m,Ao]) λF h9=>by rw[h,m,Ao];exact BQ.nil F
 obtain⟨v,m⟩:∃v,Yu y.rs (Qz a) (Qz b) (lV l) bits=some v:=by cases m:Yu y.rs (Qz a) (Qz b) (lV l) bits with
  |none=>rw[m]at g;cases g
  |some v=>exact⟨v,rfl⟩
 have H:=RG M.2 x m;refine XV _ (λw F N ⟨⟨⟨⟨⟨⟨⟨⟨⟨o,hy,hx⟩,_⟩,_⟩,C⟩,_⟩,_⟩,z⟩,E⟩,u⟩=>(show J7 F B.1 B.2 v by rw[m]at u;exact u).nl) (λT=>?_);rw[Yg]at H;refine wC 5 I<|QI I (λw F N ⟨⟨⟨⟨⟨⟨⟨⟨⟨o,hy,hx⟩,_⟩,_⟩,C⟩,_⟩,_⟩,z⟩,E⟩,u⟩=>BJ (r:=B.1) (l:=B.2) (vs:=v) N o (by rw[m]at u;exact u) O λs X=>(H.2 s X).mono tF) λS=>wD 7 I ?_
 exact Je (S) rfl (wU I I) (by rw[h,m,EI];rfl) λF h9=>by rw[h,m,EI];exact h9.2
def NS(y:Xz)(a:List UInt8)(l:List (List UInt8×List UInt8))(b:List UInt8)(lw:List (List UInt8×List UInt8))(o:Int):Int:=if Ys y a l b=0 then Qs [YZ y.nm.n lw,BD o,Wc (Qz a) (Qz b)]else Ys y a l b
theorem Cs{a b:List UInt8}{r:Sr}{rz:Sr}{lw:List (List UInt8×List UInt8)}{o:Int}(X:Fits F w)(M:JE F)(hy:X4 F y)(ht:GJ y)(hx:Ks F r l)(hc:BS r l)(ha:a.length<=1000000)(hb:b.length<=1000000)(A:Ks F rz lw)(K:BS rz lw)(u:NS y a l b lw o=0->kO y.rs (Qz a) (Qz b) (lV l) (lV lw) o.toNat/\∀v∈Yc y.rs (Qz a) (Qz b) (lV l) (lV lw) o.toNat,Xf v 100000000):QU prog 37 [y.v,tx a,r.v,tx b,rz.v,.int .i64 o] w F (λ(c:Sr)=>.tuple #[c.v,.int .i64 (O2 (NS y a l b lw o) (some (Yc y.rs (Qz a) (Qz b) (lV l) (lV lw) o.toNat))).1]) (λc F=>BQ F c (O2 (NS y a l b lw o) (some (Yc y.rs (Qz a) (Qz b) (lV l) (lV lw) o.toNat))).2):=by
 refine QU.intro (G:=λF=>JE F/\X4 F y/\Ks F r l/\Ks F rz lw) func37 rfl tH rfl rfl X (λF' x=>⟨M.le x,hy.le x,hx.le x,A.le x⟩)<|wa<|Qp rfl (vs:=[_,_,_]) rfl λb6=>wX rfl<|wZ rfl<|wa<|QA (wO I J6 .here)<|wW rfl<|wW rfl<|wW rfl<|QI rfl (λ_ _ f k=>W1 (y:=y) f k.1 k.2.1 ht k.2.2.1 hc ha hb) λ_=>wX rfl<|QE<|QC ?_
 refine ZZ [(1,_),(2,_),(3,_),(4,_),(5,_),(6,_)] [(14,.int .i64 (NS y a l b lw o))] wz ?_ ?_
 ·refine wA 6 I ?_;refine QQ I (λj=>?_) λj=>?_
  ·have m:Ys y a l b=0:=by simpa using j
   have P:=Gn (F:=F) m;refine QB<|QA (wO I J6 .here)<|wW I<|QI I (λ_ _ f k=>KD (y:=y) f k.1.1 k.1.2.1 k.1.2.2.2 K) λ_=>wW I<|QI I (λ_ _ f k=>WA f) λ_=>wB 2 I<|QI I (λ_ _ f k=>WB f k.1.1.1.1 ⟨P.2.1,ha⟩ ⟨P.2.2.2,hb⟩) λ_=>Qb I (Q5 ZM) YS Ht I I λb30=>QI I (λ_ _ f k=>YV f (Qy.of (cs:=aT Jo [_,_,_]) k.2 I) tF) λ_=>wB 2 I ?_
   exact JY ⟨rfl,rfl,rfl,rfl,rfl,rfl,(congrArg (λb=>some (ah .i64 b)) (by unfold NS;rw[if_pos m])),trivial⟩ we λ_ h=>h.1.1.1.1.1
  have m:¬Ys y a l b=0:=by simpa using j
  refine QN ?_;exact JY ⟨rfl,rfl,rfl,rfl,rfl,rfl,(congrArg (λb=>some (ah .i64 b)) (by unfold NS;rw[if_neg m])),trivial⟩ we tM
 simp only[aa,ab];refine wA 7 I ?_;refine QQ I (λj=>?_) λj=>?_
 ·have i:=bne_iff_ne.1 j;refine wA 8 I ?_;exact Je ((⟨none,0,0⟩:Sr)) I (wU I I) (by rw[S5 i]) λF h9=>by rw[S5 i];exact BQ.nil F
 have i:NS y a l b lw o=0:=bne_eq_false_iff_eq.1 j;have u:=u i;have B:Ys y a l b=0:=by
  unfold NS at i;by_cases g:Ys y a l b=0
  ·exact g
  rw[if_neg g]at i;exact absurd i g
 have z:Qs [YZ y.nm.n lw,BD o,Wc (Qz a) (Qz b)]=0:=by unfold NS at i;rw[if_pos B]at i;exact i
 have L:YZ y.nm.n lw=0:=Q9 z _ (.head _);have hor:=Nw (Q9 z _ (.tail _ (.head _)));have Z:=(XZ L).1;have s:=Gn (F:=F) B;have C:=hy.ok s.1;have hn1:=C.n1;have hn0:=C.n0;have R:=C.rn;have Y:=(XZ s.2.2.1).1;have hrs:y.rs.length=y.nm.n:=by unfold Xz.rs;rw[ae,hy.Ka,R]
 obtain⟨n,rfl⟩:∃n:Nat,o=(n:Int):=⟨o.toNat,O⟩;rw[ai]at u;refine wC 4 I<|QA (wO I J6 .here)<|QI rfl (λ_ _ f k=>Zc (y:=y) f k.1.1 k.1.2.1 ht C) λc36=>wW rfl<|wW rfl<|wW rfl<|QI rfl (λ_ _ f k=>DU f k.1.1.1 ⟨s.2.1,ha⟩ ⟨s.2.2.2,hb⟩ k.1.1.2.2.1 hc (XZ s.2.2.1).2) λc40=>JQ _ (λw F X ⟨⟨⟨⟨M,hy,hx,A⟩,_⟩,N⟩,T⟩=>ar T.bx.nl (ar N.Ka (N.pn C.short))) λS=>?_
 obtain⟨H,V,hp36⟩:=S;rw[Yg]at H;refine wW I<|QI I (λ_ _ f k=>H5 f k.1.1.1.1 k.1.1.1.2.2.2 K (XZ L).2) λc42=>wW I<|JQ _ (λ_ _ f k=>k.2.nl) λE=>?_
 rw[Yg]at E;refine QI I (λ_ _ f k=>Mp (n:=n) f k.1.1.2 k.1.2 k.2 O O O O O (λe he=>tD<|hp36 e he) u.1) (λQ=>JQ _ (λ_ _ f h=>h.2.nl) λD=>?_);rw[show(Yc y.rs (Qz a) (Qz b) (lV l) (lV lw) n).length=l.length by simp[Yc,lV]]at D;refine QI I (λ_ _ f k=>BJ (r:=Q.1) (l:=Q.2) (vs:=(Yc y.rs (Qz a) (Qz b) (lV l) (lV lw) n)) f k.1.1.1.1.1.1 k.2 O u.2) (λU=>wD 7 I ?_);exact Je (U) rfl (wU I I) (by rw[i,ai,EI];rfl) λF h9=>by rw[i,ai,EI];exact h9.2
structure kR(rs:List (List Tm))(fr t2:Rat)(x:List (Rat×Rat))(n:Nat)(b:Int):Prop where
 tr:OD rs fr t2 x
 tb:∀v,Yu rs fr t2 x b=some v->kO rs fr t2 x v n/\∀s∈Yc rs fr t2 x v n,Xf s 10000000
abbrev vD:=(Sr×List Yx)×(Sr×List Yx)
def mdV(c:vD):Value:=.agg #[c.1.1.v,c.2.1.v]
def stF(F:Gs)(o:Option (List (Rat×Rat)×List (Rat×Rat)))(c:vD):Prop:=match o with
 |none=>c.1.1=⟨none,0,0⟩/\c.2.1=⟨none,0,0⟩
 |some v=>J7 F c.1.1 c.1.2 v.1/\J7 F c.2.1 c.2.2 v.2
theorem Bb{rs:List (List Tm)}(h:Yu rs fr t2 x b=none):KR rs fr t2 x n b=none:=by unfold KR;rw[h];rfl
theorem Ba{rs:List (List Tm)}{v:List (Rat×Rat)}(h:Yu rs fr t2 x b=some v):KR rs fr t2 x n b=some (v,(Yc rs fr t2 x v n).map (Z7 · b)):=by unfold KR;rw[h];rfl
theorem EA{rs:List (List Tm)}{p:List (Rat×Rat)×List (Rat×Rat)}(hb:b<=64)(f:kR rs fr t2 x n b)(h:KR rs fr t2 x n b=some p):(p.1.length=x.length/\p.2.length=x.length)/\(∀a∈p.1,Xf a 100000000)/\∀a∈p.2,Xf a 100000000:=by
 cases c:Yu rs fr t2 x b with
 |none=>rw[Bb c]at h;cases h
 |some v =>
  rw[Ba c]at h;cases h;have h1:=RG hb f.tr c;refine⟨⟨h1.1,by simp[Yc]⟩,λa ha=>(h1.2 a ha).mono tF,λa ha=>?_⟩;obtain⟨u,hu,rfl⟩:=List.mem_map.1 ha;exact(EJ ((f.tb v c).2 u hu) hb).mono tF
theorem xD{y:jP}{x:jR}{rs:List (List Tm)}{vs vx:List (Rat×Rat)}{n:Nat}(s:Fits F w)(l:JE F)(hy:Gd F y rs vs)(hx:Mc F x fr t2 vx)(L:y.rt.n=x.bx.n)(H:x.bx.n<=1000)(K:0<x.bx.n)(hpn:∀e∈y.ps,e.1.n<=100000)(E:n<=300)(hb:0<=b/\b<=64)(u:kR rs fr t2 vx n b):
  QU prog 165 [.pointer (some ⟨y.b,0,none⟩),x.v,.int .i64 (n:Int),.int .i64 b] w F (λc=>.tuple #[mdV c,.bool (KR rs fr t2 vx n b).isSome]) (λc F=>stF F (KR rs fr t2 vx n b) c):=by
 have C:=hx.bx.nl;refine QU.intro (G:=λF=>JE F/\Gd F y rs vs/\Mc F x fr t2 vx) func165 rfl tH rfl rfl s (λF' m=>⟨l.le m,hy.le m,hx.le m⟩)<|wa<|Qp rfl (vs:=[_,_,_,_,_,_,_,_,_]) rfl λQ=>Qc Mn λP=>wZ rfl<|wb rfl<|QA (QJ (vs:=[_,_,_,_,_,_,_,_,_]) rfl Hv .u1 .h9 rfl)<|wW rfl<|QI rfl (λ_ _ f k=>OQ f k.1 k.2.1 k.2.2 L O O (λe he=>tD<|hpn e he) hb u.tr) λj=>wD 11 I ?_
 refine QA (XL I)<|QE<|QC ?_
 refine QQ I (λi=>?_) λi=>?_
 ·have g:Yu rs fr t2 vx b=none:=by cases g:Yu rs fr t2 vx b with
   |none=>rfl
   |some v=>rw[g]at i;cases i
  refine wa<|QA (Q4 I zB Mn .nil)<|QW (vs:=[_,_]) I I I KW I .here .h2 wm<|wD 4 I ?_
  exact Je (((⟨none,0,0⟩,[]),(⟨none,0,0⟩,[]))) I (.JX (c:=[_,_]) I KW .here (wT I)) (by rw[Bb g];rfl) λF h9=>by rw[Bb g];exact⟨rfl,rfl⟩
 obtain⟨v,g⟩:∃v,Yu rs fr t2 vx b=some v:=by cases g:Yu rs fr t2 vx b with
  |none=>rw[g]at i;cases i
  |some v=>exact⟨v,rfl⟩
 have hk:=u.tb v g;have D:=RG hb.2 u.tr g;refine XV _ (λw F s ⟨⟨l,hy,hx⟩,a⟩=>(show J7 F j.1 j.2 v by rw[g]at a;exact a).nl) (λB=>wC 6 I<|QA (QJ (vs:=[_,_,_,_,_,_,_,_,_]) I Hv .u1 .h9 rfl)<|wB 2 I<|QI I (λw F s ⟨⟨l,hy,hx⟩,a⟩=>Mp (ro:=j.1) (lo:=j.2) s hy hx (by rw[g]at a;exact a) O O O O O hpn hk.1) λN=>JQ _ (λ_ _ f h=>h.2.nl) λo=>?_);rw[show(Yc rs fr t2 vx v n).length=vx.length by simp[Yc]]at o;refine wW I<|QI I (λ_ _ f k=>C2 f k.2 hb O hk.2) λA=>QA (Q4 I zB Mn (wV I I I))<|QW (vs:=[_,_]) I I I KW I .here .h2 wm<|wD 4 I ?_
 exact Je ((j,A)) I (.JX (c:=[_,_]) I KW .here (wT I)) (by rw[Ba g];rfl) λF ⟨⟨⟨⟨l,hy,hx⟩,a⟩,M⟩,z⟩=>by rw[Ba g];exact⟨by rw[g]at a;exact a,z⟩
def mbL(v:List (Rat×Rat))(a:Bool):List (Rat×Rat):=if a=true then[]else v
def mbE(a:Bool):Int:=if a=true then 4 else 0
def mbT(s:List UInt8)(a:Bool):List UInt8:=if a=true then[]else s
theorem zh{c:vD}{v u:List (Rat×Rat)}(H:Fits F w)(m:JE F)(y:J7 F c.1.1 c.1.2 v)(hu:J7 F c.2.1 c.2.2 u)(D:v.length<=1000000)(E:u.length<=1000000)(o:∀a∈v,Xf a 100000000)(x:∀a∈u,Xf a 100000000):
  QU prog 166 [mdV c,tx s] w F (λ(d:Sr×Sr)=>.tuple #[.agg #[tx (mbT s (Jx v||Jx u)),d.1.v,d.2.v],.int .i64 (mbE (Jx v||Jx u))]) (λd F=>BQ F d.1 (mbL v (Jx v||Jx u))/\BQ F d.2 (mbL u (Jx v||Jx u))):=by
 have B:=y.nl;have C:=hu.nl;unfold mdV;refine QU.intro (G:=λF=>JE F/\J7 F c.1.1 c.1.2 v/\J7 F c.2.1 c.2.2 u) func166 rfl tH rfl rfl H (λF' i=>⟨m.le i,y.le i,hu.le i⟩)<|wa<|Qp rfl (vs:=[_,_]) rfl λb2=>Qc Wt λb4=>wZ rfl<|wa<|QA (QH rfl pX JH)<|QA (Qe rfl JH .u1 .h1)<|QI rfl (λ_ _ f k=>BJ (r:=c.1.1) (l:=c.1.2) (vs:=v) f k.1 k.2.1 O o) λA=>wW rfl<|QA (Qa rfl rfl)<|QA (Qa rfl rfl)<|wX rfl<|wZ rfl<|QG<|wb rfl<|QA (QT rfl rfl rfl) ?_
 refine QE<|QC ?_
 refine QQ I (λg=>?_) λg=>?_
 ·have j:Jx v=true:=by
   cases e:Jx v with
   |true=>rfl
   |false=>rw[e]at g;cases g
  have b:(Jx v||Jx u)=true:=by rw[j];rfl
  refine wa<|QA (Q4 I RF Wt .nil)<|wW I<|QW (vs:=[_,_,_]) I I I X8 I .here .h3 wu<|wD 4 I ?_
  exact Je (((⟨none,0,0⟩:Sr),(⟨none,0,0⟩:Sr))) I (.JX (c:=[_,_,_]) I X8 .here (wT I)) (by rw[b,j];rfl) λF h9=>by rw[b];exact⟨BQ.nil F,BQ.nil F⟩
 have j:Jx v=false:=by
  cases e:Jx v with
  |false=>rfl
  |true=>rw[e]at g;cases g
 refine wC 4 I<|QA (QH I CN JH)<|QA (Qe I JH .u1 (.skip .h1))<|QI I (λ_ _ f k=>BJ (r:=c.2.1) (l:=c.2.2) (vs:=u) f k.1.1 k.1.2.2 O x) λz=>wD 14 I ?_
 refine QQ I (λg=>?_) λg=>?_
 ·have h:Jx u=true:=by
   cases e:Jx u with
   |true=>rfl
   |false=>rw[e]at g;cases g
  have b:(Jx v||Jx u)=true:=by rw[h,Bool.or_true]
  refine wa<|QA (Q4 I RF Wt .nil)<|wW I<|QW (vs:=[_,_,_]) I I I X8 I .here .h3 wu<|wD 4 I ?_
  exact Je (((⟨none,0,0⟩:Sr),(⟨none,0,0⟩:Sr))) I (.JX (c:=[_,_,_]) I X8 .here (wT I)) (by rw[b,h];rfl) λF h9=>by rw[b];exact⟨BQ.nil F,BQ.nil F⟩
 have h:Jx u=false:=by
  cases e:Jx u with
  |false=>rfl
  |true=>rw[e]at g;cases g
 have b:(Jx v||Jx u)=false:=by rw[j,h];rfl
 refine wC 7 I<|QA (Q4 I RF Wt (.cons (vs:=[_]) I I I .h1 (.cons (vs:=[_]) I I I (.skip .h1) (.cons (vs:=[_]) I I I (.skip (.skip .h1)) .nil))))<|QW (vs:=[_,_,_]) I I I X8 I .here .h3 wu<|wD 4 I ?_
 exact Je ((A,z)) I (.JX (c:=[_,_,_]) I X8 .here (wT I)) (by rw[b];rfl) λF ⟨⟨⟨m,y,hu⟩,h12⟩,n⟩=>by rw[b];rw[j]at h12;rw[h]at n;exact⟨h12,n⟩
def k7(e:Int)(o:Option (List (Rat×Rat)×List (Rat×Rat)))(s:List UInt8):(List UInt8×List (Rat×Rat)×List (Rat×Rat))×Int:=if e≠0 then(([],[],[]),e)else match o with
 |none=>(([],[],[]),25)
 |some p=>((mbT s (Jx p.1||Jx p.2),mbL p.1 (Jx p.1||Jx p.2),mbL p.2 (Jx p.1||Jx p.2)),mbE (Jx p.1||Jx p.2))
theorem QAI{e:Int}{o:Option (List (Rat×Rat)×List (Rat×Rat))}(h:e≠0):k7 e o s=(([],[],[]),e):=by unfold k7;rw[if_pos h]
theorem F8:k7 0 none s=(([],[],[]),25):=rfl
theorem F7(p:List (Rat×Rat)×List (Rat×Rat))(s:List UInt8):k7 0 (some p) s=((mbT s (Jx p.1||Jx p.2),mbL p.1 (Jx p.1||Jx p.2),mbL p.2 (Jx p.1||Jx p.2)),mbE (Jx p.1||Jx p.2)):=rfl
def MC(y:Xz)(a:List UInt8)(l:List (List UInt8×List UInt8))(b:List UInt8)(o bits:Int):Int:=if Qs [Ys y a l b,BD o,VZ bits]=0 then Wc (Qz a) (Qz b)else Qs [Ys y a l b,BD o,VZ bits]
theorem gL{a b:List UInt8}{r:Sr}{o bits:Int}(Q:Fits F w)(A:JE F)(hy:X4 F y)(ht:GJ y)(hx:Ks F r l)(hc:BS r l)(ha:a.length<=1000000)(hb:b.length<=1000000)(z:MC y a l b o bits=0->kR y.rs (Qz a) (Qz b) (lV l) o.toNat bits):QU prog 84 [y.v,tx a,r.v,tx b,.int .i64 o,.int .i64 bits] w F (λ(d:Sr×Sr)=>.tuple #[.agg #[tx (k7 (MC y a l b o bits) (KR y.rs (Qz a) (Qz b) (lV l) o.toNat bits) b).1.1,d.1.v,d.2.v],.int .i64 (k7 (MC y a l b o bits) (KR y.rs (Qz a) (Qz b) (lV l) o.toNat bits) b).2]) (λd F=>BQ F d.1 (k7 (MC y a l b o bits) (KR y.rs (Qz a) (Qz b) (lV l) o.toNat bits) b).1.2.1/\BQ F d.2 (k7 (MC y a l b o bits) (KR y.rs (Qz a) (Qz b) (lV l) o.toNat bits) b).1.2.2):=by
 refine QU.intro (G:=λF=>JE F/\X4 F y/\Ks F r l) func84 rfl tH rfl rfl Q (λF' D=>⟨A.le D,hy.le D,hx.le D⟩)<|wa<|Qp rfl (vs:=[_,_,_]) rfl λb6=>Qc Wt λb12=>wZ rfl<|wa<|QA (wO I J6 .u1)<|wW rfl<|wW rfl<|wW rfl<|QI rfl (λ_ _ f k=>W1 (y:=y) f k.1 k.2.1 ht k.2.2 hc ha hb) λ_=>wW rfl<|QI rfl (λ_ _ f k=>WA f) λ_=>wW rfl<|QI rfl (λ_ _ f k=>BN f) λ_=>Qb rfl (Q5 ZM) YS Ht rfl rfl λb26=>QI rfl (λ_ _ f k=>YV f (Qy.of (cs:=aT Jo [_,_,_]) k.2 rfl) tF) λ_=>wX rfl<|QE<|QC ?_
 refine ZZ [(1,_),(2,_),(3,_),(4,_),(5,_),(6,_),(12,_)] [(14,.int .i64 (MC y a l b o bits))] w6 ?_ ?_
 ·refine wA 6 I ?_;refine QQ I (λh=>?_) λh=>?_
  ·have j:Qs [Ys y a l b,BD o,VZ bits]=0:=by simpa using h
   have P:=Gn (F:=F) (Q9 j (Ys y a l b) (.head _));refine wA 3 I<|QI I (λ_ _ f k=>WB f k.1.1.1.1.1.1 ⟨P.2.1,ha⟩ ⟨P.2.2.2,hb⟩) λ_=>wB 2 I ?_
   exact JY ⟨rfl,rfl,rfl,rfl,rfl,rfl,rfl,(congrArg (λb=>some (ah .i64 b)) (by unfold MC;rw[if_pos j])),trivial⟩ we tN
  have j:¬Qs [Ys y a l b,BD o,VZ bits]=0:=by simpa using h
  refine QN ?_;exact JY ⟨rfl,rfl,rfl,rfl,rfl,rfl,rfl,(congrArg (λb=>some (ah .i64 b)) (by unfold MC;rw[if_neg j])),trivial⟩ we tM
 simp only[aa,ab];refine wA 7 I ?_;refine QQ I (λh=>?_) λh=>?_
 ·have i:=bne_iff_ne.1 h;refine wa<|QA (Q4 I RF Wt .nil)<|wW I<|QW (vs:=[_,_,_]) I I I X8 I .here .h3 wu<|wD 4 I ?_
  exact Je (((⟨none,0,0⟩:Sr),(⟨none,0,0⟩:Sr))) I (.JX (c:=[_,_,_]) I X8 .here (wT I)) (by rw[QAI i];rfl) λF h9=>by rw[QAI i];exact⟨BQ.nil F,BQ.nil F⟩
 have i:MC y a l b o bits=0:=bne_eq_false_iff_eq.1 h;have z:=z i;have C:Qs [Ys y a l b,BD o,VZ bits]=0:=by
  unfold MC at i;by_cases g:Qs [Ys y a l b,BD o,VZ bits]=0
  ·exact g
  rw[if_neg g]at i;exact absurd i g
 have R:Ys y a l b=0:=Q9 C _ (.head _);have hor:=Nw (Q9 C _ (.tail _ (.head _)));have M:=Rs (Q9 C _ (.tail _ (.tail _ (.head _))));have x:=Gn (F:=F) R;have K:=hy.ok x.1;have hn1:=K.n1;have hn0:=K.n0;have S:=K.rn;have Y:=(XZ x.2.2.1).1;have Z:y.rs.length=y.nm.n:=by unfold Xz.rs;rw[ae,hy.Ka,S]
 obtain⟨n,rfl⟩:∃n:Nat,o=(n:Int):=⟨o.toNat,O⟩;rw[ai]at z;refine wC 4 I<|QA (wO I J6 .u1)<|QI rfl (λ_ _ f k=>Zc (y:=y) f k.1.1.1.1.1.1 k.1.1.1.1.1.2.1 ht K) λc39=>wW rfl<|wW rfl<|wW rfl<|QI rfl (λ_ _ f k=>DU f k.1.1.1.1.1.1.1 ⟨x.2.1,ha⟩ ⟨x.2.2.2,hb⟩ k.1.1.1.1.1.1.2.2 hc (XZ x.2.2.1).2) λc43=>JQ _ (λw F Q ⟨⟨⟨⟨⟨⟨⟨⟨A,hy,hx⟩,_⟩,_⟩,_⟩,H⟩,_⟩,E⟩,N⟩=>ar N.bx.nl (ar E.Ka (E.pn K.short))) λT=>?_
 obtain⟨L,X,hp39⟩:=T;rw[Yg]at L;refine wB 2 I<|QI I (λ_ _ f k=>xD (n:=n) f k.1.1.1.1.1.1.1.1 k.1.2 k.2 O O O (λe he=>tD<|hp39 e he) O M z) λV=>wB 3 I<|Qc Mn λb15=>QW (vs:=[_,_]) I I I KW I .here .h2 wm<|wD 7 I<|QA (XL I)<|QE<|QC ?_
 refine QQ I (λh=>?_) λh=>?_
 ·have m:KR y.rs (Qz a) (Qz b) (lV l) n bits=none:=by cases m:KR y.rs (Qz a) (Qz b) (lV l) n bits with
   |none=>rfl
   |some v=>rw[m]at h;cases h
  refine wa<|QA (Q4 I RF Wt .nil)<|QW (vs:=[_,_,_]) I I I X8 I .u1 .h3 wu<|wD 4 I ?_
  exact Je (((⟨none,0,0⟩:Sr),(⟨none,0,0⟩:Sr))) I (.JX (c:=[_,_,_]) I X8 .u1 (wT I)) (by rw[i,ai,m,F8];rfl) λF h9=>by rw[i,ai,m,F8];exact⟨BQ.nil F,BQ.nil F⟩
 obtain⟨v,m⟩:∃v,KR y.rs (Qz a) (Qz b) (lV l) n bits=some v:=by cases m:KR y.rs (Qz a) (Qz b) (lV l) n bits with
  |none=>rw[m]at h;cases h
  |some v=>exact⟨v,rfl⟩
 have hz:=EA M.2 z m;rw[Yg]at hz;refine wC 4 I<|QA (wN I KW .here)<|wW I<|QI I (λw F Q ⟨⟨⟨⟨⟨⟨⟨⟨⟨A,hy,hx⟩,_⟩,_⟩,_⟩,H⟩,_⟩,E⟩,N⟩,B⟩=>zh (c:=V) (v:=v.1) (u:=v.2) (s:=b) Q A (by rw[m]at B;exact B.1) (by rw[m]at B;exact B.2) O O hz.2.1 hz.2.2) λU=>wB 2 I<|QW (vs:=[_,_,_]) I I I X8 I .u1 .h3 wu<|wD 4 I ?_
 exact Je (U) rfl (.JX (c:=[_,_,_]) I X8 .u1 (wT I)) (by rw[i,ai,m,F7];rfl) λF h9=>by rw[i,ai,m,F7];exact h9.2
instance :Inhabited Sr:=⟨⟨none,0,0⟩⟩
def V3(y:Xz)(t:List UInt8×List UInt8)(l:List (List UInt8×List UInt8)):Int:=Qs [y.e,Xd t.1 t.2,YZ y.nm.n l]
def Ad(y:Xz)(t:List UInt8×List UInt8)(l:List (List UInt8×List UInt8))(o:Int):Int:=Qs [y.e,Xd t.1 t.2,YZ y.nm.n l,BD o]
def seR(e:Int)(a:List (List (Rat×Rat))):Int×List (List (Rat×Rat)):=if e≠0 then(e,[])else(if a.any Jx=true then 4 else 0,if a.any Jx=true then[]else a)
theorem ug{e:Int}(h:e≠0):seR e tt=(e,[]):=by unfold seR;rw[if_pos h]
theorem Oi(a:List (List (Rat×Rat))):seR 0 a=(if a.any Jx=true then 4 else 0,if a.any Jx=true then[]else a):=rfl
structure OC(F:Gs)(c:Sr×List Sr)(tt:List (List (Rat×Rat))):Prop where
 row:Qy F c.1.q c.1.n 1 (c.2.map Sr.v)
 len:c.2.length=c.1.n
 QEU:c.1.n=tt.length
 el:∀j,j<tt.length->BQ F (el c.2 j) (el tt j)
theorem OC.nil(F:Gs):OC F (⟨none,0,0⟩,[]) []:=⟨Qy.nil F none 1,rfl,rfl,λj h=>absurd h (ba _)⟩
structure SeJ(tt:List (List (Rat×Rat))) where
 i:Nat
 v:Value
 ob:List (Nat×Obj)
 rs:List Sr
 le:i<=tt.length
 len:rs.length=i
 hr:Q8 36 1 v i (rs.map Sr.v) ob
 no:∀j,j<i->Jx (el tt j)=false
theorem uC(h:i<tt.length)(k:Jx (el tt i)=true):tt.any Jx=true:=List.any_eq_true.2 ⟨_,Qw h,k⟩
theorem any_none(h:∀j,j<tt.length->Jx (el tt j)=false):tt.any Jx=false:=by
 cases e:tt.any Jx with
 |false=>rfl
 |true =>
  obtain⟨x,hx,k⟩:=List.any_eq_true.1 e;obtain⟨j,a,rfl⟩:=bN hx;have:=h j a;rw[Jb a,k]at this;cases this
theorem QBV{l:List U5}{j:Nat}{v:Value}(h:i<l.length)(a:[(el l i).1.v][j]?=some v):(l.map λe=>e.1.v)[i*1+j]?=some v:=by
 match j,a with
 |0,a=>rw[Nat.add_zero,bX,List.getElem?_map,List.getElem?_eq_getElem h,bz,<-Jb h];exact a
 |j+1,a=>simp at a
theorem Uf[Inhabited α]{l:List α}{x:α}{j:Nat}(h:j<l.length):el (l++[x]) j=el l j:=by rw[Jb h,Jb (by rw[aF];omega),List.getElem_append_left h]
theorem CQ[Inhabited α](l:List α)(x:α):el (l++[x]) l.length=x:=by rw[Jb tJ];simp
theorem Ep{t:List UInt8×List UInt8}{r:Sr}(g:Fits F w)(a:JE F)(hy:X4 F y)(ht:GJ y)(c:t.1.length<=1000000/\t.2.length<=1000000)(hx:Ks F r l)(hc:BS r l):Qf prog 128 [y.v,.agg #[tx t.1,tx t.2],r.v] w F (.int .i64 (V3 y t l)):=by
 refine QU.intro (G:=λF=>JE F/\X4 F y/\Ks F r l) func128 rfl tH rfl rfl g (λF' b=>⟨a.le b,hy.le b,hx.le b⟩)<|wa<|Qp rfl (vs:=[_,_,_]) rfl λb3=>Qp rfl (vs:=[_,_]) rfl λb4=>wZ rfl<|QG<|JG we mixed tE<|QK (wO I J6 .u1)<|QR rfl (λ_ _ f k=>Zs (y:=y) f k.1 k.2.1 ht) λ_=>QK (wN I Jd .here)<|QR rfl (λ_ _ f k=>W2 f k.1.1 c) λ_=>QK (wO I J6 .u1)<|QK (QD rfl)<|QR rfl (λw F g ⟨⟨⟨a,hy,hx⟩,_⟩,_⟩=>KD (y:=y) g a hy hx hc) λ_=>?_
 refine Qo I (Q5 ZM) YS Ht I I (λi=>?_) (λw h=>h.imp tP λF h=>h.1.1.1);refine QR I (λ_ _ f k=>YV f (Qy.of (cs:=aT Jo [_,_,_]) k.2 I) tF) (λ_=>QK (QF I)<|Q7<|QC<|QX ?_);exact wg I I (rfl) tL
theorem Rh{t:List UInt8×List UInt8}(c:Fits F w)(a:JE F)(h:Xd t.1 t.2=0)(b:t.1.length<=1000000/\t.2.length<=1000000):Xp prog 113 [.agg #[tx t.1,tx t.2]] w F (JB t):=CP c a (Ku h).1 (Ku h).2.1 b
theorem xM{t:List UInt8×List UInt8}{r:Sr}{o:Int}(S:Fits F w)(s:JE F)(hy:X4 F y)(ht:GJ y)(X:t.1.length<=1000000/\t.2.length<=1000000)(hx:Ks F r l)(hc:BS r l)(D:Ad y t l o=0->Uo y.rs (JB t) (lV l) o.toNat/\∀b∈(J1 y.rs (JB t) (lV l) o.toNat),∀a∈b,Xf a 100000000):
  QU prog 25 [y.v,.agg #[tx t.1,tx t.2],r.v,.int .i64 o] w F (λ(c:Sr×List Sr)=>.tuple #[c.1.v,.int .i64 (seR (Ad y t l o) (J1 y.rs (JB t) (lV l) o.toNat)).1]) (λc F=>OC F c (seR (Ad y t l o) (J1 y.rs (JB t) (lV l) o.toNat)).2):=by
 refine QU.intro (G:=λF=>JE F/\X4 F y/\Ks F r l) func25 rfl tH rfl rfl S (λF' R=>⟨s.le R,hy.le R,hx.le R⟩)<|wa<|Qp rfl (vs:=[_,_,_]) rfl λb4=>Qp rfl (vs:=[_,_]) rfl λb5=>wX rfl<|wZ rfl<|QG<|QG<|JG we mixed tE<|QK (wO I J6 .u1)<|QR rfl (λ_ _ f k=>Zs (y:=y) f k.1 k.2.1 ht) λ_=>QK (wN I Jd .here)<|QR rfl (λ_ _ f k=>W2 f k.1.1 X) λ_=>QK (wO I J6 .u1)<|QK (QD rfl)<|QR rfl (λw F S ⟨⟨⟨s,hy,hx⟩,_⟩,_⟩=>KD (y:=y) S s hy hx hc) λ_=>QK (QD rfl)<|QR rfl (λ_ _ f k=>WA f) λ_=>?_
 refine Qo I (Q5 ZM) YS Ht I I (λb25=>?_) (λw h=>h.imp tS λF h=>h.1.1.1.1);refine QR I (λ_ _ f k=>YV f (Qy.of (cs:=aT Jo [_,_,_,_]) k.2 I) tF) (λ_=>QK (QF I)<|Q7<|wE 7 I ?_);refine QQ I (λg=>?_) λg=>?_
 ·have m:Ad y t l o≠0:=bne_iff_ne.1 g;refine wA 8 I ?_;exact Je (((⟨none,0,0⟩,[]):Sr×List Sr)) I (wU I I) (by rw[ug m];rfl) λF h9=>by rw[ug m];exact OC.nil F
 have m:Ad y t l o=0:=bne_eq_false_iff_eq.1 g;have D:=D m;have hye:y.e=0:=Q9 m _ (.head _);have hts:=Q9 m (Xd t.1 t.2) (.tail _ (.head _));have hbx:YZ y.nm.n l=0:=Q9 m _ (.tail _ (.tail _ (.head _)));have hor:=Nw (Q9 m (BD o) (.tail _ (.tail _ (.tail _ (.head _)))));have Z:=hy.ok hye;have hn1:=Z.n1;have hn0:=Z.n0;have L:=Z.rn;have V:=(XZ hbx).1;have hrs:y.rs.length=y.nm.n:=by unfold Xz.rs;rw[ae,hy.Ka,L]
 obtain⟨n,rfl⟩:∃n:Nat,o=(n:Int):=⟨o.toNat,O⟩;rw[ai]at D;have N:(J1 y.rs (JB t) (lV l) n).length=l.length:=by rw[WV,Yg]
 refine wC 4 I<|wZ rfl<|QG<|QG<|JG we mixed tE<|QK (wO I J6 .u1)<|QR rfl (λ_ _ f k=>Zc (y:=y) f k.1.1.1.1.1.1.1 k.1.1.1.1.1.1.2.1 ht Z) λc31=>QK (wN I Jd .here)<|QR rfl (λ_ _ f k=>Rh f k.1.1.1.1.1.1.1.1 hts X) λc33=>QK (QD rfl)<|QR rfl (λ_ _ f k=>H5 f k.1.1.1.1.1.1.1.1.1 k.1.1.1.1.1.1.1.1.2.2 hc (XZ hbx).2) λc35=>Yl _ (λw F S ⟨⟨⟨⟨⟨⟨⟨⟨⟨⟨s,hy,hx⟩,_⟩,_⟩,_⟩,_⟩,z⟩,_⟩,A⟩,M⟩,K⟩=>ar K.nl (ar A.Ka (A.pn Z.short))) λhnn=>?_
 obtain⟨hn35,hn31,hp31⟩:=hnn;rw[Yg]at hn35;refine QK (QD I)<|QR I (λ_ _ f k=>Pv (n:=n) (x:=c33) f k.1.1.2 k.1.2 k.2 O O O O (λe he=>tD<|hp31 e he) D.1) λu=>Yl _ (λ_ _ f h=>ar h.2.2.2.1 h.2.2.2.2.1) λh37p=>?_
 obtain⟨C,hl37⟩:=h37p;have hn37:u.1.n=l.length:=by rw[<-hl37,<-Yg l,<-WV y.rs (JB t) (lV l) n,<-C,ae]
 refine QK (Qg I W9)<|QK (QD I)<|Q7<|QC<|QV<|JU (ι:=SeJ (J1 y.rs (JB t) (lV l) n)) [(37,_),(38,_)] (λi=>[(11,i.v),(39,.int .i64 ((i.i:Nat):Int))]) (λi=>i.ob) (λi F=>∀j,j<i.i->BQ F (el i.rs j) (el (J1 y.rs (JB t) (lV l) n) j)) (λi=>l.length-i.i) (⟨0,.slice none 0 0,[],[],ao _,rfl,.nil,λj h=>absurd h (ba _)⟩) wm wm (tQ) (λ_ _ j h=>absurd h (ba _)) λi=>?_
 simp only[aa,ab];have hi:=i.le;refine wA 6 I ?_;refine QQ I (λg=>?_) λg=>?_
 ·have hlt:i.i<l.length:=tD<|wi g
  have hil:=i.len;refine XV _ (λw F S ⟨⟨⟨⟨⟨⟨⟨⟨⟨⟨⟨⟨s,hy,hx⟩,_⟩,_⟩,_⟩,_⟩,z⟩,_⟩,A⟩,M⟩,K⟩,H⟩,hS⟩=>(Vo H.2.1 C (show i.i<u.2.length by omega)).nl) (λP=>?_);rw[VO _ _ _ _ (by rw[Yg];exact hlt)]at P;refine wC 6 I<|QA (Q3 (n:=u.1.n) i.i (λF h9=>h9.1.2.1) rfl rfl W9 XK O)<|QA (JZ (n:=u.1.n) (vs:=[(el u.2 i.i).1.v]) (i.i*1) (λF h9=>h9.1.2.1) O rfl XK I λj v hv=>QBV (show i.i<u.2.length by omega) hv)<|Qc WT λb13=>QW (vs:=[_]) I I I XK I .here .h1 wk<|wY<|wa<|QA (QH I Xk JH)<|QA (Qe I JH .here .h1)<|QI I (λw F S ⟨⟨⟨⟨⟨⟨⟨⟨⟨⟨⟨⟨s,hy,hx⟩,_⟩,_⟩,_⟩,_⟩,z⟩,_⟩,A⟩,M⟩,K⟩,H⟩,hS⟩=>BJ (r:=(el u.2 i.i).1) (l:=(el u.2 i.i).2) (vs:=el (J1 y.rs (JB t) (lV l) n) i.i) S s (Vo H.2.1 C O) (by rw[P];omega) (D.2 _ (Qw (by rw[WV,Yg];omega)))) λB=>wD 8 I ?_
  refine wA 6 I ?_;refine QQ I (λg=>?_) λg=>?_
  ·have hL:Jx (el (J1 y.rs (JB t) (lV l) n) i.i)=true:=by
    cases e:Jx (el (J1 y.rs (JB t) (lV l) n) i.i)with
    |true=>rfl
    |false=>rw[e]at g;cases g
   have E:=uC (show i.i<(J1 y.rs (JB t) (lV l) n).length by omega) hL;refine wA 8 I ?_
   repeat first|refine Q6 ?_|refine Qv ?_
   exact Je (((⟨none,0,0⟩,[]):Sr×List Sr)) I (wU I I) (by rw[m,Oi,ai,if_pos E,hL];rfl) λF h9=>by rw[m,Oi,ai,if_pos E,if_pos E];exact OC.nil F
  have hL:Jx (el (J1 y.rs (JB t) (lV l) n) i.i)=false:=by
   cases e:Jx (el (J1 y.rs (JB t) (lV l) n) i.i)with
   |false=>rfl
   |true=>rw[e]at g;cases g
  refine wC 5 I<|Qb I (Q5 Sk) J0 QEI I I λb54=>?_
  refine Z4 (bs1:=[_]) (ob:=i.ob) (n:=i.i) (k:=1) (sz:=1) (news:=[B.v]) I I Sk J0 QEI I QFb i.hr (Src.row (off:=0) tO (λj q hq=>by rw[ay];rw[ag];exact hq) rfl) O O (λv hv=>by rw[List.mem_singleton.1 hv];rfl) (λv55 U Y=>?_);refine wB 2 I<|Qj<|QC<|QB<|QA (Qu I I O)<|wB 2 I ?_
  exact Ql (⟨i.i+1,v55,U,i.rs++[B],O,by rw[aF,i.len];rfl,by rw[ak];exact Y,λj T=>by
      rcases Nat.lt_succ_iff_lt_or_eq.1 T with h | rfl
      ·exact i.no j h
      ·exact hL⟩) (by show l.length-(i.i+1)<l.length-i.i;omega) wv ((.cons _ we)) (λF ⟨⟨⟨⟨⟨⟨⟨⟨⟨⟨⟨⟨⟨⟨s,hy,hx⟩,_⟩,_⟩,_⟩,_⟩,z⟩,_⟩,A⟩,M⟩,K⟩,H⟩,hS⟩,h46⟩,hs54⟩=>⟨⟨⟨⟨⟨⟨⟨⟨⟨⟨⟨⟨s,hy,hx⟩,trivial⟩,trivial⟩,trivial⟩,trivial⟩,z⟩,trivial⟩,A⟩,M⟩,K⟩,H⟩,λj T=>by
      rcases Nat.lt_succ_iff_lt_or_eq.1 T with h | rfl
      ·show BQ F (el (i.rs++[B]) j) _;rw[Uf O];exact hS j h
      show BQ F (el (i.rs++[B]) i.i) _;rw[show el (i.rs++[B]) i.i=B by conv=>{ lhs;rw[<-hil] };exact CQ _ _];rw[hL]at h46;exact h46⟩)
 have hge:i.i=l.length:=by have:=wj g;have:=i.le;omega
 have hno:(J1 y.rs (JB t) (lV l) n).any Jx=false:=any_none λj T=>i.no j O;refine Qx ?_
 repeat first|refine QY ?_|refine QO tH ?_
 refine QZ<|wE 3 I ?_
 have V:=i.len;obtain⟨⟨rq,rn,rc⟩,hv2,L,hrc,Q⟩:=Q8.fix (w0:=w) (F0:=F) (bs1:=[]) (G:=_) i.hr;dsimp only at L hrc Q;subst L;refine Zj Q ?_;rw[hv2];dsimp only[Sr.v];refine wD 6 I ?_;exact Je (((⟨rq,i.i,rc⟩,i.rs):Sr×List Sr)) I (wU I I) (by rw[m,Oi,ai,hno];rfl) λF h9=>by rw[m,Oi,ai,hno];show OC F (⟨rq,i.i,rc⟩,i.rs) (J1 y.rs (JB t) (lV l) n);exact⟨h9.2,V,by show i.i=_;rw[N];exact hge,λj T=>h9.1.2 j (by rw[N]at T;omega)⟩
structure NtJ(n:Nat) where
 i:Nat
 le:i<=n
def xR(a:List (Fr×Rat)):List (List UInt8):=a.map λp=>JP p.2
theorem xQ(h:i<xs.length):(xR (xs.take (i+1))).map tx=(xR (xs.take i)).map tx++[tx (JP (el xs i).2)]:=by rw[XE h];simp[xR]
theorem gP(h:i<=xs.length):((xR (xs.take i)).map tx).length=i:=by simp[xR];omega
theorem gm{vs:List Value}{z v:Value}(h:vs.length=i)(hi:i<n):VG (vs++Xg [z] (n-i)) (0+i*1) [v] ((vs++[v])++Xg [z] (n-(i+1))):=xo h hi
theorem Lh{q:Option Addr}{c:Nat}(D:Fits F w)(z:JE F)(C:Qy F q n 4 (Fj xs))(B:Rz F xs)(E:xs.length=n)(H:n<=1000000)(hz:∀p∈xs,JW p.2<=100000000):
  QU prog 94 [.slice q n c] w F (λ(c:Sr)=>c.v) (λc F=>Qy F c.q c.n 1 ((xR xs).map tx)/\c.n=n/\c.n<=c.cap):=by
 refine QU.intro (G:=λF=>JE F/\Qy F q n 4 (Fj xs)/\Rz F xs) func94 rfl tH rfl rfl D (λF' m=>⟨z.le m,C.le m,B.le m⟩)<|wa<|wZ rfl<|wb rfl<|QA (Qg rfl Xb)<|Mm (n:=n) (bytes:=16) rfl rfl YG JF Im rfl QDD O O λu=>Zj (E':=⟨w,F,[(u,.cells ((xR (xs.take 0)).map tx++Xg [tx []] (n-0)).toArray 22 (0,0))],λF=>JE F/\Qy F q n 4 (Fj xs)/\Rz F xs⟩) tM<|wZ rfl<|QG<|wb rfl<|QA (Qg rfl Xb)<|wW rfl<|wY<|QV<|JU (ι:=NtJ xs.length) [(3,_),(9,_),(10,_)] (λi=>[(11,.int .i64 ((i.i:Nat):Int))]) (λi=>[(u,.cells ((xR (xs.take i.i)).map tx++Xg [tx []] (n-i.i)).toArray 22 (0,0))]) (λi F=>True) (λi=>xs.length-i.i) (⟨0,ao _⟩) wu wk we tL λi=>?_
 simp only[aa,ab];have hi:=i.le;refine wA 6 I ?_;refine QQ I (λg=>?_) λg=>?_
 ·have a:i.i<xs.length:=tD<|wi g
  have o:=Qw a;refine wC 7 I<|QA (Q3 (n:=n) i.i (λF h9=>h9.1.2.1) rfl rfl Xb QS O)<|QA (JZ (n:=n) (vs:=[.int .i64 (el xs i.i).1.n.s,.slice (el xs i.i).1.n.q (el xs i.i).1.n.n (el xs i.i).1.n.cap,.int .i64 (el xs i.i).1.d.s,.slice (el xs i.i).1.d.q (el xs i.i).1.d.n (el xs i.i).1.d.cap]) ((i.i)*4) (λF h9=>h9.1.2.1) O rfl QS I λj v A=>JN (f:=(λe=>Kj e.1)) (l:=xs) (λ_=>rfl) O A)<|Qc Jw λK=>wX I<|QW (vs:=[_,_,_,_]) I I I QS I .here .h4 wv<|wD 5 I<|QA (wP I QS .here)<|QI I (λ_ _ f k=>N3 f k.1.1 (k.1.2.2 _ o) (hz _ o)) λ_=>QA (JL (i:=i.i) rfl rfl YG JF O)<|QW (vs:=[tx (JP (el xs i.i).2)]) I I I JF I .u1 (gm (gP O) O) wk<|QE<|Qj<|QC<|QB ?_
  refine QA (Qu I I O)<|wB 2 I ?_
  exact Ql (⟨i.i+1,a⟩) (by show xs.length-(i.i+1)<xs.length-i.i;omega) wv ((by rw[xQ a];exact .cons _ we)) λF h=>⟨h.1.1,trivial⟩
 have y:i.i=xs.length:=by have:=wj g;have:=i.le;omega
 refine Qx ?_
 repeat first|refine QY ?_|refine QO tH ?_
 refine QZ<|wE 3 I ?_
 have x:Xg [tx []] (n-i.i)=[]:=by rw[show n-i.i=0 from by omega];rfl
 rw[x,aK,y,aP];refine VI (b:=u) .here<|wD 5 I ?_
 exact QP ((⟨some ⟨u,0,none⟩,n,n⟩:Sr)) I (wT I) (rfl) λF h9=>⟨Qy.of h9.2 (by simp[xR];omega),rfl,aD _⟩
end Go.Proofs.YtjcphjpkimmmjaaGreatDoor
