/- Steps of the proof of the theorem in the last file. -/
import Derived.Test.YtpmehagnedbkhaaGreatDoorP2
import Derived.Lib.AppendZeros
import Derived.Scope
import Derived.Control
set_option linter.all false
set_option maxHeartbeats 4000000
open Go.Proofs.Tryz
open List renaming cons_append → aa,nil_append → ae,length_map → af,perm_append_comm → ag,getElem?_toArray → ah,mem_map_of_mem → ak,map_append → ao,length_range → av,take_succ_cons → aB,drop_succ_cons → aC,append_assoc → aD,range → aF,length_append → aG,take_zero → aH,flatMap_append → aJ,drop_zero → aK,append_nil → aL,getElem_map → aM,range_succ → aN,perm_append_comm_assoc → aO,foldl_append → aP,take_length → aQ,map_cons → aS,take_of_length_le → aT,map → aU,mem_cons_of_mem → aX,map_map → aZ,length_set → bc,getElem?_eq_none → bj,length → bm,length_take → bD,length_cons → bF,getElem?_append_left → bG,mem_cons → bI,map_set → bJ,map_nil → bK,take_append_drop → bN,singleton_append → bO,getElem_of_mem → bQ,ext_getElem → bR,map_id → bW
open Go.Value renaming int → ai,bool → ax,tuple → bV
open Int renaming toNat_natCast → aj
open Nat renaming zero_le → aq,zero_add → aA,le_refl → aE,mul_le_mul → aV,le_trans → aW,not_lt_zero → bh,lt_or_ge → bA,mul_one → ee
open Bool renaming eq_iff_iff → ar,or_eq_true → aY
open And renaming intro → au
open Rat renaming divInt → ay,le_refl → bw,le_trans → bL,le_of_lt → bM,mul_one → bP,mul_assoc → bU,div_def → bZ
open Go.Builtin renaming zeroCells → aI
open List.Sublist renaming refl → aR,cons → ef
open Go.Fence renaming wide → bz
open List.Perm renaming refl → bB
open Option renaming map_some → bC
open Option.some renaming injEq → bH
open Go.Region renaming wanted → bS
open Go.Obj renaming cells → bT
open Go.Exit renaming noGoto → bX
open Array renaming ext' → bY
namespace Go.Proofs.YtpmehagnedbkhaaGreatDoor
variable{F F' F0:Gs}{l:List (List UInt8×List UInt8)}{bb c i k n:Nat}{f:Nat->Rat×Rat}{va vb x:List (Rat×Rat)}{α ι:Type}{bs:List (Nat×Obj)}{b:Int}{T:TypeId}{w w0:World}{ra rb:Sr}{c1 c2 rest:List Value}{G G0:Gs->Prop}{a:Rat×Rat}{t:List UInt8×List UInt8}{fr t2:Rat}{d0:Df}{s:List UInt8}{tt:List (List (Rat×Rat))}{xs:List (Fr×Rat)}
open Go.RowKit Ig
abbrev Yr:Type:=Sp×Rat×Rat
variable{la lb:List Yr}
instance :Inhabited Sp:=⟨⟨⟨⟨0,none,0,0⟩,⟨0,none,0,0⟩⟩,⟨⟨0,none,0,0⟩,⟨0,none,0,0⟩⟩⟩⟩
def Xi(l:List Yr):List Value:=l.flatMap λe=>Xq e.1
structure J7(F:Gs)(r:Sr)(l:List Yr)(vs:List (Rat×Rat)):Prop where
 row:Qw F r.q r.n 8 (Xi l)
 sp:∀e∈l,Jj F e.1 e.2
 val:l.map (·.2)=vs
 len:l.length=r.n
 cap:r.n<=r.cap
theorem J7.le{r:Sr}{l:List Yr}{vs:List (Rat×Rat)}(h:J7 F r l vs)(k:Gs.le F F'):J7 F' r l vs:=⟨h.row.le k,λe he=>(h.sp e he).le k,h.val,h.len,h.cap⟩
theorem J7.YI{r:Sr}{l:List Yr}{vs:List (Rat×Rat)}(h:J7 F r l vs):vs.length=r.n:=by rw[<-h.val,af,h.len]
theorem J7.el{r:Sr}{l:List Yr}{vs:List (Rat×Rat)}(h:J7 F r l vs){i:Nat}(hi:i<r.n):(el l i).2=YtpmehagnedbkhaaGreatDoor.el vs i:=by
 have h2:=h.len;rw[<-h.val,Ja (show i<l.length by omega),Ja (by rw[af];omega),aM]
theorem J7.at{r:Sr}{l:List Yr}{vs:List (Rat×Rat)}(h:J7 F r l vs){i:Nat}(hi:i<r.n):Jj F (YtpmehagnedbkhaaGreatDoor.el l i).1 (YtpmehagnedbkhaaGreatDoor.el vs i):=by
 rw[<-h.el hi];exact h.sp _ (Q3 (by rw[h.len];exact hi))
abbrev We(P:Program)(f:FuncId)(args:List Value)(w:World)(F:Gs)(vs:List (Rat×Rat)):Prop:=QT P f args w F (λ(c:Sr×List Yr)=>c.1.v) λc F=>J7 F c.1 c.2 vs
theorem GK(l:List Yr):(Xi l).length=l.length*8:=D6 (f:=λe:Yr=>Xq e.1) (λ_=>rfl) l
theorem Ka(x:Sp):∀v∈Xq x,v.oneCell'=true:=kT x.lo x.hi
theorem MQ(l:List Yr)(e:Yr):Xi (l++[e])=Xi l++Xq e.1:=by unfold Xi;rw[aJ];simp
structure Wn(n:Nat)(f:Nat->Rat×Rat) where
 i:Nat
 v:Value
 ob:List (Nat×Obj)
 l:List Yr
 le:i<=n
 hr:Q7 192 8 v i (Xi l) ob
 hl:l.map (·.2)=(aF i).map f
def Wn.start(n:Nat)(f:Nat->Rat×Rat):Wn n f:=⟨0,.slice none 0 0,[],[],aq _,.nil,rfl⟩
def Wn.next{n:Nat}{f:Nat->Rat×Rat}(s:Wn n f)(h:s.i<n){v:Value}{ob:List (Nat×Obj)}(c:Sp)(x:Rat×Rat)(hr:Q7 192 8 v (s.i+1) (Xi s.l++Xq c) ob)(hx:x=f s.i):Wn n f :=
 ⟨s.i+1,v,ob,s.l++[(c,x)],h,by rw[MQ];exact hr,by rw[ao,aN,ao,s.hl,hx];rfl⟩
theorem Wn.len(s:Wn n f):s.l.length=s.i:=by
 have:=congrArg bm s.hl;simpa using this
def Z9(F:Gs)(l:List Yr):Prop:=∀e∈l,Jj F e.1 e.2
theorem Z9.nil(F:Gs):Z9 F []:=λ_ h=>by cases h
theorem Z9.snoc{l:List Yr}{c:Sp}{x:Rat×Rat}(h:Z9 F l)(k:Jj F c x):Z9 F (l++[(c,x)]):=λe he=>by
 rcases List.mem_append.1 he with he | he
 ·exact h e he
 rw[List.mem_singleton.1 he];exact k
theorem Wn.box(s:Wn n f)(h:s.i=n){F:Gs}{r:Sr}(hr:Qw F r.q r.n 8 (Xi s.l))(hn:r.n=s.i)(hc:s.i<=r.cap)(hs:Z9 F s.l):J7 F r s.l ((aF n).map f) :=
 ⟨hr,hs,by rw[s.hl,h],by rw[s.len,hn],by rw[hn];exact hc⟩
theorem EY{β:Type}[Inhabited α]{f:α->β}{l:List α}{n:Nat}(h:l.length=n):(aF n).map (λi=>f (el l i))=l.map f:=by
 apply bR
 ·simp[h]
 intro i h1 h2;have:i<l.length:=by simpa using h2
 simp[Ja this]
theorem CS{b:Nat}{o:Obj}(h:(b,o)∈bs):∃f,Own bs b o f:=by
 induction bs with
 |nil=>cases h
 |cons x l ih =>
  rcases List.mem_cons.1 h with rfl | h
  ·exact⟨_,.here⟩
  obtain⟨f,hf⟩:=ih h;exact⟨_,.there hf⟩
section
variable[Dr][df:Df]{P:Program}{Q:Exit->Act->World->Prop}{N:Nat}{m:Sl}{E E0:Env}{ops:Array Oper}{l:List Oper}{w0:World}{F0:Gs}{bs:List (Nat×Obj)}{G:Gs->Prop}{d:Nat}{ty:TypeId}{pos:String}{aft:Array Edge}
theorem vu{x:Operand}{v:Value}(hx:ev m x=some v)(hr:∀w,(Instr.makeInterface T v).run P w = .ok (.iface T v) w)(k:JD P ops Q E0 l N ((d,.iface T v)::m) E)(hd:J2 N (some d)=true:=by rfl):
  JD P ops Q E0 (⟨some d,.makeInterface T x,ty,pos,aft,none⟩::l) N m E:=λhE a w ha hw=>by
 refine .inr ⟨rfl,?_⟩;rw[if_pos (by simp[bS])];refine upon_value (w':=w) (v:=.iface T v) ?_ ⟨hE w hw,k hE _ w (ha.put hd _) hw⟩;simp[execOp,ha.ev hx,hr]
theorem vw{γ:Type}{val:γ->Value}{fact:γ->Gs->Prop}{f:FuncId}{x:Operand}{name:String}{args:Array Operand}{tys:Array TypeId}{v:Value}{vs:List Value}(hx:ev m x=some (.iface T v))(hv:MD m args.toList=some vs)
  (hi:∀w,(invoke (.fn (.method name) #[]) (#[.iface T v]++vs.toArray)).run P w = .ok (.enter f (v::vs).toArray) w) (hc:∀w F,Fits F w->G F->QT P f (v::vs) w F val fact)
  (k:∀c,JD P ops Q E0 l N ((d,val c)::m) ⟨w0,F0,bs,λF=>G F/\fact c F⟩) (hd:J2 N (some d)=true:=by rfl):JD P ops Q E0 (⟨some d,.call ⟨.invoke x name,args,tys⟩,ty,pos,aft,none⟩::l) N m ⟨w0,F0,bs,G⟩:=by
 intro hE a w ha hw;obtain⟨F,hF⟩:=hw;have hcg:=hc w F hF.fits hF.hG;refine .inr ⟨rfl,?_⟩;rw[if_pos (by simp[bS])];unfold Oper.wp;have e2:args.map a.eval=vs.toArray:=by rw[<-ha.MD hv];apply bY;simp
 have hrun:(execOp a.eval ⟨some d,.call ⟨.invoke x name,args,tys⟩,ty,pos,aft,none⟩).run P w = .ok (.enter f (v::vs).toArray) w:=by
  simp only[execOp,resolve,ha.ev hx,Sem.run_bind,Sem.run_pure,Result.andThen_ok,e2];exact hi w
 rw[hrun];simp only[Oper.upon];refine hcg.2.mono ?_;rintro e w' ⟨c,F',rfl,h1,h2,h3,h4,h5⟩;have hS:St ⟨w0,F0,bs,λF=>G F/\fact c F⟩ w':=⟨F',hF.call h1 h2 h3 h4 h5⟩;exact⟨hE w' (hS.DJ λ_ h=>h.1),k c (λw h=>hE w (h.DJ λ_ h=>h.1)) _ w' (ha.put hd (val c)) hS⟩
end
theorem BZ{q:Option Addr}{ss:List (List UInt8×List UInt8)}(hF:Fits F w)(hGl:JC F)(hR:Qw F q n 2 (ss.flatMap UH))(hn:ss.length=n)(hb:n<=1000000)(hc:∀s∈ss,Xc s.1 s.2=0/\s.1.length<=1000000/\s.2.length<=1000000):
  We prog 124 [.slice q n c] w F (ss.map JG):=by
 refine QT.intro (G:=λF=>JC F/\Qw F q n 2 (ss.flatMap UH)) func124 rfl wy rfl rfl hF (λF' hF'=>⟨hGl.le hF',hR.le hF'⟩)<|QKO<|wQ rfl<|QKO<|wQ rfl<|QG<|wR rfl<|QA (Qg rfl XW)<|QJD rfl<|QJC<|QV<|JW (ι:=Wn (n) λi=>JG (el ss i)) [(6,_),(7,_)] (λi=>[(3,i.v),(8,.int .i64 ((i.i:Nat):Int))]) (λi=>i.ob) (λi F=>Z9 F i.l) (λi=>(n)-i.i) (Wn.start _ _) wT wT QJZ (λ_ _=>Z9.nil _) λi=>?_
 simp only[aa,ae];have hi:=i.le;refine wA 6 I ?_;refine QO I (λhc2=>?_) λhc2=>?_
 ·have hlt:i.i<n:=wk<|QKc hc2
  have hem:=Q3 (show i.i<ss.length by omega);have hcl:=hc _ hem;have hck:=B6 hcl.1;refine QKr 6 I<|QA (Q6 (n:=n) i.i (λF h9=>h9.1.2) rfl rfl XW J1 O)<|QA (JX (n:=n) (vs:=[tx (el ss i.i).1,tx (el ss i.i).2]) ((i.i)*2) (λF h9=>h9.1.2) O rfl J1 I λj v hv=>Jc (f:=UH) (l:=ss) Gn O hv)<|Qc Xh λb5=>QR (vs:=[_,_]) I I I J1 I .here .h2 wT<|QKq 4 I<|QA (wH I J1 .here)<|QI I (λ_ _ f k=>Cr (lo:=(el ss i.i).1) (hi:=(el ss i.i).2) f k.1.1 hck.1 hck.2.1 hcl.2) λc14=>Qb I (Qz JM) Qi Ji I I λb15=>?_
  refine Ys (bs1:=[_]) (ob:=i.ob) (n:=i.i) (k:=1) (sz:=8) (news:=(Xq c14)) I I JM Qi Ji I Wd i.hr (Src.row (off:=0) tB (λj q hq=>by rw[aA];rw[ah];exact hq) rfl) O O (Ka _) (λv16 ob16 hr16=>?_);refine wB 2 I<|Qk<|QC<|QB<|QA (Qv I I O)<|wB 2 I ?_
  exact Ql (i.next hlt c14 (JG (el ss i.i)) hr16 rfl) (by show n-(i.i+1)<n-i.i;omega) wV (.cons _ QJZ) λF h9=>⟨h9.1.1.1,h9.1.1.2.snoc h9.1.2⟩
 have hge:i.i=n:=wk<|QKd hc2
 refine Q2 ?_
 repeat first|refine QY ?_|refine QP wy ?_
 refine QZ<|QKs 3 I ?_
 have hxl:=i.len;obtain⟨⟨rq,rn,rc⟩,hv2,hrn,hrc,hfix⟩:=Q7.fix (w0:=w) (F0:=F) (bs1:=[]) (G:=_) i.hr;dsimp only at hrn hrc hfix;subst hrn;refine YB hfix ?_;rw[hv2];dsimp only[Sr.v];refine QKq 5 I ?_;exact QQ ((⟨rq,i.i,rc⟩,i.l)) I (wN I) (rfl) λF h9=>by have:=i.box hge (r:=⟨rq,i.i,rc⟩) h9.2 I hrc h9.1.2;rw[EY O (f:=JG)]at this;exact this
structure TxJ(vs:List (Rat×Rat)) where
 i:Nat
 v:Value
 ob:List (Nat×Obj)
 le:i<=vs.length
 hr:Q7 56 2 v i ((vs.take i).flatMap λa=>[tx (Jh a.1),tx (Jh a.2)]) ob
 no:∀a∈vs.take i,(Jo a.1||Jo a.2)=false
theorem pW{vs:List (Rat×Rat)}(h:i<vs.length)(k:(Jo (el vs i).1||Jo (el vs i).2)=true):Jv vs=true:=by
 unfold Jv;rw[List.any_eq_true];exact⟨_,Q3 h,k⟩
theorem xI{vs:List (Rat×Rat)}(h:∀a∈vs,(Jo a.1||Jo a.2)=false):Jv vs=false:=by
 unfold Jv;cases e:vs.any λs=>Jo s.1||Jo s.2 with
 |false=>rfl
 |true =>
  obtain⟨a,ha,k⟩:=List.any_eq_true.1 e;rw[h a ha]at k;cases k
def QA9(a:Rat×Rat):List Value:=[tx (Jh a.1),tx (Jh a.2)]
theorem BY{r:Sr}{l:List Yr}{vs:List (Rat×Rat)}(hF:Fits F w)(hGl:JC F)(hB:J7 F r l vs)(hb:r.n<=1000000)(hz:∀a∈vs,Xb a 100000000):
  QT prog 125 [r.v] w F (λ(c:Sr)=>.tuple #[c.v,.int .i64 (if Jv vs=true then 4 else 0)]) (λc F=>Qw F c.q c.n 2 ((if Jv vs=true then[]else vs).flatMap QA9)/\c.n=(if Jv vs=true then[]else vs).length/\c.n<=c.cap):=by
 obtain⟨q,n,c⟩:=r;have hvl:=hB.YI;have hll:=hB.len;have hcap:=hB.cap;have hel:=λi hi=>hB.el (i:=i) hi;dsimp only[Sr.v]at *
 refine QT.intro (G:=λF=>JC F/\J7 F ⟨q,n,c⟩ l vs) func125 rfl wy rfl rfl hF (λF' hF'=>⟨hGl.le hF',hB.le hF'⟩)<|QKO<|QJE rfl<|wQ rfl<|QKO<|wQ rfl<|QG<|wR rfl<|QA (Qg rfl JM)<|QJD rfl<|QJC<|QV<|JW (ι:=TxJ vs) [(7,_),(8,_)] (λi=>[(4,i.v),(9,.int .i64 ((i.i:Nat):Int))]) (λi=>i.ob) (λi F=>True) (λi=>n-i.i) (⟨0,_,[],aq _,.nil,λ_ h=>by cases h⟩) wT wT QJZ w8 λi=>?_
 simp only[aa,ae];have hi:=i.le;refine wA 6 I ?_;refine QO I (λhc2=>?_) λhc2=>?_
 ·have hlt:i.i<n:=wk<|QKc hc2
  have hem:=Q3 (show i.i<vs.length by omega);have hze:=hz _ hem;refine QKr 6 I<|QA (Q6 (n:=n) i.i (λF h9=>h9.1.2.row) rfl rfl JM Qi O)<|QA (JX (n:=n) (vs:=[.int .i64 (el l i.i).1.lo.n.s,.slice (el l i.i).1.lo.n.q (el l i.i).1.lo.n.n (el l i.i).1.lo.n.cap,.int .i64 (el l i.i).1.lo.d.s,.slice (el l i.i).1.lo.d.q (el l i.i).1.lo.d.n (el l i.i).1.lo.d.cap,.int .i64 (el l i.i).1.hi.n.s,.slice (el l i.i).1.hi.n.q (el l i.i).1.hi.n.n (el l i.i).1.hi.n.cap,.int .i64 (el l i.i).1.hi.d.s,.slice (el l i.i).1.hi.d.q (el l i.i).1.hi.d.n (el l i.i).1.hi.d.cap]) ((i.i)*8) (λF h9=>h9.1.2.row) O rfl Qi I λj v hv=>Jc (f:=(λe=>Xq e.1)) (l:=l) (λ_=>rfl) O hv)<|Qc Ji λb6=>QR (vs:=[_,_,_,_,_,_,_,_]) I I I Qi I .here .h8 wZ<|QKq 5 I<|QA (wK I Qi .here)<|QI I (λ_ _ f k=>IP (x:=(el l i.i).1) (a:=el vs i.i) f k.1.1 (k.1.2.at hlt) hze) λ_=>QE<|QC ?_
  refine QO I (λhc2=>?_) λhc2=>?_
  ·have hl:=pW (show i.i<vs.length by omega) hc2;refine wA 7 I ?_
   repeat first|refine Q4 ?_|refine Qy ?_
   exact JY (⟨none,0,0⟩) I (wO I I) (by rw[if_pos hl]) λF _=>by rw[if_pos hl];exact⟨Qw.nil F _ _,rfl,aE _⟩
  have hc14:=hc2;refine QKr 4 I<|QA (wK I Qi .here)<|QI I (λ_ _ f k=>ub (x:=(el l i.i).1) (a:=el vs i.i) f k.1.1.1 (k.1.1.2.at hlt) hze) λ_=>Qb I (Qz XW) J1 Xh I I λb18=>?_
  refine Ys (bs1:=[_]) (ob:=i.ob) (n:=i.i) (k:=1) (sz:=2) (news:=[tx (Jh (el vs i.i).1),tx (Jh (el vs i.i).2)]) I I XW J1 Xh I QDK i.hr (Src.row (off:=0) tB (λj q hq=>by rw[aA];rw[ah];exact hq) rfl) O O (Kh wT) (λv19 ob19 hr19=>?_);refine wB 2 I<|Qk<|QC<|QB<|QA (Qv I I O)<|wB 2 I ?_
  exact Ql (⟨i.i+1,v19,ob19,O,by rw[XV O,aJ];simpa using hr19,λa ha=>by
  rw[XV O]at ha;rcases List.mem_append.1 ha with ha | ha
  ·exact i.no a ha
  rw[List.mem_singleton.1 ha];exact hc14⟩) (by show n-(i.i+1)<n-i.i;omega) wV (.cons _ QJZ) λF h=>⟨h.1.1.1.1,trivial⟩
 have hge:i.i=n:=wk<|QKd hc2
 refine Q2 ?_
 repeat first|refine QY ?_|refine QP wy ?_
 refine QZ<|QKs 3 I ?_
 have hno:Jv vs=false:=xI λa ha=>i.no a (by rw[hge,<-hvl,aQ];exact ha);obtain⟨⟨rq,rn,rc⟩,hv2,hrn,hrc,hfix⟩:=Q7.fix (w0:=w) (F0:=F) (bs1:=[]) (G:=_) i.hr;dsimp only at hrn hrc hfix;subst hrn;refine YB hfix ?_;rw[hv2];dsimp only[Sr.v];refine QKq 6 I ?_;exact JY (⟨rq,i.i,rc⟩) I (wO I I) (by rw[if_neg (by rw[hno];decide)]) λF ⟨⟨⟨hGl,hB⟩,_⟩,hrow⟩=>by rw[if_neg (by rw[hno];decide)];rw[hge,<-hvl,aQ]at hrow;exact⟨by dsimp only;rw[hge,<-hvl];exact hrow,hge.trans hvl.symm,hrc⟩
theorem Fk{f:Rat×Rat->Rat×Rat}{v:List (Rat×Rat)}:DZ (λa _=>f a) v v=v.map f:=by
 unfold DZ;exact EY I
theorem Tj(hF:Fits F w)(ha:J7 F ra la va)(hb:J7 F rb lb vb)(hn:ra.n<=rb.n)(hbn:ra.n<=1000000)(hza:∀x∈va,Xb x 100000000)(hzb:∀x∈vb,Xb x 100000000):
  Qe prog 186 [ra.v,rb.v] w F (.bool (T8 va vb)):=by
 obtain⟨qa,na,ca⟩:=ra;have hvla:=ha.YI;have hlla:=ha.len;have hcapa:=ha.cap;have hela:=λi hi=>ha.el (i:=i) hi;obtain⟨qb,nb,cb⟩:=rb;have hvlb:=hb.YI;have hllb:=hb.len;have hcapb:=hb.cap;have helb:=λi hi=>hb.el (i:=i) hi;dsimp only[Sr.v]at *
 refine QT.intro (G:=λF=>J7 F ⟨qa,na,ca⟩ la va/\J7 F ⟨qb,nb,cb⟩ lb vb) func186 rfl wy rfl rfl hF (λF' hF'=>⟨ha.le hF',hb.le hF'⟩)<|QKO<|wQ rfl<|QG<|wR rfl<|QA (Qg rfl JM)<|QJD rfl<|QJC<|QV<|XM (ι:=Bj (aF va.length) λi=>OL (el va i) (el vb i)) [(0,_),(1,_),(7,_)] (λi=>[(8,.int .i64 ((i.i:Nat):Int))]) (λi=>na-i.i) (Bj.start _ _) wU wS λi=>?_
 simp only[aa,ae];have hi:=i.le;rw[av]at hi;refine wA 6 I ?_;refine QO I (λhc2=>?_) λhc2=>?_
 ·have hlt:i.i<na:=wk<|QKc hc2
  have hma:=Q3 (show i.i<va.length by omega);have hmb:=Q3 (show i.i<vb.length by omega);have hel:el (aF va.length) i.i=i.i:=by rw[Ja (by rw[av];omega)];simp
  refine QKr 11 I<|JK QJZ mixed wm<|QK (QD I)<|QK (QD I)<|QK (Q6 (n:=na) i.i (λF h9=>h9.1.row) rfl rfl JM Qi O)<|QK (JX (n:=na) (vs:=[.int .i64 (el la i.i).1.lo.n.s,.slice (el la i.i).1.lo.n.q (el la i.i).1.lo.n.n (el la i.i).1.lo.n.cap,.int .i64 (el la i.i).1.lo.d.s,.slice (el la i.i).1.lo.d.q (el la i.i).1.lo.d.n (el la i.i).1.lo.d.cap,.int .i64 (el la i.i).1.hi.n.s,.slice (el la i.i).1.hi.n.q (el la i.i).1.hi.n.n (el la i.i).1.hi.n.cap,.int .i64 (el la i.i).1.hi.d.s,.slice (el la i.i).1.hi.d.q (el la i.i).1.hi.d.n (el la i.i).1.hi.d.cap]) ((i.i)*8) (λF h9=>h9.1.row) O rfl Qi I λj v hv=>Jc (f:=(λe=>Xq e.1)) (l:=la) (λ_=>rfl) O hv)<|QK (QD I)<|QK (QD I)<|QK (Q6 (n:=nb) i.i (λF h9=>h9.2.row) rfl rfl JM Qi O)<|QK (JX (n:=nb) (vs:=[.int .i64 (el lb i.i).1.lo.n.s,.slice (el lb i.i).1.lo.n.q (el lb i.i).1.lo.n.n (el lb i.i).1.lo.n.cap,.int .i64 (el lb i.i).1.lo.d.s,.slice (el lb i.i).1.lo.d.q (el lb i.i).1.lo.d.n (el lb i.i).1.lo.d.cap,.int .i64 (el lb i.i).1.hi.n.s,.slice (el lb i.i).1.hi.n.q (el lb i.i).1.hi.n.n (el lb i.i).1.hi.n.cap,.int .i64 (el lb i.i).1.hi.d.s,.slice (el lb i.i).1.hi.d.q (el lb i.i).1.hi.d.n (el lb i.i).1.hi.d.cap]) ((i.i)*8) (λF h9=>h9.2.row) O rfl Qi I λj v hv=>Jc (f:=(λe=>Xq e.1)) (l:=lb) (λ_=>rfl) O hv)<|QM I (λ_ _ f k=>jJ (x:=(el la i.i).1) (y:=(el lb i.i).1) (a:=el va i.i) (b:=el vb i.i) f (k.1.at hlt) (k.2.at (show i.i<nb by omega)) (hza _ hma) (hzb _ hmb)) λ_=>QK (XJ I)<|Q5<|QC ?_
  refine QO I (λhc2=>?_) λhc2=>?_
  ·have hc20:=hc2;refine wA 6 I ?_
   repeat first|refine Q4 ?_|refine Qy ?_
   exact QKx I I (congrArg ax (by unfold T8;rw[i.hit (by rw[av];omega) (by rw[hel];simpa using hc20)])) w8
  have hc20:=hc2;refine QN<|Qk<|QC<|QB<|QA (Qv I I O)<|wB 2 I ?_
  exact Ql (i.next (by rw[av];omega) (by rw[hel];simpa using hc20)) (by show na-(i.i+1)<na-i.i;omega) wV QJZ tA
 have hge:i.i=na:=wk<|QKd hc2
 refine Q2 ?_
 repeat first|refine QY ?_|refine QP wy ?_
 refine QZ<|QKs 7 I ?_
 exact QKx I I (congrArg ax (by unfold T8;rw[i.stop (by rw[av];omega)])) w8
theorem EX{f:Nat}{g:Rat×Rat->Rat×Rat->Rat×Rat}(hF:Fits F w)(hg:∀F F',Gs.le F F'->G0 F->G0 F')(h0:G0 F)(ha:J7 F ra la va)(hb:J7 F rb lb vb)(hn:ra.n<=rb.n)(hbn:ra.n<=1000000)
  (hc:∀i,i<ra.n->∀(x y:Sp) w F,Fits F w->G0 F->Jj F x (el va i)->Jj F y (el vb i)->Xn prog f (c1++[x.v,y.v]++c2) w F (g (el va i) (el vb i))) :
  We prog 264 [ra.v,rb.v,.func (.func f) c1.toArray c2.toArray] w F (DZ g va vb):=by
 obtain⟨qa,na,ca⟩:=ra;have hvla:=ha.YI;have hlla:=ha.len;have hcapa:=ha.cap;have hela:=λi hi=>ha.el (i:=i) hi;obtain⟨qb,nb,cb⟩:=rb;have hvlb:=hb.YI;have hllb:=hb.len;have hcapb:=hb.cap;have helb:=λi hi=>hb.el (i:=i) hi;dsimp only[Sr.v]at *
 refine QT.intro (G:=λF=>G0 F/\J7 F ⟨qa,na,ca⟩ la va/\J7 F ⟨qb,nb,cb⟩ lb vb) func264 rfl wy rfl rfl hF (λF' hF'=>⟨hg F F' hF' h0,ha.le hF',hb.le hF'⟩)<|QKO<|wQ rfl<|QKO<|wQ rfl<|QG<|wR rfl<|QA (Qg rfl JM)<|QJD rfl<|QJC<|QV<|JW (ι:=Wn (na) λi=>g (el va i) (el vb i)) [(0,_),(1,_),(2,_),(10,_)] (λi=>[(7,i.v),(11,.int .i64 ((i.i:Nat):Int))]) (λi=>i.ob) (λi F=>Z9 F i.l) (λi=>(na)-i.i) (Wn.start _ _) wV wT QJZ (λ_ _=>Z9.nil _) λi=>?_
 simp only[aa,ae];have hi:=i.le;refine wA 6 I ?_;refine QO I (λhc2=>?_) λhc2=>?_
 ·have hlt:i.i<na:=wk<|QKc hc2
  refine QKr 10 I<|JK tD mixed wm<|QK (QD I)<|QK (QD I)<|QK (QD I)<|QK (QD I)<|QK (Q6 (n:=na) i.i (λF h9=>h9.1.2.1.row) rfl rfl JM Qi O)<|QK (JX (n:=na) (vs:=[.int .i64 (el la i.i).1.lo.n.s,.slice (el la i.i).1.lo.n.q (el la i.i).1.lo.n.n (el la i.i).1.lo.n.cap,.int .i64 (el la i.i).1.lo.d.s,.slice (el la i.i).1.lo.d.q (el la i.i).1.lo.d.n (el la i.i).1.lo.d.cap,.int .i64 (el la i.i).1.hi.n.s,.slice (el la i.i).1.hi.n.q (el la i.i).1.hi.n.n (el la i.i).1.hi.n.cap,.int .i64 (el la i.i).1.hi.d.s,.slice (el la i.i).1.hi.d.q (el la i.i).1.hi.d.n (el la i.i).1.hi.d.cap]) ((i.i)*8) (λF h9=>h9.1.2.1.row) O rfl Qi I λj v hv=>Jc (f:=(λe=>Xq e.1)) (l:=la) (λ_=>rfl) O hv)<|QK (QD I)<|QK (QD I)<|QK (Q6 (n:=nb) i.i (λF h9=>h9.1.2.2.row) rfl rfl JM Qi O)<|QK (JX (n:=nb) (vs:=[.int .i64 (el lb i.i).1.lo.n.s,.slice (el lb i.i).1.lo.n.q (el lb i.i).1.lo.n.n (el lb i.i).1.lo.n.cap,.int .i64 (el lb i.i).1.lo.d.s,.slice (el lb i.i).1.lo.d.q (el lb i.i).1.lo.d.n (el lb i.i).1.lo.d.cap,.int .i64 (el lb i.i).1.hi.n.s,.slice (el lb i.i).1.hi.n.q (el lb i.i).1.hi.n.n (el lb i.i).1.hi.n.cap,.int .i64 (el lb i.i).1.hi.d.s,.slice (el lb i.i).1.hi.d.q (el lb i.i).1.hi.d.n (el lb i.i).1.hi.d.cap]) ((i.i)*8) (λF h9=>h9.1.2.2.row) O rfl Qi I λj v hv=>Jc (f:=(λe=>Xq e.1)) (l:=lb) (λ_=>rfl) O hv)<|Iz (c1:=c1) (c2:=c2) rfl rfl (λw F f k=>hc i.i hlt (el la i.i).1 (el lb i.i).1 w F f k.1.1 (k.1.2.1.at hlt) (k.1.2.2.at (show i.i<nb by omega))) λc24=>?_
  refine Qo I (Qz JM) Qi Ji I I (λb25=>?_) (λw h=>h.imp tD tA);rw[<-aL i.ob];refine Yt (n:=i.i) (k:=1) (sz:=8) (news:=Xq c24) rfl rfl JM Qi Ji I Wd i.hr (Src.row (off:=0) tB (λj q hq=>by rw[aA];rw[ah];exact hq) rfl) O O (Ka _) QJZ (λ_ h=>h.1.1) (λv26 ob26 hr26=>?_);rw[aL];refine QK (QF I)<|Q5<|Qk<|QC<|QB<|QA (Qv I I O)<|wB 2 I ?_
  exact Ql (i.next hlt c24 (g (el va i.i) (el vb i.i)) hr26 rfl) (by show na-(i.i+1)<na-i.i;omega) wX QJZ λF h9=>⟨h9.1.1.1,h9.1.1.2.snoc h9.1.2⟩
 have hge:i.i=na:=wk<|QKd hc2
 refine Q2 ?_
 repeat first|refine QY ?_|refine QP wy ?_
 refine QZ<|QKs 3 I ?_
 have hxl:=i.len;obtain⟨⟨rq,rn,rc⟩,hv2,hrn,hrc,hfix⟩:=Q7.fix (w0:=w) (F0:=F) (bs1:=[]) (G:=_) i.hr;dsimp only at hrn hrc hfix;subst hrn;refine YB hfix ?_;rw[hv2];dsimp only[Sr.v];refine QKq 5 I ?_;exact QQ ((⟨rq,i.i,rc⟩,i.l)) I (wN I) (rfl) λF h9=>by have:=i.box hge (r:=⟨rq,i.i,rc⟩) h9.2 I hrc h9.1.2;unfold DZ;rw[hvla];exact this
theorem QBR{x y:Sp}(hF:Fits F w)(h:Jj F x a)(hB:F bb=some (#[.int .i64 b],3))(hb:0<=b/\b<=64)(hz:Xb a 10000000):Xn prog 289 [x.v,y.v,.pointer (some ⟨bb,0,none⟩)] w F (Xe a b):=by
 refine QT.intro (G:=λF=>Jj F x a/\F bb=some (#[.int .i64 b],3)) func289 rfl wy rfl rfl hF (λF' hF'=>⟨h.le hF',hF' _ _ hB⟩)<|QKO<|Qu rfl (vs:=[_,_,_,_,_,_,_,_]) rfl λb3=>Qu rfl (vs:=[_,_,_,_,_,_,_,_]) rfl λb4=>Qc Ji λb5=>QJC<|QKO<|QA (wK I Qi .u2)<|QA (Zq (c:=#[.int .i64 b]) (T':=3) rfl JO tB rfl)<|QI rfl (λ_ _ f k=>G3 (x:=x) (a:=a) (b:=b) f k.1 hb hz) λc8=>QR (vs:=[_,_,_,_,_,_,_,_]) rfl rfl rfl Qi rfl .here .h8 wZ<|QJC<|QW ?_
 exact QQ (c8) rfl (.JZ (c:=[_,_,_,_,_,_,_,_]) I Qi .here .nil) (rfl) tB
theorem QBF{x y:Sp}(hF:Fits F w)(h:Jj F x a)(hB:F bb=some (#[.int .i64 b],3))(hb:0<=b/\b<=64)(hz:Xb a 10000000):Xn prog 271 [x.v,y.v,.pointer (some ⟨bb,0,none⟩)] w F (Xe a b):=by
 refine QT.intro (G:=λF=>Jj F x a/\F bb=some (#[.int .i64 b],3)) func271 rfl wy rfl rfl hF (λF' hF'=>⟨h.le hF',hF' _ _ hB⟩)<|QKO<|Qu rfl (vs:=[_,_,_,_,_,_,_,_]) rfl λb3=>Qu rfl (vs:=[_,_,_,_,_,_,_,_]) rfl λb4=>Qc Ji λb5=>QJC<|QKO<|QA (wK I Qi .u2)<|QA (Zq (c:=#[.int .i64 b]) (T':=3) rfl JO tB rfl)<|QI rfl (λ_ _ f k=>G3 (x:=x) (a:=a) (b:=b) f k.1 hb hz) λc8=>QR (vs:=[_,_,_,_,_,_,_,_]) rfl rfl rfl Qi rfl .here .h8 wZ<|QJC<|QW ?_
 exact QQ (c8) rfl (.JZ (c:=[_,_,_,_,_,_,_,_]) I Qi .here .nil) (rfl) tB
theorem QBH{x y:Sp}{c:Rat×Rat}(hF:Fits F w)(h:Jj F x a)(h':Jj F y c)(hB:F bb=some (#[.int .i64 b],3))(hb:0<=b/\b<=64)(hz:Xb a 10000000)(hz2:Xb c 10000000):Xn prog 265 [x.v,y.v,.pointer (some ⟨bb,0,none⟩)] w F (Xe (Jq a c) b):=by
 have hzz:Xb (Jq a c) 10000000:=⟨P9 hz.1 hz2.1,RA hz.2 hz2.2⟩;refine QT.intro (G:=λF=>Jj F x a/\Jj F y c/\F bb=some (#[.int .i64 b],3)) func265 rfl wy rfl rfl hF (λF' hF'=>⟨h.le hF',h'.le hF',hF' _ _ hB⟩)<|QKO<|Qu rfl (vs:=[_,_,_,_,_,_,_,_]) rfl λb3=>Qu rfl (vs:=[_,_,_,_,_,_,_,_]) rfl λb4=>Qc Ji λb5=>QJC<|QG<|JK (.cons _ tC) mixed wm<|QK (wK I Qi .u1)<|QK (wK I Qi .here)<|QM rfl (λ_ _ f k=>Ct (x:=x) (y:=y) (a:=a) (b:=c) f k.1 k.2.1 (hz.mono wu) (hz2.mono wu)) λc8=>QK (Zq (c:=#[.int .i64 b]) (T':=3) rfl JO (λF h9=>h9.2.2) rfl)<|QM rfl (λ_ _ f k=>G3 (x:=c8) (a:=Jq a c) (b:=b) f k.2 hb hzz) λc10=>JU (vs:=[_,_,_,_,_,_,_,_]) rfl rfl rfl Qi rfl .here tC (λ_ h=>h.1.1) .h8 wZ<|Q5<|QC<|QW ?_
 exact QQ (c10) rfl (.JZ (c:=[_,_,_,_,_,_,_,_]) I Qi .here .nil) (rfl) tB
theorem QBG{x y:Sp}{gr:Fr}{c:Rat×Rat}{b:Int}{bg:Nat}(hF:Fits F w)(h:Jj F x a)(h':Jj F y c)(hG:F bg=some ((KV gr).toArray,95))(hGr:JP F gr (((two b:Int):Rat))⁻¹)(hB:F bb=some (#[.int .i64 b],3))(hb:0<=b/\b<=64)(hz:Xb a 2000000)(hz2:Xb c 2000000):Xn prog 268 [x.v,y.v,.pointer (some ⟨bg,0,none⟩),.pointer (some ⟨bb,0,none⟩)] w F (Vb b a c):=by
 have hzz:Xb (Jq a c) 2000000:=⟨P9 hz.1 hz2.1,RA hz.2 hz2.2⟩;have z1:=hzz.1;have z2:=hzz.2;have s1:=Bm (Jq a c).2 (Jq a c).1;have s2:=Xp ((Jq a c).2-(Jq a c).1) (ay 1 4);have s3:JQ (ay 1 4)<=4:=wu;have s4:JQ (((two b:Int):Rat))⁻¹<=200:=by
  have h0:((two b:Int):Rat).num≠0:=UE b;refine aW (Mv h0) ?_;rw[<-Bl];have h1:=Wt (((2:Int):Rat)) b.toNat;have h2:JQ (((2:Int):Rat))<=2:=wu;have h3:b.toNat*JQ (((2:Int):Rat))<=64*2:=aV O h2;omega
 have s5:=YC (((Jq a c).2-(Jq a c).1)*ay 1 4) (((two b:Int):Rat))⁻¹;have s6:=Bm (Jq a c).1 (((Jq a c).2-(Jq a c).1)*ay 1 4+(((two b:Int):Rat))⁻¹);have s7:=YC (Jq a c).2 (((Jq a c).2-(Jq a c).1)*ay 1 4+(((two b:Int):Rat))⁻¹);refine QT.intro (G:=λF=>Jj F x a/\Jj F y c/\F bg=some ((KV gr).toArray,95)/\JP F gr (((two b:Int):Rat))⁻¹/\F bb=some (#[.int .i64 b],3)) func268 rfl wy rfl rfl hF (λF' hF'=>⟨h.le hF',h'.le hF',hF' _ _ hG,hGr.le hF',hF' _ _ hB⟩)<|QKO<|Qu rfl (vs:=[_,_,_,_,_,_,_,_]) rfl λb4=>Qu rfl (vs:=[_,_,_,_,_,_,_,_]) rfl λb5=>Qc Ji λb6=>QJC<|QKO<|QA (wK I Qi .u2)<|QA (wK I Qi .u1)<|QI rfl (λ_ _ f k=>Ct (x:=x) (y:=y) (a:=a) (b:=c) f k.1 k.2.1 (hz.mono wu) (hz2.mono wu)) λc11=>Qc Ji λb7=>QR (vs:=[_,_,_,_,_,_,_,_]) rfl rfl rfl Qi rfl .here .h8 wZ<|QJC<|QG<|KR (r:=[0,1,2,3,4,5,6,7,8,9,10,11,12]) tC mixed wm rfl<|Jk 0 wm rfl rfl<|QK (QH rfl Xr Qa)<|Q9<|Jk 1 wm rfl rfl<|QK (wL I Qa .here)<|Q9 ?_
 refine Jk 2 wm rfl rfl<|QK (QH I Xs Qa)<|Q9<|Jk 3 wm rfl rfl<|QK (wJ I Qa .here)<|Q9<|Jk 9 wm rfl rfl ?_
 refine QK (FQ (c:=(KV gr).toArray) (T':=95) (vs:=KV gr) rfl Qa (λF h9=>h9.1.2.2.1) rfl λj v hv=>by rw[aA];rw[ah];exact hv) ?_;refine Q9<|Kr (A:=[11]) (r:=[4,5,6,7,8,10,12]) wm<|XH 4 wm wm wy tC w9 rfl rfl rfl (λ_=>rfl) (λ_ _ f k=>Uv (x:=c11.hi) (y:=c11.lo) (r:=(Jq a c).2) (s:=(Jq a c).1) f k.2.2 k.2.1 O O) λc16=>XH 5 wm wm wy tC tA rfl rfl rfl (λ_=>rfl) (λ_ _ f k=>FZ (n:=1) f wu wu) λc17=>XH 6 wm wm wy tC (λ_ h=>h.1.1) rfl rfl rfl (λ_=>rfl) (λ_ _ f k=>FZ (n:=4) f wu wu) λc18=>XH 7 wm wm wy tC (λ_ h=>h.1.1.1) rfl rfl rfl (λ_=>rfl) (λ_ _ f k=>Ui (a:=1) (b:=4) f k.1.2 k.2 wu wu wu) λc19=>XH 8 wm wm wy tC (λ_ h=>h.1.1.1.1) rfl rfl rfl (λ_=>rfl) (λ_ _ f k=>Wl (x:=c16) (y:=c19) (r:=((Jq a c).2-(Jq a c).1)) (s:=ay 1 4) f k.1.1.1.2 k.2 O O) λc20=>XH 10 wm wm wy tC (λ_ h=>h.1.1.1.1.1) rfl rfl rfl (λ_=>rfl) (λ_ _ f k=>Dz (x:=c20) (y:=gr) (r:=((Jq a c).2-(Jq a c).1)*ay 1 4) (s:=(((two b:Int):Rat))⁻¹) f k.2 k.1.1.1.1.1.1.2.2.2.1 O O) λc22=>K1 11 (d:=8) (T:=95) wm wm wy tC (λ_ h=>h.1.1.1.1.1.1) wm wm XZ λb8=>Zl (vs:=[_,_,_,_]) 12 wm wm wy (.cons _ tC) (λ_ h=>h.1.1.1.1.1.1) rfl rfl (λ_=>rfl) (λ_=>rfl) rfl Qa I .here tC .h4 wV ?_
 refine Vd ?_ wm;refine QC<|QG<|JK (.cons_cons _ (.cons_cons _ (.cons _ tC))) mixed wm<|QK (QH I Xs Qa)<|QK (wJ I Qa .u1)<|QK (wJ I Qa .here)<|QM I (λ_ _ f k=>Uv (x:=c11.lo) (y:=c22) (r:=(Jq a c).1) (s:=(((Jq a c).2-(Jq a c).1)*ay 1 4+(((two b:Int):Rat))⁻¹)) f k.1.1.1.1.1.1.2.1 k.2 O O) λc26=>QK (QH I Xr Qa)<|QK (wL I Qa .u1)<|QK (wJ I Qa .here)<|QM I (λ_ _ f k=>Dz (x:=c11.hi) (y:=c22) (r:=(Jq a c).2) (s:=(((Jq a c).2-(Jq a c).1)*ay 1 4+(((two b:Int):Rat))⁻¹)) f k.1.1.1.1.1.1.1.2.2 k.1.2 O O) λc30=>QK (Qx I Z4 Ji (.cons (vs:=[_,_,_,_]) I I I .h4 (.cons (vs:=[_,_,_,_]) I I I (.skip (.skip (.skip (.skip .h4)))) .nil)))<|QK (Zq (c:=#[.int .i64 b]) (T':=3) rfl JO (λF h9=>h9.1.1.1.1.1.1.1.2.2.2.2) rfl)<|QM I (λ_ _ f k=>G3 (x:=⟨c26,c30⟩) (a:=((Jq a c).1-(((Jq a c).2-(Jq a c).1)*ay 1 4+(((two b:Int):Rat))⁻¹),(Jq a c).2+(((Jq a c).2-(Jq a c).1)*ay 1 4+(((two b:Int):Rat))⁻¹))) (b:=b) f ⟨k.1.2,k.2⟩ hb ⟨by show JQ ((Jq a c).1-(((Jq a c).2-(Jq a c).1)*ay 1 4+(((two b:Int):Rat))⁻¹))<=_;omega,by show JQ ((Jq a c).2+(((Jq a c).2-(Jq a c).1)*ay 1 4+(((two b:Int):Rat))⁻¹))<=_;omega⟩) λc33=>JU (vs:=[_,_,_,_,_,_,_,_]) I I I Qi I .u2 tC (λ_ h=>h.1.1.1) .h8 wZ<|Q5<|QC<|QW ?_
 exact QQ (c33) rfl (.JZ (c:=[_,_,_,_,_,_,_,_]) I Qi .u2 .nil) (rfl) tB
theorem qc(hF:Fits F w)(ha:J7 F ra la va)(hb:0<=b/\b<=64)(hbn:ra.n<=1000000)(hz:∀x∈va,Xb x 10000000):We prog 216 [ra.v,.int .i64 b] w F (va.map λa=>Xe a b):=by
 have hvl:=ha.YI;dsimp only[Sr.v];refine QT.intro (G:=λF=>J7 F ra la va) func216 rfl wy rfl rfl hF (λF' hF'=>ha.le hF')<|QKO<|Qu rfl (vs:=[_]) rfl λb3=>wQ rfl<|wR rfl<|QJD rfl<|Ku (b:=b3) .here<|QA (VC rfl)<|QI rfl (λw F hF ⟨hA,hB⟩=>EX (f:=289) (c1:=[]) (c2:=[.pointer (some ⟨b3,0,none⟩)]) (g:=λa _=>Xe a b) (G0:=λF=>F b3=some (#[.int .i64 b],3)) hF (λF F' hle h=>hle _ _ h) hB hA hA (aE _) hbn λi hi x y w F hF hG hx hy=>QBR hF hx hG hb (hz _ (Q3 O))) λc8=>wQ rfl<|QW ?_
 exact QQ (c8) rfl (wN I) (rfl) λF h9=>by have h:=h9.2;rw[Fk]at h;exact h
section
variable[Dr][df:Df]{P:Program}{Q:Exit->Act->World->Prop}{N:Nat}{m:Sl}{E E0:Env}{ops:Array Oper}{l:List Oper}{w0:World}{F0:Gs}{bs:List (Nat×Obj)}{G:Gs->Prop}{d:Nat}{ty:TypeId}{pos:String}{aft:Array Edge}{Y:World->Prop}
theorem CO{e:TypeId}{x:Operand}{q:Option Addr}(hx:ev m x=some (.slice q n c))(hT:Hc P T=some e):Qt P N m Y (.call ⟨.builtin .cap,#[x],#[T]⟩) ty (.int .i64 c):=λa w _ _ _ _ ha _=>by
 rw[YH];simp[builtin,Builtin.cap_,ha.ev hx,run_underlying (Qz hT),goInt]
theorem cI{t tn e:TypeId}{kn:IntKind}{sz bytes n:Nat}{z:List Value}{g:Bool}{X X2:Operand}(hx:ev m X=some (.slice none 0 0))(hy:ev m X2=some (.int .i64 (n:Int)))(ht:Hc P t=some e)(htn:N1 P tn=some kn)(hs:Z1 P e=some (g,sz))(hz:J8 P e=some z)(hzl:z.length=sz)(hby:ZM P e=some bytes)(h0:0<n)(hs0:0<sz)(h63:n<=1000000000)(h47:n*bytes<=140737488355328)
  (kk:∀(b cap:Nat) (rest:List Value),n<=cap->rest.length=cap*sz->cap<=maxLen->JS P ops Q l N ((d,.slice (some ⟨b,0,none⟩) n cap)::m) ⟨w0,F0,(b,.cells rest.toArray e (0,0))::bs,G⟩) (hu:Gc e=true:=by rfl) (hd:J2 N (some d)=true:=by rfl) :
  JS P ops Q (⟨some d,.call ⟨.builtin .append,#[X,X2],#[t,tn]⟩,ty,pos,aft,none⟩::l) N m ⟨w0,F0,bs,G⟩:=λa w ha hw =>
 wpList_plain rfl λK hK=>by
  have hi:∃i,P.info? e=some i/\i.size=sz/\i.bytes=bytes/\∃zv,i.zero=some zv/\zv.cells.toList=z:=by
   unfold Z1 at hs;unfold J8 at hz;unfold ZM at hby;cases h:P.info? e with
   |none=>rw[h]at hz;cases hz
   |some i =>
    rw[h]at hs hz hby;dsimp only at hz hs;simp only[bC,bH]at hby;refine⟨i,rfl,?_,hby,?_⟩
    ·split at hs
     ·rename_i h1 h2;cases h2;cases hs;rfl
     cases hs
    cases hzz:i.zero with
    |none=>rw[hzz]at hz;cases hz
    |some zv=>rw[hzz]at hz;simp only[bC,bH]at hz;exact⟨zv,rfl,hz⟩
  obtain⟨i,hi1,hi2,hi3,zv,hi4,hi5⟩:=hi;subst hi2 hi3;have hkn:P.underlying tn=some (.int kn):=by
   unfold N1 at htn;cases h:P.underlying tn with
   |none=>rw[h]at htn;cases htn
   |some u=>rw[h]at htn;cases u<;>simp at htn;rw[htn]
  have hzc:∀q,(aI zv.cells q).toList.length=q*i.size:=λq=>by
   have:=hzl;rw[<-hi5]at this;simp[aI]at this ⊢;rw[this]
  have hrun:=Go.Lib.run_append_nil_zeros (P:=P) w t tn ty e i zv .i64 kn (Qz ht) hkn hi1 hi4 n h0 hs0 O O;have hge:=grownCap_ge w n 0 e;have e1:(aI zv.cells n++aI zv.cells (grownCap w n 0 e-n))=((aI zv.cells n).toList++(aI zv.cells (grownCap w n 0 e-n)).toList).toArray:=by apply bY;simp
  rw[e1]at hrun;refine upon_value (w':=_) (v:=_) ?_ (hK _ _ (kk w.heap.size (grownCap w n 0 e) ((aI zv.cells n).toList++(aI zv.cells (grownCap w n 0 e-n)).toList) hge (by rw[aG,hzc,hzc,<-Nat.add_mul];congr 1;omega) (grownCap_le_maxLen w n 0 e (by simp only[maxLen];omega)) _ _ (ha.put hd _) (hw.drew.alloc _ (X4 hu))));rw[YH];simp[builtin,ha.ev hx,ha.ev hy,hrun]
end
theorem QCP{n:Nat}(h0:0<n)(hn:n<=100000000):XG prog 320 [.slice none 0 0,.int .i64 (n:Int)] ⟨w0,F0,bs,G⟩ (λ(c:{ c:Value×List (Nat×Obj) // Q7 192 8 c.1 0 [] c.2 })=>c.1.1) (λc=>⟨w0,F0,c.1.2++bs,G⟩):=by
 refine XG.intro func320 rfl wy rfl rfl<|QKO<|wQ rfl<|QG<|wR rfl<|QA (QU rfl rfl rfl)<|QE<|QC ?_
 refine QO I (λhc2=>?_) λhc2=>?_
 ·exact absurd hc2 wz
 refine QKr 7 I<|QA (CO I JM)<|QJD I<|QA (Qg I JM)<|QA (X6 I I O)<|QA (X6 I I O) ?_
 rw[show((n:Int)-(((0:Nat):Int)-((0:Nat):Int)))=(n:Int) by omega];refine QKq 9 I ?_;refine QO I (λhc2=>?_) λhc2=>?_
 ·refine wA 3 I<|QA (CO I JM)<|QA (Nh 0 rfl rfl rfl JM Qi (aE _))<|QJD I<|cI (sz:=8) (bytes:=128) rfl rfl JM k_3 Qi Ji I Wd h0 wu O O λb22 cap22 rest22 hc22 hr22 hm22=>QJD I<|QA (Qg I JM)<|QA (Nh 0 rfl rfl rfl JM Qi (aq _))<|QKq 10 I ?_
  exact Y2 (⟨(.slice (some ⟨b22,0,none⟩) 0 cap22,[(b22,_)]),.some (l:=[]) (rest:=rest22) rfl (by simpa using hr22) (aq _) hm22⟩) I (wN I) (rfl) w9
 exact absurd hc2 w6
abbrev AW:Type:=Sr×List Yr
variable{ls:List AW}
instance :Inhabited AW:=⟨(⟨none,0,0⟩,[])⟩
def I2(F:Gs)(ls:List AW):Prop:=∀e∈ls,J7 F e.1 e.2 (e.2.map (·.2))
theorem I2.le(h:I2 F ls)(k:Gs.le F F'):I2 F' ls:=λe he=>(h e he).le k
def Nn(ls:List AW):List Yr:=ls.flatMap (·.2)
def BE(ls:List AW):Nat:=(Nn ls).length
theorem MK(h:i<ls.length):BE (ls.take (i+1))=BE (ls.take i)+(el ls i).2.length:=by
 unfold BE Nn;rw[XV h,aJ,aG];simp
theorem O0(i:Nat):BE (ls.take i)<=BE ls:=by
 unfold BE Nn;rw[<-bN i ls,aJ,aG,bN];omega
theorem jX(h:i<ls.length):Xi (Nn (ls.take (i+1)))=Xi (Nn (ls.take i))++Xi (el ls i).2:=by
 unfold Nn;rw[XV h,aJ];unfold Xi;rw[aJ];simp
theorem zR(l:List Yr):∀v∈Xi l,v.oneCell'=true:=λv hv=>by
 obtain⟨e,_,h⟩:=List.mem_flatMap.1 hv;exact Ka e.1 v h
theorem J7.q0{r:Sr}{l:List Yr}{vs:List (Rat×Rat)}(h:J7 F r l vs):r.q=none->r.n=0:=λe=>by
 rcases Nat.eq_zero_or_pos r.n with h0 | h0
 ·exact h0
 obtain⟨b,off,h1⟩:=h.row.ptr h0;rw[e]at h1;cases h1
structure CcI(ls:List AW) where
 i:Nat
 le:i<=ls.length
structure CcJ(ls:List AW) where
 i:Nat
 v:Value
 ob:List (Nat×Obj)
 le:i<=ls.length
 hr:Q7 192 8 v (BE (ls.take i)) (Xi (Nn (ls.take i))) ob
theorem vC{q:Option Addr}{cap:Nat}(hF:Fits F w)(hR:Qw F q n 1 (ls.map λe=>e.1.v))(hn:ls.length=n)(hB:I2 F ls)(hnb:n<=1000000)(h0:0<BE ls)(ht:BE ls<=1000000):
  We prog 275 [.slice q n cap] w F ((Nn ls).map (·.2)):=by
 have hlen:∀e∈ls,e.2.length=e.1.n:=λe he=>(hB e he).len;refine QT.intro (G:=λF=>Qw F q n 1 (ls.map λe=>e.1.v)/\I2 F ls) func275 rfl wy rfl rfl hF (λF' hF'=>⟨hR.le hF',hB.le hF'⟩)<|QKO<|wQ rfl<|QKO<|wQ rfl<|QG<|wR rfl<|QA (Qg rfl RF)<|QJD rfl<|QJC<|QV<|XM (ι:=CcI ls) [(0,_),(9,_),(10,_)] (λi=>[(3,.int .i64 (((BE (ls.take i.i)):Nat):Int)),(11,.int .i64 ((i.i:Nat):Int))]) (λi=>n-i.i) (⟨0,aq _⟩) wU wT λi=>?_
 simp only[aa,ae];have hi:=i.le;refine wA 6 I ?_;refine QO I (λhc2=>?_) λhc2=>?_
 ·have hlt:i.i<ls.length:=wk<|QKc hc2
  have hem:=Q3 hlt;have htk:=MK hlt;have htl:=O0 (ls:=ls) (i.i+1);refine QKr 6 I<|QA (Q6 (n:=n) i.i tA rfl rfl RF JF O)<|QA (JA (n:=n) ((i.i)*1) tA O rfl JF (Xa (f:=λe:AW=>e.1.v) (l:=ls) O))<|QKq 7 I<|QA (Qg I JM) ?_
  rw[<-hlen _ hem];refine QA (Qv I I O) ?_;rw[show(((BE (ls.take i.i):Nat):Int)+(((el ls i.i).2.length:Nat):Int))=((BE (ls.take (i.i+1)):Nat):Int) by rw[htk];omega];refine QKq 9 I ?_;refine QO I (λhc2=>?_) λhc2=>?_
  ·exact absurd hc2 wz
  refine QN<|Qk<|QC<|QB<|QA (Qv I I O)<|wB 2 I ?_
  exact Ql (⟨i.i+1,hlt⟩) (by show n-(i.i+1)<n-i.i;omega) wW QJZ w9
 have hge:i.i=ls.length:=wk<|QKd hc2
 refine Q2 ?_
 repeat first|refine QY ?_|refine QP wy ?_
 refine QZ<|QKs 4 I ?_
 rw[show BE (ls.take i.i)=BE ls by rw[hge,aQ]];refine XS I (bB _) (QCP h0 O) (λc24=>?_);rw[aL];refine QKq 7 I<|QA (Qg I RF)<|QKq 4 I<|JW (ι:=CcJ ls) [(25,_),(26,_)] (λi2=>[(6,i2.v),(27,.int .i64 ((i2.i:Nat):Int))]) (λi2=>i2.ob) (λi2 F=>True) (λi2=>n-i2.i) (⟨0,c24.1.1,c24.1.2,aq _,c24.2⟩) wT wT QJZ w8 λi2=>?_
 simp only[aa,ae];have hi2:=i2.le;refine wA 6 I ?_;refine QO I (λhc2=>?_) λhc2=>?_
 ·have hlt2:i2.i<ls.length:=wk<|QKc hc2
  have hem2:=Q3 hlt2;have htk2:=MK hlt2;have htl2:=O0 (ls:=ls) (i2.i+1);refine QKr 6 I<|QA (Q6 (n:=n) (i2.i) (λF h9=>h9.1.1) rfl rfl RF JF O)<|QA (JA (n:=n) ((i2.i)*1) (λF h9=>h9.1.1) O rfl JF (Xa (f:=λe:AW=>e.1.v) (l:=ls) O))<|QKq 6 I<|Ys (bs1:=[]) (ob:=i2.ob) (n:=BE (ls.take i2.i)) (k:=(el ls i2.i).2.length) (sz:=8) (news:=Xi (el ls i2.i).2) rfl rfl JM Qi Ji I Wd i2.hr (by rw[hlen _ hem2];exact Src.QHG (hB _ hem2).q0 (λF h9=>(h9.1.2 _ hem2).row) (by rw[GK,hlen _ hem2])) O O (zR _) λv33 ob33 hr33=>wB 2 I<|Qk<|QC<|QB<|QA (Qv I I O)<|wB 2 I ?_
  exact Ql (⟨i2.i+1,v33,ob33,hlt2,by rw[MK hlt2,jX hlt2];exact hr33⟩) (by show n-(i2.i+1)<n-i2.i;omega) wV QJZ λF h=>⟨h.1,trivial⟩
 have hge2:i2.i=ls.length:=wk<|QKd hc2
 refine Q2 ?_
 repeat first|refine QY ?_|refine QP wy ?_
 refine QZ<|QKs 3 I ?_
 obtain⟨⟨rq,rn,rc⟩,hv2,hrn,hrc,hfix⟩:=Q7.fix (w0:=w) (F0:=F) (bs1:=[]) (G:=_) i2.hr;dsimp only at hrn hrc hfix;refine YB hfix ?_;rw[hv2];dsimp only[Sr.v];refine QKq 5 I ?_;exact QQ ((⟨rq,rn,rc⟩,Nn ls)) I (wN I) (rfl) λF ⟨⟨⟨hR,hB⟩,_⟩,hrow⟩=>by rw[hge2,aQ]at hrow hrn hrc;exact⟨by dsimp only;rw[hrn];exact hrow,λe he=>by obtain⟨x,hx,h⟩:=List.mem_flatMap.1 he;exact(hB x hx).sp e h,rfl,hrn.symm,by dsimp only;rw[hrn];exact hrc⟩
theorem NI:∀(l:List Rat) (r:Rat),l.foldl Ul r<=r
 |[],r=>bw
 |x::l,r=>by
  refine bL (NI l (Ul r x)) ?_;unfold Ul;split
  ·rename_i h;exact bM ((V6 x r).1 h)
  exact bw
theorem NJ:∀(l:List Rat) (r:Rat),r<=l.foldl PD r
 |[],r=>bw
 |x::l,r=>by
  refine bL ?_ (NJ l (PD r x));unfold PD;split
  ·rename_i h;exact bM ((V7 x r).1 h)
  exact bw
theorem qM(a b:Rat×Rat):(JE a b).1<=(JE a b).2:=by
 unfold JE;rw[ZO];exact bL (NI _ _) (NJ _ _)
theorem Lf(h:a.1<=a.2):JE a (1,1)=a:=by
 unfold JE;rw[ZO];simp only[bP,List.foldl_cons,List.foldl_nil];have l1:Ul a.1 a.1=a.1:=by unfold Ul;split<;>rfl
 have l2:Ul a.1 a.2=a.1:=by unfold Ul;rw[if_neg (by rw[V6];exact Rat.not_lt.2 h)]
 have g1:PD a.1 a.1=a.1:=by unfold PD;split<;>rfl
 have g3:PD a.2 a.2=a.2:=by unfold PD;split<;>rfl
 have g2:PD a.1 a.2=a.2:=by
  unfold PD;by_cases e:a.1<a.2
  ·rw[if_pos ((V7 a.2 a.1).2 e)]
  rw[if_neg (by rw[V7];exact e)];exact Rat.le_antisymm h (Rat.not_lt.1 e)
 rw[l1,l2,l2,g1,g2,g3]
theorem qm(a:Rat×Rat):Kf a 0=(1,1):=by
 unfold Kf;rw[ZO];simp[Ul,PD,Rat.pow_zero]
theorem Oy{c:Rat×Rat}(hc:c.1<=c.2)(bs:List (Rat×Rat))(ks:List Int):∀i,(K7 c bs ks i).1<=(K7 c bs ks i).2
 |0=>hc
 |i+1=>by
  rw[Wo];split
  ·exact qM _ _
  exact Oy hc bs ks i
theorem xt{c:Rat×Rat}(hc:c.1<=c.2){bs:List (Rat×Rat)}{ks:List Int}{i:Nat}(hk:0<=Qm ks i):JE (K7 c bs ks i) (Kf (el bs i) (Qm ks i))=K7 c bs ks (i+1):=by
 rw[Wo];by_cases h:Qm ks i>0
 ·rw[if_pos h]
 rw[if_neg h,show Qm ks i=0 by omega,qm,Lf (Oy hc bs ks i)]
structure Ov(bs:List (Rat×Rat))(l:List Tm):Prop where
 base:∀x∈bs,Xb x 1000000
 Uz:∀t∈l,JQ t.1<=1000000
 pw:∀t∈l,t.2.length<=bs.length/\t.2.length<=1000/\∀k∈t.2,0<=k/\k<=12
 val:∀t∈l,∀i,i<=t.2.length->Xb (K7 (t.1,t.1) bs t.2 i) 20000000
 pow:∀t∈l,∀i,i<t.2.length->Xb (Kf (el bs i) (Qm t.2 i)) 20000000
 sum:∀k,Xb (J5 bs (l.take k)) 100000000
structure VaI(n:Nat) where
 i:Nat
 x:Sp
 le:i<=n
theorem Rt{bs:List (Rat×Rat)}{l:List Tm}(h:i<l.length):J5 bs (l.take (i+1))=Z0 (J5 bs (l.take i)) (K7 ((el l i).1,(el l i).1) bs (el l i).2 (el l i).2.length):=by
 rw[XV h];unfold J5;rw[aP];rfl
theorem EC{pa:WR}{x:Sp}{t:Rat×Rat}(hF:Fits F w)(hP:XN F pa.1 pa.2 (J3 pa.2))(hT:Jj F x t)(hB:J7 F rb lb vb)(hbn:rb.n<=100000)(hpn:pa.1.n<=1000000)(ho:Ov (t::vb) (J3 pa.2)):
  Xn prog 190 [pa.1.v,x.v,rb.v] w F (J5 (t::vb) (J3 pa.2)):=by
 obtain⟨⟨q,n,c⟩,ts⟩:=pa;have hln:ts.length=n:=hP.2.2.2.2;have hvl:=hB.YI;dsimp only[Sr.v]at *
 have hlm:(J3 ts).length=n:=by rw[Yc];exact hln
 refine QT.intro (G:=λF=>(Qw F q n 5 (ts.flatMap WO)/\GA F ts)/\Jj F x t/\J7 F rb lb vb) func190 rfl wy rfl rfl hF (λF' hF'=>⟨⟨hP.1.le hF',hP.2.1.le hF'⟩,hT.le hF',hB.le hF'⟩)<|QKO<|Qu rfl (vs:=[_,_,_,_,_,_,_,_]) rfl λb4=>Qc Ji λb6=>QJC<|QKO<|QA (wK I Qi .u1)<|Qb rfl (Qz JM) Qi Ji rfl rfl λb15=>QJD rfl<|Qb rfl (Qz RF) JF QEC rfl rfl λb17=>?_
 have hcat:(Nn [((⟨some ⟨b15,0,none⟩,1,1⟩:Sr),[(x,t)]),(rb,lb)]).map (·.2)=t::vb:=by unfold Nn;simp[hB.val]
 have htot:BE [((⟨some ⟨b15,0,none⟩,1,1⟩:Sr),[(x,t)]),(rb,lb)]=1+rb.n:=by unfold BE Nn;simp[hB.len];omega
 refine QI I (λw F hF ⟨⟨⟨⟨hR,hN⟩,hT,hB⟩,hs15⟩,hs17⟩=>vC (ls:=[((⟨some ⟨b15,0,none⟩,1,1⟩:Sr),[(x,t)]),(rb,lb)]) hF (Qw.of (n:=2) (sz:=1) hs17 rfl) rfl (λe he=>by
  simp only[bI,List.not_mem_nil,or_false]at he;rcases he with rfl | rfl
  ·exact⟨Qw.of (n:=1) (sz:=8) hs15 rfl,λe he=>by rw[List.mem_singleton.1 he];exact hT,rfl,rfl,aE _⟩
  exact⟨hB.row,hB.sp,rfl,hB.len,hB.cap⟩) wu O O) λc18=>?_
 rw[hcat];refine JN _ (λ_ _ f h=>au h.2.len (au h.2.YI h.2.cap)) (λh18p=>?_);obtain⟨l18,v18,_⟩:=h18p;rw[bF]at v18;refine QKq 5 I<|QI I (λ_ _ f k=>Sk (n:=0) f wu wu) λc19=>QI I (λ_ _ f k=>Kg (x:=c19) (r:=((0:Int):Rat)) f k.2) λc20=>Qc Ji λb8=>QR (vs:=[_,_,_,_,_,_,_,_]) I I I Qi I .here .h8 wZ<|QKq 6 I<|QA (Qg I Vs)<|QKq 4 I<|JW (ι:=VaI ts.length) [(6,_),(7,_),(8,_),(21,_),(22,_)] (λi=>[(23,.int .i64 ((i.i:Nat):Int))]) (λi=>[(b8,.cells (Xq i.x).toArray 192 (0,0)),(b6,.cells [.int .i64 0,.slice none 0 0,.int .i64 0,.slice none 0 0,.int .i64 0,.slice none 0 0,.int .i64 0,.slice none 0 0].toArray 192 (0,0)),(b4,.cells (Xq x).toArray 192 (0,0))]) (λi F=>Jj F i.x (J5 (t::vb) ((J3 ts).take i.i))) (λi=>ts.length-i.i) (⟨0,c20,aq _⟩) wW wS QJZ tB λi=>?_
 simp only[aa,ae];have hi:=i.le;refine wA 6 I ?_;refine QO I (λhc2=>?_) λhc2=>?_
 ·have hlt:i.i<ts.length:=wk<|QKc hc2
  have htm:=Q3 hlt;have htA:(el ts i.i).t∈J3 ts:=ak htm;have hpw:=ho.pw _ htA;refine XQ _ (λ_ _ f h=>(h.1.1.1.1.1.1.1.2 _ htm).2.2.1) (λhrl=>QKr 6 I<|QA (Q6 (n:=n) i.i (λF h9=>h9.1.1.1.1.1.1.1.1) rfl rfl Vs Xv O)<|QA (JX (n:=n) (vs:=[.int .i64 (el ts i.i).x.n.s,.slice (el ts i.i).x.n.q (el ts i.i).x.n.n (el ts i.i).x.n.cap,.int .i64 (el ts i.i).x.d.s,.slice (el ts i.i).x.d.q (el ts i.i).x.d.n (el ts i.i).x.d.cap,.slice (el ts i.i).r.q (el ts i.i).r.n (el ts i.i).r.cap]) ((i.i)*5) (λF h9=>h9.1.1.1.1.1.1.1.1) O rfl Xv I λj v hv=>Jc (f:=WO) (l:=ts) Bu O hv)<|Qc GI λb10=>QR (vs:=[_,_,_,_,_]) I I I Xv I .here .h5 wW<|QJC<|QKO<|QA (QH I Wx Qa)<|QA (wJ I Qa .here)<|QI I (λ_ _ f k=>Kg (x:=(el ts i.i).x) (r:=(el ts i.i).t.1) f (k.1.1.1.1.1.1.1.2 _ htm).1) λc29=>Qc Ji λb11=>QR (vs:=[_,_,_,_,_,_,_,_]) I I I Qi I .here .h8 wZ<|QKq 5 I ?_);refine QA (QH I V3 Jz)<|QA (Qf I Jz .u1 (.skip (.skip (.skip (.skip .h1)))))<|QA (Qg I JB)<|QKq 4 I<|JW (ι:=VaI (el ts i.i).t.2.length) [(6,_),(7,_),(8,_),(11,_),(21,_),(22,_),(23,_),(31,_),(32,_)] (λi2=>[(33,.int .i64 ((i2.i:Nat):Int))]) (λi2=>[(b11,.cells (Xq i2.x).toArray 192 (0,0)),(b10,.cells (WO (el ts i.i)).toArray 101 (0,0)),(b8,.cells (Xq i.x).toArray 192 (0,0)),(b6,.cells [.int .i64 0,.slice none 0 0,.int .i64 0,.slice none 0 0,.int .i64 0,.slice none 0 0,.int .i64 0,.slice none 0 0].toArray 192 (0,0)),(b4,.cells (Xq x).toArray 192 (0,0))]) (λi2 F=>Jj F i2.x (K7 ((el ts i.i).t.1,(el ts i.i).t.1) (t::vb) (el ts i.i).t.2 i2.i)) (λi2=>(el ts i.i).t.2.length-i2.i) (⟨0,c29,aq _⟩) we wS QJZ tB λi2=>?_
  simp only[aa,ae];have hj:=i2.le;refine wA 6 I ?_;refine QO I (λhc2=>?_) λhc2=>?_
  ·have hlt2:i2.i<(el ts i.i).t.2.length:=wk<|QKc hc2
   have hk12:0<=Qm (el ts i.i).t.2 i2.i/\Qm (el ts i.i).t.2 i2.i<=12:=by rw[Yy hlt2];exact hpw.2.2 _ (Q3 hlt2)
   have hbl:(t::vb).length=vb.length+1:=bF;have hbz:=ho.base _ (Q3 (show i2.i<(t::vb).length by omega));refine QKr 7 I<|QA (Q6 (n:=(el ts i.i).r.n) (i2.i) (λF h9=>((h9.1.1.1.1.1.1.1.1.1.2 _ htm).2).1) rfl rfl JB JO O)<|QA (JA (n:=(el ts i.i).r.n) ((i2.i)*1) (λF h9=>((h9.1.1.1.1.1.1.1.1.1.2 _ htm).2).1) O rfl JO (J6 (o:=(el ts i.i).t.2) O))<|QKq 4 I<|Js 8 QJZ mixed wm wm ?_
   simp only[aB,aH,aC,aK];refine QK (wK I Qi .here)<|QK (QD I)<|QK (QD I)<|QK (Q6 (n:=c18.1.n) (i2.i) (λF h9=>h9.1.1.1.1.1.2.row) rfl rfl JM Qi O)<|QK (JX (n:=c18.1.n) (vs:=[.int .i64 (el c18.2 (i2.i)).1.lo.n.s,.slice (el c18.2 (i2.i)).1.lo.n.q (el c18.2 (i2.i)).1.lo.n.n (el c18.2 (i2.i)).1.lo.n.cap,.int .i64 (el c18.2 (i2.i)).1.lo.d.s,.slice (el c18.2 (i2.i)).1.lo.d.q (el c18.2 (i2.i)).1.lo.d.n (el c18.2 (i2.i)).1.lo.d.cap,.int .i64 (el c18.2 (i2.i)).1.hi.n.s,.slice (el c18.2 (i2.i)).1.hi.n.q (el c18.2 (i2.i)).1.hi.n.n (el c18.2 (i2.i)).1.hi.n.cap,.int .i64 (el c18.2 (i2.i)).1.hi.d.s,.slice (el c18.2 (i2.i)).1.hi.d.q (el c18.2 (i2.i)).1.hi.d.n (el c18.2 (i2.i)).1.hi.d.cap]) ((i2.i)*8) (λF h9=>h9.1.1.1.1.1.2.row) O rfl Qi I λj v hv=>Jc (f:=(λe=>Xq e.1)) (l:=c18.2) (λ_=>rfl) O hv)<|QK (QD I)<|QM I (λ_ _ f k=>ka (x:=(el c18.2 i2.i).1) (a:=el (t::vb) i2.i) (n:=Qm (el ts i.i).t.2 i2.i) f (k.1.1.1.1.1.2.at (show i2.i<c18.1.n by omega)) hk12 hbz) λc44=>QM I (λ_ _ f k=>U6 (x:=i2.x) (y:=c44) (a:=K7 ((el ts i.i).t.1,(el ts i.i).t.1) (t::vb) (el ts i.i).t.2 i2.i) (b:=Kf (el (t::vb) i2.i) (Qm (el ts i.i).t.2 i2.i)) f k.1.2 k.2 (ho.val _ htA _ O) (ho.pow _ htA _ hlt2)) λc45=>Za<|QR (vs:=[_,_,_,_,_,_,_,_]) I I I Qi I .here .h8 wZ<|QE<|Qk<|QC<|QB<|QA (Qv I I O)<|wB 2 I ?_
   exact Ql (⟨i2.i+1,c45,hlt2⟩) (by show(el ts i.i).t.2.length-(i2.i+1)<(el ts i.i).t.2.length-i2.i;omega) wg QJZ λF ⟨⟨⟨⟨⟨⟨⟨⟨⟨⟨⟨⟨hR,hN⟩,hT,hB⟩,hs15⟩,hs17⟩,h18⟩,Td⟩,h20⟩,hS⟩,h29⟩,hY⟩,h44⟩,h45⟩=>⟨⟨⟨⟨⟨⟨⟨⟨⟨⟨hR,hN⟩,hT,hB⟩,hs15⟩,hs17⟩,h18⟩,Td⟩,h20⟩,hS⟩,h29⟩,by show Jj F c45 (K7 _ _ _ (i2.i+1));rw[<-xt bw hk12.1];exact h45⟩
  have hge2:i2.i=(el ts i.i).t.2.length:=wk<|QKd hc2
  refine Q2 ?_
  repeat first|refine QY ?_|refine QP wy ?_
  refine QZ<|QC<|QB<|QA (wK I Qi .u2)<|QA (wK I Qi .here)<|QI I (λ_ _ f k=>Mj (x:=i.x) (y:=i2.x) (a:=J5 (t::vb) ((J3 ts).take i.i)) (b:=K7 ((el ts i.i).t.1,(el ts i.i).t.1) (t::vb) (el ts i.i).t.2 i2.i) f k.1.1.2 k.2 (ho.sum _) ((ho.val _ htA _ O).mono wu)) λc49=>QR (vs:=[_,_,_,_,_,_,_,_]) I I I Qi I .u2 .h8 wZ<|QE<|Qk<|QC<|QB<|QA (Qv I I O)<|wB 2 I ?_
  exact Ql (⟨i.i+1,c49,hlt⟩) (by show ts.length-(i.i+1)<ts.length-i.i;omega) wX (.cons _ (.cons _ QJZ)) λF ⟨⟨⟨⟨⟨⟨⟨⟨⟨⟨⟨hR,hN⟩,hT,hB⟩,hs15⟩,hs17⟩,h18⟩,Td⟩,h20⟩,hS⟩,h29⟩,hY⟩,h49⟩=>⟨⟨⟨⟨⟨⟨⟨⟨hR,hN⟩,hT,hB⟩,hs15⟩,hs17⟩,h18⟩,Td⟩,h20⟩,by show Jj F c49 (J5 _ ((J3 ts).take (i.i+1)));rw[Rt O,<-xz hlt,<-hge2];exact h49⟩
 have hge:i.i=ts.length:=wk<|QKd hc2
 refine Q2 ?_
 repeat first|refine QY ?_|refine QP wy ?_
 refine QZ<|QC<|QKO<|QA (wK I Qi .here)<|QR (vs:=[_,_,_,_,_,_,_,_]) I I I Qi I .u1 .h8 wZ<|QJC<|QW ?_
 exact QQ (i.x) rfl (.JZ (c:=[_,_,_,_,_,_,_,_]) I Qi .u1 .nil) (rfl) λF h=>by have h1:=h.2;rw[aT (by rw[Yc];omega)]at h1;exact h1
structure j9 where
 b:Nat
 rt:Sr
 ps:List WR
 st:Sr
 sl:List Yr
structure Ga(F:Gs)(y:j9)(rs:List (List Tm))(vs:List (Rat×Rat)):Prop where
 H7:F y.b=some (#[y.rt.v,y.st.v],171)
 row:Qw F y.rt.q y.rt.n 1 (y.ps.map λe=>e.1.v)
 pls:Nx F y.ps
 val:jz y.ps=rs
 len:y.ps.length=y.rt.n
 box:J7 F y.st y.sl vs
theorem Ga.le{y:j9}{rs:List (List Tm)}{vs:List (Rat×Rat)}(h:Ga F y rs vs)(k:Gs.le F F'):Ga F' y rs vs:=⟨k _ _ h.H7,h.row.le k,λe he=>(h.pls e he).le k,h.val,h.len,h.box.le k⟩
theorem Ga.VI{y:j9}{rs:List (List Tm)}{vs:List (Rat×Rat)}(h:Ga F y rs vs):rs.length=y.rt.n:=by rw[<-h.val,<-h.len];simp[jz]
theorem Ga.at{y:j9}{rs:List (List Tm)}{vs:List (Rat×Rat)}(h:Ga F y rs vs){i:Nat}(hi:i<y.rt.n):XN F (el y.ps i).1 (el y.ps i).2 (J3 (el y.ps i).2)/\J3 (el y.ps i).2=el rs i:=by
 have h1:=h.len;refine⟨h.pls _ (Q3 O),?_⟩;rw[<-h.val,Ja (show i<y.ps.length by omega),Ja (by simp[jz];omega)];simp[jz]
structure xB where
 fr:Fr
 S5:Fr
 bx:Sr
 bl:List Yr
def dZ(x:xB):List Value:=KV x.fr++KV x.S5++[x.bx.v]
@[reducible] def xB.v (x:xB):Value:=.agg #[.int .i64 x.fr.n.s,.slice x.fr.n.q x.fr.n.n x.fr.n.cap,.int .i64 x.fr.d.s,.slice x.fr.d.q x.fr.d.n x.fr.d.cap,.int .i64 x.S5.n.s,.slice x.S5.n.q x.S5.n.n x.S5.n.cap,.int .i64 x.S5.d.s,.slice x.S5.d.q x.S5.d.n x.S5.d.cap,x.bx.v]
structure Mp(F:Gs)(x:xB)(a b:Rat)(vs:List (Rat×Rat)):Prop where
 fr:JP F x.fr a
 S5:JP F x.S5 b
 bx:J7 F x.bx x.bl vs
theorem Mp.le{x:xB}{a b:Rat}{vs:List (Rat×Rat)}(h:Mp F x a b vs)(k:Gs.le F F'):Mp F' x a b vs:=⟨h.fr.le k,h.S5.le k,h.bx.le k⟩
structure vj(rs:List (List Tm))(fr t2:Rat)(x on:List (Rat×Rat)):Prop where
 ev:∀i,i<rs.length->Ov ((fr,t2)::on) (el rs i)
 sz:∀i,i<rs.length->Xb (J5 ((fr,t2)::on) (el rs i)) 10000000
 tm:JQ fr<=1000000/\JQ t2<=1000000
 bx:∀a∈x,Xb a 10000000
theorem MS{y:j9}{x:xB}{rs:List (List Tm)}{vs vx von:List (Rat×Rat)}{ro:Sr}{lo:List Yr}(hF:Fits F w)(hy:Ga F y rs vs)(hx:Mp F x fr t2 vx)(ho:J7 F ro lo von)(hn:y.rt.n=x.bx.n)(hno:ro.n<=100000)(hnx:x.bx.n<=1000000)(hpn:∀e∈y.ps,e.1.n<=1000000)(hk:vj rs fr t2 vx von):
  We prog 187 [.pointer (some ⟨y.b,0,none⟩),x.v,ro.v] w F (Zt rs fr t2 vx von):=by
 have hrl:=hy.VI;have hxl2:=hx.bx.YI;have hpl:=hy.len;have hbl2:=hx.bx.len;have zfr:=hk.tm.1;have zto:=hk.tm.2;have zs:=Bm t2 fr;dsimp only[Sr.v]at *
 refine QT.intro (G:=λF=>Ga F y rs vs/\Mp F x fr t2 vx/\J7 F ro lo von) func187 rfl wy rfl rfl hF (λF' hF'=>⟨hy.le hF',hx.le hF',ho.le hF'⟩)<|QKO<|Qu rfl (vs:=[_,_,_,_,_,_,_,_,_]) rfl λb4=>wQ rfl<|QG<|KR (r:=[0,1,2,3,4,5,6,7,8]) tE mixed wm rfl<|Jk 1 wm rfl rfl<|QK (QH rfl By Qa)<|Q9<|Jk 2 wm rfl rfl<|QK (wL I Qa .here)<|Q9<|Jk 3 wm rfl rfl<|QK (QH rfl Bz Qa)<|Q9<|Jk 4 wm rfl rfl<|QK (wJ I Qa .here)<|Q9<|Kr (A:=[7]) (r:=[0,5,6,8]) wm<|XH 0 wm wm wy tE w9 rfl rfl rfl (λ_=>rfl) (λ_ _ f k=>Sk (n:=0) f wu wu) λc11=>XH 5 wm wm wy tE tA rfl rfl rfl (λ_=>rfl) (λ_ _ f k=>Uv (x:=x.S5) (y:=x.fr) (r:=t2) (s:=fr) f k.1.2.1.S5 k.1.2.1.fr O O) λc16=>C7 6 wm wm wy tE (λ_ h=>h.1.1) rfl wy (λ_=>Qx rfl Z4 Ji (.cons (vs:=[_,_,_,_]) rfl rfl rfl .h4 (.cons (vs:=[_,_,_,_]) rfl rfl rfl (.skip (.skip (.skip (.skip .h4)))) .nil))) ?_
 refine K1 7 (d:=7) (T:=192) wm wm wy tE (λ_ h=>h.1.1) wm wm Ji (λb7=>Zl (vs:=[_,_,_,_,_,_,_,_]) 8 wm wm wy (.cons _ tE) (λ_ h=>h.1.1) rfl rfl (λ_=>rfl) (λ_=>rfl) rfl Qi I .here tE .h8 wZ ?_);refine Vd ?_ wm;refine QKs 10 I<|QA (Ze I)<|QA (QH I B0 YJ)<|QA (Zq (c:=#[y.rt.v,y.st.v]) (T':=171) rfl YJ (λF h9=>h9.1.1.1.H7) rfl)<|QA (Qg I YW)<|QKq 4 I<|JW (ι:=Wn (y.rt.n) λi=>Z0 (el vx i) (JE (0,t2-fr) (J5 ((fr,t2)::von) (el rs i)))) [(2,_),(4,_),(7,_),(21,_),(22,_)] (λi=>[(8,i.v),(23,.int .i64 ((i.i:Nat):Int))]) (λi=>(b7,.cells (Xq ⟨c11,c16⟩).toArray 192 (0,0))::(b4,.cells (dZ x).toArray 173 (0,0))::i.ob) (λi F=>Z9 F i.l) (λi=>(y.rt.n)-i.i) (Wn.start _ _) wW wT QJZ (λ_ _=>Z9.nil _) λi=>?_
 simp only[aa,ae];have hi:=i.le;refine wA 6 I ?_;refine QO I (λhc=>?_) λhc=>?_
 ·have hlt:i.i<y.rt.n:=wk<|QKc hc
  have hltx:i.i<x.bx.n:=O;have hem:=Q3 (show i.i<y.ps.length by omega);refine XQ _ (λ_ _ f h=>(h.1.1.1.1.at hlt).2) (λheq=>QKr 7 I<|QA (Q6 (n:=y.rt.n) i.i (λF h9=>h9.1.1.1.1.row) rfl rfl YW K4 O)<|QA (JA (n:=y.rt.n) ((i.i)*1) (λF h9=>h9.1.1.1.1.row) O rfl K4 (Xa (f:=λe:WR=>e.1.v) (l:=y.ps) O))<|QKq 4 I<|JK tF mixed wm<|QK (QD I)<|QK (QH I Bw JF)<|QK (Qf I JF .u1 (.skip (.skip (.skip (.skip (.skip (.skip (.skip (.skip .h1)))))))))<|QK (QD I)<|QK (Q6 (n:=x.bx.n) i.i (λF h9=>h9.1.1.1.2.1.bx.row) rfl rfl JM Qi O)<|QK (JX (n:=x.bx.n) (vs:=[.int .i64 (el x.bl i.i).1.lo.n.s,.slice (el x.bl i.i).1.lo.n.q (el x.bl i.i).1.lo.n.n (el x.bl i.i).1.lo.n.cap,.int .i64 (el x.bl i.i).1.lo.d.s,.slice (el x.bl i.i).1.lo.d.q (el x.bl i.i).1.lo.d.n (el x.bl i.i).1.lo.d.cap,.int .i64 (el x.bl i.i).1.hi.n.s,.slice (el x.bl i.i).1.hi.n.q (el x.bl i.i).1.hi.n.n (el x.bl i.i).1.hi.n.cap,.int .i64 (el x.bl i.i).1.hi.d.s,.slice (el x.bl i.i).1.hi.d.q (el x.bl i.i).1.hi.d.n (el x.bl i.i).1.hi.d.cap]) ((i.i)*8) (λF h9=>h9.1.1.1.2.1.bx.row) O rfl Qi I λj v hv=>Jc (f:=(λe=>Xq e.1)) (l:=x.bl) (λ_=>rfl) O hv)<|QK (wK I Qi .here)<|QK (QD I)<|QK (QH I Bz Qa)<|QK (wJ I Qa .u1) ?_);refine QK (QH I By Qa)<|QK (wL I Qa .u1)<|QK (Qx I Z4 Ji (.cons (vs:=[_,_,_,_]) I I I .h4 (.cons (vs:=[_,_,_,_]) I I I (.skip (.skip (.skip (.skip .h4)))) .nil)))<|QK (QD I)<|QM I (λw F hF ⟨⟨⟨⟨hY,hX,hO⟩,h11⟩,h16⟩,hS⟩=>EC (pa:=el y.ps i.i) (x:=⟨x.fr,x.S5⟩) (t:=(fr,t2)) hF (hY.at hlt).1 ⟨hX.fr,hX.S5⟩ hO hno (hpn _ hem) (by rw[heq];exact hk.ev _ O)) λc42=>?_
  rw[heq];refine QM I (λ_ _ f k=>U6 (x:=⟨c11,c16⟩) (y:=c42) (a:=(0,t2-fr)) (b:=(J5 ((fr,t2)::von) (el rs i.i))) f ⟨k.1.1.1.2,k.1.1.2⟩ k.2 ⟨by show JQ 0<=_;decide,by show JQ (t2-fr)<=_;omega⟩ ((hk.sz _ O).mono wu)) (λc43=>QM I (λ_ _ f k=>Mj (x:=(el x.bl i.i).1) (y:=c43) (a:=el vx i.i) (b:=JE (0,t2-fr) (J5 ((fr,t2)::von) (el rs i.i))) f (k.1.1.1.1.1.2.1.bx.at hltx) k.2 ((hk.bx _ (Q3 O)).mono wu) ((K9 (m:=3000000) (n:=10000000) ⟨by show JQ 0<=_;decide,by show JQ (t2-fr)<=_;omega⟩ (hk.sz _ O)).mono wu)) λc44=>?_);refine Qo I (Qz JM) Qi Ji I I (λb45=>?_) (λw h=>h.imp tF λF h=>h.1.1.1);refine Yi (ag (l₁:=[_,_])) ?_;refine Yt (n:=i.i) (k:=1) (sz:=8) (news:=Xq c44) rfl rfl JM Qi Ji I Wd i.hr (Src.row (off:=0) tB (λj q hq=>by rw[aA];rw[ah];exact hq) rfl) O O (Ka _) QJZ (λ_ h=>h.1.1.1.1) (λv46 ob46 hr46=>?_);refine Yi (ag (l₂:=[_,_]))<|QK (QF I)<|Q5<|Qk<|QC<|QB<|QA (Qv I I O)<|wB 2 I ?_
  exact Ql (i.next hlt c44 _ hr46 rfl) (by show y.rt.n-(i.i+1)<y.rt.n-i.i;omega) wY QJZ λF ⟨⟨⟨⟨⟨⟨⟨⟨hY,hX,hO⟩,h11⟩,h16⟩,hS⟩,h42⟩,h43⟩,h44⟩,hs45⟩=>⟨⟨⟨⟨hY,hX,hO⟩,h11⟩,h16⟩,hS.snoc h44⟩
 have hge:i.i=y.rt.n:=wk<|QKd hc
 refine Q2 ?_
 repeat first|refine QY ?_|refine QP wy ?_
 refine QZ<|QKs 3 I ?_
 have hxl:=i.len;obtain⟨⟨rq,rn,rc⟩,hv2,hrn,hrc,hfix⟩:=Q7.fix (w0:=w) (F0:=F) (bs1:=[_,_]) (G:=_) i.hr;dsimp only at hrn hrc hfix;subst hrn;refine YB hfix ?_;rw[hv2];dsimp only[Sr.v];refine QKq 5 I ?_;exact QQ ((⟨rq,i.i,rc⟩,i.l)) I (wN I) (rfl) λF h9=>by have:=i.box hge (r:=⟨rq,i.i,rc⟩) h9.2 I hrc h9.1.2;unfold Zt;rw[hxl2,<-hn];exact this
structure QIH(f:Nat->Rat×Rat)(n:Nat) where
 v:Value
 ob:List (Nat×Obj)
 l:List Yr
 hr:Q7 192 8 v n (Xi l) ob
 hl:l.map (·.2)=(aF n).map f
def OZ(a:Rat)(k:Nat):Rat×Rat:=if k=0 then(a,a)else(0,0)
theorem AA(a:Rat)(n:Nat):(aF (n+1)).map (OZ a)=VK a n:=by
 unfold VK;rw[List.range_succ_eq_map,aS,aZ];congr 1;apply bR
 ·simp
 intro i h1 h2;simp[OZ]
structure CsJ(n:Nat)(a:Rat) where
 s:Wn (n+1) (OZ a)
 j:Nat
 hj:s.i=j+1
structure QA0(va vb:List (Rat×Rat)):Prop where
 el:∀k,k<va.length->Xb (el va k) 20000000/\Xb (el vb k) 20000000
 cv:∀k,k<va.length->∀i,i<=k+1->Xb (Hl va vb k i) 50000000
theorem R5(a b:List (Rat×Rat))(k j:Nat):Hl a b k (j+1)=Z0 (Hl a b k j) (JE (el a j) (el b (k-j))):=by
 unfold Hl;rw[aN,aP];rfl
theorem yQ(a b:List (Rat×Rat)):(aF a.length).map (λk=>Z0 (el a k) (el b k))=BM a b:=rfl
structure QFi(bs:List (Nat×Obj))(b n c:Nat)(l:List Yr) where
 rest:List Value
 hm:(b,bT (Xi l++rest).toArray 192 (0,0))∈bs
 hl:l.length=n
theorem ye{l:List Yr}{j:Nat}{v:Value}(h:k<l.length)(hv:(Xq (el l k).1)[j]?=some v):(Xi l++rest)[0+k*8+j]?=some v:=by
 have h1:(Xi l)[k*8+j]?=some v:=Jc (f:=λe:Yr=>Xq e.1) (k:=8) (λ_=>rfl) h hv;have hlt:k*8+j<(Xi l).length:=by
  rcases bA (k*8+j) (Xi l).length with g | g
  ·exact g
  rw[bj g]at h1;cases h1
 rw[aA,bG hlt];exact h1
theorem R7{x:Fr}{a:Rat}{n:Nat}(hA:∀F,G F->JP F x a)(hn:n<=1000):XG prog 222 [x.v,.int .i64 (n:Int)] ⟨w0,F0,bs,G⟩ (λ(c:QIH (OZ a) (n+1))=>.agg #[c.v]) (λc=>⟨w0,F0,c.ob++bs,λF=>G F/\Z9 F c.l⟩):=by
 refine XG.intro func222 rfl wy rfl rfl<|QKO<|Qu rfl (vs:=[_,_,_,_]) rfl λb2=>Qc WS λb4=>QJC<|QKO<|QA (wJ I Qa .u1)<|QI rfl (λ_ _ f k=>Kg (x:=x) (r:=a) f (hA _ k)) λc7=>VN rfl (Qz JM) Qi Ji rfl rfl λb8=>QA (Qx rfl yR WS (.cons (vs:=[_]) rfl rfl rfl .h1 .nil))<|Qc WS λb5=>QR (vs:=[_]) rfl rfl rfl XF rfl .here .h1 wS<|QKq 4 I<|vr (.cons _ (List.perm_middle (l₁:=[_,_])).symm)<|QB<|QJD rfl<|QJD rfl<|QE<|QC ?_
 refine QV<|JW (ι:=CsJ n a) [(4,_),(5,_),(10,_)] (λi=>[(11,.int .i64 ((i.j:Nat):Int))]) (λi=>(b5,.cells [i.s.v].toArray 196 (0,0))::(b4,.cells [.slice none 0 0].toArray 196 (0,0))::(b2,.cells (KV x).toArray 95 (0,0))::(i.s.ob++bs)) (λi F=>Z9 F i.s.l) (λi=>n-i.j) (⟨⟨1,_,_,[(c7,(a,a))],O,.some (n:=1) (l:=Xi [(c7,(a,a))]) (rest:=[]) rfl rfl (aE _) wu,rfl⟩,0,rfl⟩) wU wS QJZ (λ_ h=>by intro e he;rw[List.mem_singleton.1 he];exact h.2) λi=>?_
 simp only[aa,ae];have hi:=i.s.le;have hij:=i.hj;refine wA 6 I ?_;refine QO I (λhc=>?_) λhc=>?_
 ·have hlt:i.j<n:=wk<|QKc hc
  refine QKr 4 I<|Js 7 tG mixed wm wm ?_
  simp only[aB,aH,aC,aK];refine QK (QH I Xg JF)<|QK (Qf I JF .here .h1)<|QM I (λ_ _ f k=>Sk (n:=0) f wu wu) λc15=>QM I (λ_ _ f k=>Kg (x:=c15) (r:=((0:Int):Rat)) f k.2) λc16=>?_
  refine Qo I (Qz JM) Qi Ji I I (λb17=>?_) (λw h=>h.imp tG λF h=>h.1.1);refine Yi (aO [_,_,_] i.s.ob bs) ?_;refine Yt (n:=i.s.i) (k:=1) (sz:=8) (news:=Xq c16) rfl rfl JM Qi Ji I Wd i.s.hr (Src.row (off:=0) tB (λj q hq=>by rw[aA];rw[ah];exact hq) rfl) O O (Ka _) tG (λ_ h=>h.1.1.1) (λv18 ob18 hr18=>?_);refine Yi (aO ob18 [_,_,_] bs)<|QK (QH I Xg JF)<|Za<|QR (vs:=[v18]) I I hr18.one.2 JF I .here .h1 ⟨hr18.one.1,trivial⟩<|QE<|Qk<|QC<|QB<|QA (Qv I I O)<|wB 2 I ?_
  exact Ql (⟨i.s.next O c16 (OZ a i.s.i) hr18 rfl,i.j+1,by show i.s.i+1=_;omega⟩) (by show n-(i.j+1)<n-i.j;omega) wV QJZ λF h9=>⟨⟨h9.1.1.1.1.1,h9.1.1.1.1.2⟩,h9.1.1.1.2.snoc (by rw[show OZ a i.s.i=(((0:Int):Rat),((0:Int):Rat)) by unfold OZ;rw[if_neg O];rfl];exact h9.1.2)⟩
 have hge:i.j=n:=wk<|QKd hc
 refine Q2 ?_
 repeat first|refine QY ?_|refine QP wy ?_
 refine QZ<|QC<|QKO<|QA (QJ (vs:=[_]) I XF .here .h1 rfl)<|QR (vs:=[i.s.v]) I I I XF I .u1 .h1 ⟨i.s.hr.one.1,trivial⟩<|QJC<|QW ?_
 exact Y2 (⟨i.s.v,i.s.ob,i.s.l,by have e:i.s.i=n+1:=O;have h:=i.s.hr;rw[e]at h;exact h,by rw[i.s.hl,show i.s.i=n+1 by omega]⟩) I (.JZ (c:=[_]) I XF .u1 .nil) (rfl) λw h=>h.imp (.cons _ (.cons _ (.cons _ QJZ))) λF h9=>⟨h9.1.1,h9.2⟩
theorem R6{x:Fr}{a:Rat}{n:Nat}(hF:Fits F w)(hA:JP F x a)(hn:n<=1000):QT prog 222 [x.v,.int .i64 (n:Int)] w F (λ(c:Sr×List Yr)=>.agg #[c.1.v]) (λc F=>J7 F c.1 c.2 (VK a n)):=by
 have h:=R7 (w0:=w) (F0:=F) (bs:=[]) (G:=λF'=>Gs.le F F') (x:=x) (a:=a) (λF' h=>hA.le h) hn;refine⟨h.1,(h.2 w (St.start hF λ_ h=>h)).mono ?_⟩;rintro e w' ⟨c,rfl,hw⟩;dsimp only at hw;rw[aL]at hw;obtain⟨s,hv,hsn,hsc,hfix⟩:=Q7.fix (w0:=w) (F0:=F) (bs1:=[]) c.hr;obtain⟨F',h'⟩:=hfix w' hw;exact⟨(s,c.l),F',by show Ending.returned (.agg #[c.v])=_;rw[hv],h'.ext,h'.le,h'.old,h'.fits,λF'' hle=>⟨by rw[hsn];exact(h'.g F'' hle).2,(h'.g F'' hle).1.2,by rw[c.hl,AA],by rw[hsn,<-af (f:=λe:Yr=>e.2),c.hl];simp,by rw[hsn];exact hsc⟩⟩
theorem QBe(hF:Fits F w)(ha:J7 F ra la va)(hb:J7 F rb lb vb)(hn:ra.n<=rb.n)(hbn:ra.n<=1000000)(hza:∀x∈va,Xb x 100000000)(hzb:∀x∈vb,Xb x 100000000):
  QT prog 224 [.agg #[ra.v],.agg #[rb.v]] w F (λ(c:Sr×List Yr)=>.agg #[c.1.v]) (λc F=>J7 F c.1 c.2 (BM va vb)):=by
 have hva:=ha.YI;have hvb:=hb.YI;have hla:=ha.len;have hlb:=hb.len;dsimp only[Sr.v];refine QT.intro (G:=λF=>J7 F ra la va/\J7 F rb lb vb) func224 rfl wy rfl rfl hF (λF' hF'=>⟨ha.le hF',hb.le hF'⟩)<|QKO<|Qu rfl (vs:=[_]) rfl λb2=>Qu rfl (vs:=[_]) rfl λb3=>Qc WS λb4=>QJC<|QKO<|Qc WS λb5=>QKq 5 I<|QA (QH rfl Xg JF)<|QA (Qf rfl JF .u3 .h1)<|QA (Qg rfl JM)<|QJD rfl<|QJC<|QV<|JW (ι:=Wn (ra.n) λk=>Z0 (el va k) (el vb k)) [(2,_),(3,_),(4,_),(5,_),(9,_)] (λi=>[(10,.int .i64 ((i.i:Nat):Int))]) (λi=>(b5,.cells [i.v].toArray 196 (0,0))::(b4,.cells [.slice none 0 0].toArray 196 (0,0))::(b3,.cells [.slice rb.q rb.n rb.cap].toArray 196 (0,0))::(b2,.cells [.slice ra.q ra.n ra.cap].toArray 196 (0,0))::i.ob) (λi F=>Z9 F i.l) (λi=>(ra.n)-i.i) (Wn.start _ _) wW wS QJZ (λ_ _=>Z9.nil _) λi=>?_
 simp only[aa,ae];have hi:=i.le;refine wA 6 I ?_;refine QO I (λhc=>?_) λhc=>?_
 ·have hlt:i.i<ra.n:=wk<|QKc hc
  refine QKr 10 I<|Js 17 (.cons_cons _ (.cons_cons _ (.cons_cons _ (.cons_cons _ tD)))) mixed wm wm ?_
  simp only[aB,aH,aC,aK];refine QK (QH I Xg JF)<|QK (Qf I JF .here .h1)<|QK (QH I Xg JF)<|QK (Qf I JF .u3 .h1)<|QK (QD I)<|QK (Q6 (n:=ra.n) i.i (λF h9=>h9.1.1.row) rfl rfl JM Qi O)<|QK (JX (n:=ra.n) (vs:=[.int .i64 (el la i.i).1.lo.n.s,.slice (el la i.i).1.lo.n.q (el la i.i).1.lo.n.n (el la i.i).1.lo.n.cap,.int .i64 (el la i.i).1.lo.d.s,.slice (el la i.i).1.lo.d.q (el la i.i).1.lo.d.n (el la i.i).1.lo.d.cap,.int .i64 (el la i.i).1.hi.n.s,.slice (el la i.i).1.hi.n.q (el la i.i).1.hi.n.n (el la i.i).1.hi.n.cap,.int .i64 (el la i.i).1.hi.d.s,.slice (el la i.i).1.hi.d.q (el la i.i).1.hi.d.n (el la i.i).1.hi.d.cap]) ((i.i)*8) (λF h9=>h9.1.1.row) O rfl Qi I λj v hv=>Jc (f:=(λe=>Xq e.1)) (l:=la) (λ_=>rfl) O hv)<|vu (v:=(el la i.i).1.v) rfl (λ_=>wm)<|QK (QH I Xg JF)<|QK (Qf I JF .u2 .h1)<|QK (QD I)<|QK (Q6 (n:=rb.n) i.i (λF h9=>h9.1.2.row) rfl rfl JM Qi O)<|QK (JX (n:=rb.n) (vs:=[.int .i64 (el lb i.i).1.lo.n.s,.slice (el lb i.i).1.lo.n.q (el lb i.i).1.lo.n.n (el lb i.i).1.lo.n.cap,.int .i64 (el lb i.i).1.lo.d.s,.slice (el lb i.i).1.lo.d.q (el lb i.i).1.lo.d.n (el lb i.i).1.lo.d.cap,.int .i64 (el lb i.i).1.hi.n.s,.slice (el lb i.i).1.hi.n.q (el lb i.i).1.hi.n.n (el lb i.i).1.hi.n.cap,.int .i64 (el lb i.i).1.hi.d.s,.slice (el lb i.i).1.hi.d.q (el lb i.i).1.hi.d.n (el lb i.i).1.hi.d.cap]) ((i.i)*8) (λF h9=>h9.1.2.row) O rfl Qi I λj v hv=>Jc (f:=(λe=>Xq e.1)) (l:=lb) (λ_=>rfl) O hv)<|vw (v:=(el la i.i).1.v) (vs:=[(el lb i.i).1.v]) I I (λ_=>wm) (λ_ _ f k=>Mj (x:=(el la i.i).1) (y:=(el lb i.i).1) (a:=el va i.i) (b:=el vb i.i) f (k.1.1.at hlt) (k.1.2.at (show i.i<rb.n by omega)) (hza _ (Q3 O)) (hzb _ (Q3 O))) λc26=>?_
  refine Qo I (Qz JM) Qi Ji I I (λb27=>?_) (λw h=>h.imp (.cons_cons _ (.cons_cons _ (.cons_cons _ (.cons_cons _ tD)))) tA);refine Yi (ag (l₁:=[_,_,_,_])) ?_;refine Yt (n:=i.i) (k:=1) (sz:=8) (news:=Xq c26) rfl rfl JM Qi Ji I Wd i.hr (Src.row (off:=0) tB (λj q hq=>by rw[aA];rw[ah];exact hq) rfl) O O (Ka _) QJZ (λ_ h=>h.1.1) (λv28 ob28 hr28=>?_);refine Yi (ag (l₂:=[_,_,_,_]))<|QK (QH I Xg JF)<|Za<|QR (vs:=[v28]) I I hr28.one.2 JF I .here .h1 ⟨hr28.one.1,trivial⟩<|QE<|Qk<|QC<|QB<|QA (Qv I I O)<|wB 2 I ?_
  exact Ql (i.next hlt c26 _ hr28 rfl) (by show ra.n-(i.i+1)<ra.n-i.i;omega) wX QJZ λF h9=>⟨⟨h9.1.1.1.1,h9.1.1.1.2⟩,h9.1.1.2.snoc h9.1.2⟩
 have hge:i.i=ra.n:=wk<|QKd hc
 refine Q2 ?_
 repeat first|refine QY ?_|refine QP wy ?_
 refine QZ<|QKs 3 I ?_
 have hxl:=i.len;obtain⟨⟨rq,rn,rc⟩,hv2,hrn,hrc,hfix⟩:=Q7.fix (w0:=w) (F0:=F) (bs1:=[_,_,_,_]) (G:=_) i.hr;dsimp only at hrn hrc hfix;subst hrn;refine YB hfix ?_;rw[hv2];dsimp only[Sr.v];refine QA (QJ (vs:=[_]) I XF .here .h1 rfl)<|QR (vs:=[_]) I I I XF I .u1 .h1 wS<|QJC<|QW ?_
 exact QQ ((⟨rq,i.i,rc⟩,i.l)) I (.JZ (c:=[_]) I XF .u1 .nil) (rfl) λF h9=>by have:=i.box hge (r:=⟨rq,i.i,rc⟩) h9.2 I hrc h9.1.2;rw[<-yQ,hva];exact this
theorem dQ{nb cb:Nat}(ha:∀F,G F->J7 F ra la va)(hin:QFi bs bb nb cb lb)(hvb:lb.map (·.2)=vb)(hsb:∀F,G F->Z9 F lb)(hla:la.length=ra.n)(hva:va.length=ra.n)(hn:ra.n<=nb)(hbn:ra.n<=1000000)(ho:QA0 va vb):
  XG prog 301 [.agg #[ra.v],.agg #[.slice (some ⟨bb,0,none⟩) nb cb]] ⟨w0,F0,bs,G⟩ (λ(c:Sr×List Yr)=>.agg #[c.1.v]) (λc=>⟨w0,F0,bs,λF=>G F/\J7 F c.1 c.2 (VP va vb)⟩):=by
 obtain⟨rest,hm,hll⟩:=hin;obtain⟨fo,hfo⟩:=CS hm;have hbel:∀k,k<nb->(el lb k).2=el vb k:=λk hk=>by rw[<-hvb,Ja (show k<lb.length by omega),Ja (by rw[af];omega),aM]
 dsimp only[Sr.v];refine XG.intro func301 rfl wy rfl rfl<|QKO<|Qu rfl (vs:=[_]) rfl λb2=>Qu rfl (vs:=[_]) rfl λb3=>Qc WS λb4=>QJC<|QKO<|Qc WS λb5=>QKq 5 I<|QA (QH rfl Xg JF)<|QA (Qf rfl JF .u3 .h1)<|QA (Qg rfl JM)<|QJD rfl<|QJC<|QV<|JW (ι:=Wn (ra.n) λk=>Hl va vb k (k+1)) [(2,_),(3,_),(4,_),(5,_),(11,_)] (λi=>[(12,.int .i64 ((i.i:Nat):Int))]) (λi=>(b5,.cells [i.v].toArray 196 (0,0))::(b4,.cells [.slice none 0 0].toArray 196 (0,0))::(b3,.cells [.slice (some ⟨bb,0,none⟩) nb cb].toArray 196 (0,0))::(b2,.cells [.slice ra.q ra.n ra.cap].toArray 196 (0,0))::(i.ob++bs)) (λi F=>Z9 F i.l) (λi=>(ra.n)-i.i) (Wn.start _ _) wW wS QJZ (λ_ _=>Z9.nil _) λi=>?_
 simp only[aa,ae];have hi:=i.le;refine wA 6 I ?_;refine QO I (λhc=>?_) λhc=>?_
 ·have hlt:i.i<ra.n:=wk<|QKc hc
  refine QKr 12 I<|QI I (λ_ _ f k=>Sk (n:=0) f wu wu) λc15=>QI I (λ_ _ f k=>Kg (x:=c15) (r:=((0:Int):Rat)) f k.2) λc16=>Qc Ji λb7=>QR (vs:=[_,_,_,_,_,_,_,_]) I I I Qi I .here .h8 wZ<|QKq 6 I<|QA (Qv I I O)<|wB 2 I ?_
  refine QC<|QV<|JW (ι:=VaI (i.i+1)) [(2,_),(3,_),(4,_),(5,_),(6,_),(7,_),(11,_),(12,_),(18,_)] (λi2=>[(19,.int .i64 ((i2.i:Nat):Int))]) (λi2=>(b7,.cells (Xq i2.x).toArray 192 (0,0))::(b5,.cells [i.v].toArray 196 (0,0))::(b4,.cells [.slice none 0 0].toArray 196 (0,0))::(b3,.cells [.slice (some ⟨bb,0,none⟩) nb cb].toArray 196 (0,0))::(b2,.cells [.slice ra.q ra.n ra.cap].toArray 196 (0,0))::(i.ob++bs)) (λi2 F=>Jj F i2.x (Hl va vb i.i i2.i)) (λi2=>i.i+1-i2.i) (⟨0,c16,aq _⟩) we wS QJZ tB λi2=>?_
  simp only[aa,ae];have hj:=i2.le;refine wA 6 I ?_;refine QO I (λhc=>?_) λhc=>?_
  ·have hlt2:i2.i<i.i+1:=wk<|QKc hc
   refine QKr 10 I<|Js 15 QJZ mixed wm wm ?_
   simp only[aB,aH,aC,aK];refine QK (wK I Qi .here)<|QK (QH I Xg JF)<|QK (Qf I JF .u4 .h1)<|QK (QD I)<|QK (Q6 (n:=ra.n) (i2.i) (λF h9=>(ha _ h9.1.1.1.1).row) rfl rfl JM Qi O)<|QK (JX (n:=ra.n) (vs:=[.int .i64 (el la (i2.i)).1.lo.n.s,.slice (el la (i2.i)).1.lo.n.q (el la (i2.i)).1.lo.n.n (el la (i2.i)).1.lo.n.cap,.int .i64 (el la (i2.i)).1.lo.d.s,.slice (el la (i2.i)).1.lo.d.q (el la (i2.i)).1.lo.d.n (el la (i2.i)).1.lo.d.cap,.int .i64 (el la (i2.i)).1.hi.n.s,.slice (el la (i2.i)).1.hi.n.q (el la (i2.i)).1.hi.n.n (el la (i2.i)).1.hi.n.cap,.int .i64 (el la (i2.i)).1.hi.d.s,.slice (el la (i2.i)).1.hi.d.q (el la (i2.i)).1.hi.d.n (el la (i2.i)).1.hi.d.cap]) ((i2.i)*8) (λF h9=>(ha _ h9.1.1.1.1).row) O rfl Qi I λj v hv=>Jc (f:=(λe=>Xq e.1)) (l:=la) (λ_=>rfl) O hv)<|QK (QH I Xg JF)<|QK (Qf I JF .u3 .h1)<|QK (QD I)<|QK (QD I)<|QK (X6 I I O)<|QK (JL (i:=i.i-i2.i) rfl wM JM Qi O)<|QK (FR (vs:=Xq (el lb (i.i-i2.i)).1) rfl Qi (.there (.there (.there (.there (.there (hfo.skip i.ob)))))) I λj v hv=>ye O hv)<|QM I (λ_ _ f k=>U6 (x:=(el la i2.i).1) (y:=(el lb (i.i-i2.i)).1) (a:=el va i2.i) (b:=el vb (i.i-i2.i)) f ((ha _ k.1.1.1.1).at (show i2.i<ra.n by omega)) (by rw[<-hbel _ (show i.i-i2.i<nb by omega)];exact hsb _ k.1.1.1.1 _ (Q3 O)) (ho.el i2.i O).1 (ho.el (i.i-i2.i) O).2) λc35=>QM I (λ_ _ f k=>Mj (x:=i2.x) (y:=c35) (a:=Hl va vb i.i i2.i) (b:=JE (el va i2.i) (el vb (i.i-i2.i))) f k.1.2 k.2 ((ho.cv _ O _ O).mono wu) ((K9 (ho.el i2.i O).1 (ho.el (i.i-i2.i) O).2).mono wu)) λc36=>Za<|QR (vs:=[_,_,_,_,_,_,_,_]) I I I Qi I .here .h8 wZ<|QE<|Qk<|QC<|QB<|QA (Qv I I O)<|wB 2 I ?_
   exact Ql (⟨i2.i+1,c36,hlt2⟩) (by show i.i+1-(i2.i+1)<i.i+1-i2.i;omega) wg QJZ λF ⟨⟨⟨⟨⟨⟨hG,hS⟩,h15⟩,h16⟩,hY⟩,h35⟩,h36⟩=>⟨⟨⟨⟨hG,hS⟩,h15⟩,h16⟩,by show Jj F c36 (Hl va vb i.i (i2.i+1));rw[R5];exact h36⟩
  have hge2:i2.i=i.i+1:=wk<|QKd hc
  refine Q2 ?_
  repeat first|refine QY ?_|refine QP wy ?_
  refine QZ<|QC<|QB<|QA (QH I Xg JF)<|QA (Qf I JF .u1 .h1)<|QA (wK I Qi .here)<|Qb I (Qz JM) Qi Ji I I λb41=>Zi (aO [_,_,_,_,_] i.ob bs) ?_
  refine Mr (bs:=[_,_,_,_,_]++bs) (n:=i.i) (k:=1) (sz:=8) (news:=Xq i2.x) rfl rfl JM Qi Ji I Wd i.hr (Src.row (off:=0) tB (λj q hq=>by rw[aA];rw[ah];exact hq) rfl) O O (Ka _) (λv42 ob42 hr42=>?_);refine Zi (aO ob42 [_,_,_,_,_] bs)<|QA (QH I Xg JF)<|QR (vs:=[v42]) I I hr42.one.2 JF I .u1 .h1 ⟨hr42.one.1,trivial⟩<|QE<|Qk<|QC<|QB<|QA (Qv I I O)<|wB 2 I ?_
  exact Ql (i.next hlt i2.x _ hr42 rfl) (by show ra.n-(i.i+1)<ra.n-i.i;omega) wX (.cons _ QJZ) λF h9=>⟨h9.1.1.1.1.1,h9.1.1.1.1.2.snoc (by have e:=h9.1.2;rw[hge2]at e;exact e)⟩
 have hge:i.i=ra.n:=wk<|QKd hc
 refine Q2 ?_
 repeat first|refine QY ?_|refine QP wy ?_
 refine QZ<|QC<|QKO<|Zi (.cons _ (.cons _ (.cons _ (.cons _ ag)))) ?_
 have hxl:=i.len;obtain⟨⟨rq,rn,rc⟩,hv2,hrn,hrc,hfix⟩:=Q7.fix (w0:=w0) (F0:=F0) (bs1:=_::_::_::_::bs) (G:=_) i.hr;dsimp only at hrn hrc hfix;subst hrn;refine YB hfix ?_;rw[hv2];dsimp only[Sr.v];refine QA (QJ (vs:=[_]) I XF .here .h1 rfl)<|QR (vs:=[_]) I I I XF I .u1 .h1 wS<|QJC<|QW ?_
 exact Y2 ((⟨rq,i.i,rc⟩,i.l)) I (.JZ (c:=[_]) I XF .u1 .nil) (rfl) λw h=>h.imp (.cons _ (.cons _ (.cons _ (.cons _ QJZ)))) λF h9=>⟨h9.1.1,by have:=i.box hge (r:=⟨rq,i.i,rc⟩) h9.2 I hrc h9.1.2;unfold VP;rw[hva];exact this⟩
section
variable[Dr][df:Df]{P:Program}{Q:Exit->Act->World->Prop}{N:Nat}{m:Sl}{E:Env}{ops:Array Oper}{l:List Oper}{d:Nat}{ty:TypeId}{pos:String}{aft:Array Edge}
theorem QA3{o:Op}{v:Value}(h:Qt P N m (St E) o ty v)(k:JSI P ops Q l N ((d,v)::m) E)(hnd:(match o with | .defer _=>false | _=>true)=true:=by rfl)(hd:J2 N (some d)=true:=by rfl):JSI P ops Q (⟨some d,o,ty,pos,aft,none⟩::l) N m E:=by
 intro a w ha hw;refine wpListIn_plain rfl λK hK=>?_;refine⟨λf _=>trivial,?_⟩;rw[Oper.semAt_plain bz a.eval _ (λc e=>by have e':o = .defer c:=e;subst e';cases hnd),h a w (some d) pos aft none ha hw];exact hK _ _ (k _ w (ha.put hd v) hw)
theorem jl{id:Nat}(h:JSI P l.toArray Q l N m E):J P (.region id l.toArray false) Q N m E:=λa w ha hw=>wpIn_wide.1 (wpIn_region_lit (h a w ha hw))
end
structure VL where
 b:Nat
 c:Nat
 l:List Yr
instance :Inhabited VL:=⟨⟨0,0,[]⟩⟩
def VL.q(e:VL):List (Rat×Rat):=e.l.map (·.2)
structure VL.In(bs:List (Nat×Obj))(n:Nat)(e:VL):Prop where
 hm:∃rest,(e.b,bT (Xi e.l++rest).toArray 192 (0,0))∈bs
 hl:e.l.length=n
 hc:n<=e.c
def QFd(l:List Tm)(all:List (List (Rat×Rat)))(n:Nat):Prop:=∀t∈l,(t.2.length=all.length/\∀k∈t.2,0<=k/\k<=1000)/\∀v,v<t.2.length->∀i,i<(Qm t.2 v).toNat->QA0 (Ni (W8 t.1 t.2 all n v) (el all v) i) (el all v)
theorem TW(c:Rat)(ks:List Int)(all:List (List (Rat×Rat)))(n i:Nat):W8 c ks all n (i+1)=Ni (W8 c ks all n i) (el all i) (Qm ks i).toNat:=by
 unfold W8;rw[aN,aP];rfl
theorem TG(y b:List (Rat×Rat))(n:Nat):Ni y b (n+1)=VP (Ni y b n) b:=by
 unfold Ni;rw[aN,aP];rfl
structure TsI{ι:Type}(pos:ι->Nat)(n:Nat) where
 i:Nat
 s:ι
 le:i<=n
 hp:pos s=i
structure TsJ(n:Nat) where
 i:Nat
 y:Sr×List Yr
 le:i<=n
theorem zC{B:ι->List (Nat×Obj)}{H:ι->Gs->Prop}{pos:ι->Nat}{p:WR}{b1 b2 b3 b4 L n bv cv:Nat}{e0:VL}{ls:List VL} 
  (hH:∀s F,H s F->(F b1=some (#[p.1.v],87)/\F b2=some (#[.int .i64 (n:Int)],3)/\F b3=some (#[.slice (some ⟨e0.b,0,none⟩) (n+1) e0.c],196)/\F b4=some (#[.slice (some ⟨bv,0,none⟩) ls.length cv],189))/\XN F p.1 p.2 (J3 p.2)/\∀e∈e0::ls,Z9 F e.l) (hPn:p.2.length=p.1.n) (hpl:p.2.length<=1000000) (hn:n<=1000) (hls:ls.length<=1000)
  (hB:∀s,∀e∈e0::ls,e.In (B s) (n+1)) (hV:∀s,(bv,bT (ls.map λe=>.slice (some ⟨e.b,0,none⟩) (n+1) e.c).toArray 196 (0,0))∈B s) (ho:QFd (J3 p.2) ((e0::ls).map VL.q) n)
  (hround:∀(G:Gs->Prop) (C:List (Nat×Obj)) (s:ι) (i:Nat) (y:Sr×List Yr) (W:World),i<p.2.length->pos s=i ->
   St ⟨w0,F0,B s++C,λF=>(G F/\H s F)/\J7 F y.1 y.2 (W8 (el p.2 i).t.1 (el p.2 i).t.2 ((e0::ls).map VL.q) n ((e0::ls).map VL.q).length)⟩ W->YieldAt bz 0 prog L #[.agg #[y.1.v]] W λe W'=>e = .returned (.bool true)/\∃s',pos s'=pos s+1/\St ⟨w0,F0,B s'++C,λF=>G F/\H s' F⟩ W')
  (s0:ι) (h0:pos s0=0) :
  XG prog 300 [.func (.yield L) #[] #[],.pointer (some ⟨b1,0,none⟩),.pointer (some ⟨b2,0,none⟩),.pointer (some ⟨b3,0,none⟩),.pointer (some ⟨b4,0,none⟩)] ⟨w0,F0,B s0,H s0⟩ (λ(_:{ s:ι // pos s=p.2.length })=>.tuple #[]) (λs=>⟨w0,F0,B s.1,H s.1⟩):=by
 have hal:((e0::ls).map VL.q).length=ls.length+1:=wz;refine XG.intro func300 rfl wy rfl rfl<|QKO<|QA (Zq (c:=#[p.1.v]) (T':=87) rfl K4 (λF hs0=>(hH _ _ hs0).1.1) rfl)<|QA (Qg rfl Vs)<|QJD rfl<|QJC<|QV<|JW (ι:=TsI pos p.2.length) [(0,_),(2,_),(3,_),(4,_),(12,_),(13,_)] (λi=>[(14,.int .i64 ((i.i:Nat):Int))]) (λi=>B i.s) (λi F=>H i.s F) (λi=>p.2.length-i.i) (⟨0,s0,aq _,h0⟩) wX wS QJZ w9 λi=>?_
 simp only[aa,ae];have hi:=i.le;refine wA 6 I ?_;refine QO I (λhc=>?_) λhc=>?_
 ·have hlt:i.i<p.2.length:=wk<|QKc hc
  have htm:=Q3 hlt;have htA:(el p.2 i.i).t∈J3 p.2:=ak htm;have ho:=ho _ htA;have hol:=ho.1.1;refine XQ _ (λ_ _ f h=>((hH _ _ h.1).2.1.2.1 _ htm).2.2.1) (λhrl=>QKr 6 I<|QA (Q6 (n:=p.1.n) i.i (λF h9=>(hH _ _ h9.1).2.1.1) rfl rfl Vs Xv O)<|QA (JX (n:=p.1.n) (vs:=[.int .i64 (el p.2 i.i).x.n.s,.slice (el p.2 i.i).x.n.q (el p.2 i.i).x.n.n (el p.2 i.i).x.n.cap,.int .i64 (el p.2 i.i).x.d.s,.slice (el p.2 i.i).x.d.q (el p.2 i.i).x.d.n (el p.2 i.i).x.d.cap,.slice (el p.2 i.i).r.q (el p.2 i.i).r.n (el p.2 i.i).r.cap]) ((i.i)*5) (λF h9=>(hH _ _ h9.1).2.1.1) O rfl Xv I λj v hv=>Jc (f:=WO) (l:=p.2) Bu O hv)<|Qc GI λb7=>QR (vs:=[_,_,_,_,_]) I I I Xv I .here .h5 wW<|QJC<|QKO<|QA (QH I Wx Qa)<|QA (wJ I Qa .here)<|QA (Zq (c:=#[.int .i64 (n:Int)]) (T':=3) rfl JO (λF h9=>(hH _ _ h9.1).1.2.1) rfl)<|QI I (λ_ _ f k=>R6 (x:=(el p.2 i.i).x) (a:=(el p.2 i.i).t.1) (n:=n) f ((hH _ _ k.1).2.1.2.1 _ htm).1 hn) λc21=>Qc WS λb8=>QR (vs:=[_]) I I I XF I .here .h1 wS<|QKq 4 I ?_);refine QB<|QA (QH I V3 Jz)<|QA (Qf I Jz .u1 (.skip (.skip (.skip (.skip .h1)))))<|QA (Qg I JB)<|QKq 4 I<|JW (ι:=TsJ (el p.2 i.i).t.2.length) [(0,_),(2,_),(3,_),(4,_),(8,_),(12,_),(13,_),(14,_),(23,_),(24,_)] (λi2=>[(25,.int .i64 ((i2.i:Nat):Int))]) (λi2=>(b8,.cells [.slice i2.y.1.q i2.y.1.n i2.y.1.cap].toArray 196 (0,0))::(b7,.cells (WO (el p.2 i.i)).toArray 101 (0,0))::B i.s) (λi2 F=>J7 F i2.y.1 i2.y.2 (W8 (el p.2 i.i).t.1 (el p.2 i.i).t.2 ((e0::ls).map VL.q) n i2.i)) (λi2=>(el p.2 i.i).t.2.length-i2.i) (⟨0,c21,aq _⟩) wg wS QJZ tB λi2=>?_
  simp only[aa,ae];have hj:=i2.le;refine wA 6 I ?_;refine QO I (λhc=>?_) λhc=>?_
  ·have hlt2:i2.i<(el p.2 i.i).t.2.length:=wk<|QKc hc
   have hk12:0<=Qm (el p.2 i.i).t.2 i2.i/\Qm (el p.2 i.i).t.2 i2.i<=1000:=by rw[Yy hlt2];exact ho.1.2 _ (Q3 hlt2)
   refine QKr 7 I<|QA (Q6 (n:=(el p.2 i.i).r.n) (i2.i) (λF h9=>(((hH _ _ h9.1.1.1).2.1.2.1 _ htm).2).1) rfl rfl JB JO O)<|QA (JA (n:=(el p.2 i.i).r.n) ((i2.i)*1) (λF h9=>(((hH _ _ h9.1.1.1).2.1.2.1 _ htm).2).1) O rfl JO (J6 (o:=(el p.2 i.i).t.2) O))<|QKq 6 I<|QA (FQ (c:=#[.slice (some ⟨e0.b,0,none⟩) (n+1) e0.c]) (T':=196) (vs:=[_]) I XF (λF h9=>(hH _ _ h9.1.1.1).1.2.2.1) rfl λj v hv=>by rw[aA];simpa using hv)<|Qc WS λb11=>QR (vs:=[_]) I I I XF I .here .h1 ⟨rfl,trivial⟩<|QE<|QC ?_
   refine SV (ι:=VL) [(0,_),(2,_),(3,_),(4,_),(8,_),(10,_),(11,_),(12,_),(13,_),(14,_),(23,_),(24,_),(25,_)] (λxv=>[]) (λxv=>(b11,.cells [.slice (some ⟨xv.b,0,none⟩) (n+1) xv.c].toArray 196 (0,0))::(b8,.cells [.slice i2.y.1.q i2.y.1.n i2.y.1.cap].toArray 196 (0,0))::(b7,.cells (WO (el p.2 i.i)).toArray 101 (0,0))::B i.s) (λxv F=>xv=el (e0::ls) i2.i) ⟨rfl,rfl,rfl,rfl,rfl,rfl,rfl,rfl,rfl,rfl,rfl,rfl,rfl,trivial⟩ ?_ ?_
   ·refine wA 6 I ?_;refine QO I (λhc=>?_) λhc=>?_
    ·have hv0:0<i2.i:=wk<|QKc hc
     refine JK (.cons _ (.cons_cons _ (.cons_cons _ QJZ))) mixed wm<|QK (Zq (c:=#[.slice (some ⟨bv,0,none⟩) ls.length cv]) (T':=189) rfl QA8 (λF h9=>(hH _ _ h9.1.1.1).1.2.2.2) rfl)<|QK (QD I)<|QK (X6 I I O)<|QK (JL (i:=i2.i-1) rfl wM W7 XF O)<|QK (QH I Xg JF) ?_
     obtain⟨fv,hfv⟩:=CS (hV i.s);refine QK (Vz (v:=.slice (some ⟨(el ls (i2.i-1)).b,0,none⟩) (n+1) (el ls (i2.i-1)).c) rfl JF (.there (.there hfv)) (by rw[show 0+(i2.i-1)*1+0=(i2.i-1)*1 by omega];exact Xa (f:=λe:VL=>Value.slice (some ⟨e.b,0,none⟩) (n+1) e.c) (show i2.i-1<ls.length by omega)))<|QK (Zq (c:=#[.int .i64 (n:Int)]) (T':=3) rfl JO (λF h9=>(hH _ _ h9.1.1.1).1.2.1) rfl)<|QK (Qv I I O)<|QK (Nh (n+1) rfl rfl wM JM Qi (hB i.s _ (aX _ (Q3 (show i2.i-1<ls.length by omega)))).hc)<|QK (Qx I yR WS (.cons (vs:=[_]) I I I .h1 .nil))<|JU (vs:=[_]) I I I XF I .here (.cons_cons _ (.cons_cons _ QJZ)) w9 .h1 wS<|Q5 ?_
     exact ZQ (el ls (i2.i-1)) ⟨rfl,rfl,rfl,rfl,rfl,rfl,rfl,rfl,rfl,rfl,rfl,rfl,rfl,trivial⟩ QJZ λF h9=>⟨⟨⟨⟨h9.1.1.1,h9.1.1.2⟩,h9.1.2⟩,h9.2⟩,(by rw[show i2.i=(i2.i-1)+1 by omega];rfl)⟩
    have hv0:¬0<i2.i:=wk<|QKd hc
    refine QN ?_;exact ZQ (e0) ⟨rfl,rfl,rfl,rfl,rfl,rfl,rfl,rfl,rfl,rfl,rfl,rfl,rfl,trivial⟩ QJZ λF h9=>⟨⟨⟨⟨h9.1.1.1,h9.1.1.2⟩,h9.1.2⟩,h9.2⟩,(by rw[show i2.i=0 by omega];rfl)⟩
   intro xv;simp only[aa,ae];refine XQ _ (λ_ _ f h=>h.2) (λhxe=>?_);have hxm:xv∈e0::ls:=by rw[hxe];exact Q3 w6
   have hxi:=hB i.s _ hxm;have hxq:xv.l.map (·.2)=el ((e0::ls).map VL.q) i2.i:=by rw[hxe,Ja (show i2.i<(e0::ls).length by simp;omega),Ja (show i2.i<((e0::ls).map VL.q).length by omega),aM];rfl
   refine wA 7 I<|JW (ι:=TsJ (Qm (el p.2 i.i).t.2 i2.i).toNat) [(0,_),(2,_),(3,_),(4,_),(8,_),(11,_),(12,_),(13,_),(14,_),(23,_),(24,_),(25,_),(43,_)] (λi3=>[(44,.int .i64 ((i3.i:Nat):Int))]) (λi3=>(b11,.cells [.slice (some ⟨xv.b,0,none⟩) (n+1) xv.c].toArray 196 (0,0))::(b8,.cells [.slice i3.y.1.q i3.y.1.n i3.y.1.cap].toArray 196 (0,0))::(b7,.cells (WO (el p.2 i.i)).toArray 101 (0,0))::B i.s) (λi3 F=>J7 F i3.y.1 i3.y.2 (Ni (W8 (el p.2 i.i).t.1 (el p.2 i.i).t.2 ((e0::ls).map VL.q) n i2.i) (el ((e0::ls).map VL.q) i2.i) i3.i)) (λi3=>(Qm (el p.2 i.i).t.2 i2.i).toNat-i3.i) (⟨0,i2.y,aq _⟩) ⟨rfl,rfl,rfl,rfl,rfl,rfl,rfl,rfl,rfl,rfl,rfl,rfl,rfl,trivial⟩ wS QJZ (λ_ h=>h.1.2) λi3=>?_
   simp only[aa,ae];have hk3:=i3.le;refine XQ _ (λ_ _ f h=>au h.2.len h.2.YI) (λh3p=>?_);obtain⟨hyl,hyv⟩:=h3p;have hyn:i3.y.1.n=n+1:=by rw[<-hyv,BL,Kl]
   refine wA 6 I ?_;refine QO I (λhc=>?_) λhc=>?_
   ·have hlt3:i3.i<(Qm (el p.2 i.i).t.2 i2.i).toNat:=wk<|QKc hc
    refine QKr 5 I<|QA (QJ (vs:=[_]) I XF .u1 .h1 rfl)<|QA (QJ (vs:=[_]) I XF .here .h1 rfl)<|XS I (bB _) (dQ (ra:=i3.y.1) (la:=i3.y.2) (va:=Ni (W8 (el p.2 i.i).t.1 (el p.2 i.i).t.2 ((e0::ls).map VL.q) n i2.i) (el ((e0::ls).map VL.q) i2.i) i3.i) (vb:=el ((e0::ls).map VL.q) i2.i) (bb:=xv.b) (nb:=n+1) (cb:=xv.c) (lb:=xv.l) tB ⟨hxi.hm.choose,aX _ (aX _ (aX _ hxi.hm.choose_spec)),hxi.hl⟩ hxq (λF h9=>(hH _ _ h9.1.1.1.1.1).2.2 _ hxm) hyl hyv O O (ho.2 _ hlt2 _ hlt3)) λc48=>QR (vs:=[_]) I I I XF I .u1 .h1 wS<|QE<|Qk<|QC<|QB<|QA (Qv I I O)<|wB 2 I ?_
    exact Ql (⟨i3.i+1,c48,hlt3⟩) (by show(Qm (el p.2 i.i).t.2 i2.i).toNat-(i3.i+1)<(Qm (el p.2 i.i).t.2 i2.i).toNat-i3.i;omega) ⟨rfl,rfl,rfl,rfl,rfl,rfl,rfl,rfl,rfl,rfl,rfl,rfl,rfl,rfl,trivial⟩ QJZ λF ⟨⟨⟨⟨⟨⟨hs0,hs1⟩,h21⟩,hY⟩,hxe_⟩,hZ⟩,h48⟩=>⟨⟨⟨⟨⟨hs0,hs1⟩,h21⟩,hY⟩,hxe_⟩,by show J7 F c48.1 c48.2 (Ni _ _ (i3.i+1));rw[TG];exact h48⟩
   have hge3:i3.i=(Qm (el p.2 i.i).t.2 i2.i).toNat:=wk<|QKd hc
   refine Q2 ?_
   repeat first|refine QY ?_|refine QP wy ?_
   refine QZ<|Qk<|QC<|QB<|QA (Qv I I O)<|wB 2 I ?_
   exact Ql (⟨i2.i+1,i3.y,hlt2⟩) (by show(el p.2 i.i).t.2.length-(i2.i+1)<(el p.2 i.i).t.2.length-i2.i;omega) wi (.cons _ QJZ) λF h9=>⟨⟨⟨h9.1.1.1.1.1,h9.1.1.1.1.2⟩,h9.1.1.1.2⟩,by show J7 F i3.y.1 i3.y.2 (W8 _ _ _ _ (i2.i+1));have e:=h9.2;rw[hge3]at e;rw[TW];exact e⟩
  have hge2:i2.i=(el p.2 i.i).t.2.length:=wk<|QKd hc
  refine Q2 ?_
  repeat first|refine QY ?_|refine QP wy ?_
  refine QZ<|QC<|QG<|jl<|QA3 (QD I)<|QA3 (QJ (vs:=[_]) I XF .here .h1 rfl) ?_
  refine jo (E':=λs':{ s:ι // pos s=pos i.s+1 }=>⟨w0,F0,(b8,.cells [.slice i2.y.1.q i2.y.1.n i2.y.1.cap].toArray 196 (0,0))::(b7,.cells (WO (el p.2 i.i)).toArray 101 (0,0))::B s'.1,λF=>H s0 F/\H s'.1 F⟩) I I (λW hW=>?_) λs53=>?_
  ·obtain⟨fn,tmps,assign,body,e1,e2⟩:=hround (λF=>H s0 F) [(b8,.cells [.slice i2.y.1.q i2.y.1.n i2.y.1.cap].toArray 196 (0,0)),(b7,.cells (WO (el p.2 i.i)).toArray 101 (0,0))] i.s i.i i2.y W hlt i.hp ((hW.perm (ag (l₁:=[_,_]))).DJ λF h=>⟨h.1.1,by have e:=h.2;have e1:i2.i=((e0::ls).map VL.q).length:=hge2.trans hol;rw[e1]at e;exact e⟩);exact⟨fn,tmps,assign,body,e1,e2.mono λe w' ⟨h2,s',h3,h4⟩=>⟨h2,⟨s',h3⟩,h4.perm (ag (l₂:=[_,_]))⟩⟩
  refine QCl (λ⟨a,w,h⟩=>by obtain⟨c,e,_⟩:=h;cases e) rfl<|QA (XJ rfl)<|QE<|QC ?_
  refine QO I (λhc=>?_) λhc=>?_
  ·exact absurd hc wu
  refine QN<|Qk<|QC<|QB<|QA (Qv I I O)<|wB 2 I ?_
  exact Ql (⟨i.i+1,s53.1,hlt,by rw[s53.2,i.hp]⟩) (by show p.2.length-(i.i+1)<p.2.length-i.i;omega) wY (.cons _ (.cons _ QJZ)) w9
 have hge:i.i=p.2.length:=wk<|QKd hc
 refine Q2 ?_
 repeat first|refine QY ?_|refine QP wy ?_
 refine QZ<|Mt ?_
 exact Y2 ((⟨i.s,by rw[i.hp,hge]⟩:{ s:ι // pos s=p.2.length })) I .nil (rfl) λw h=>h.imp QJZ tB
theorem dR{p:WR}{n:Nat}{v1 v2:Value}(hF:Fits F w)(h1:v1.oneCell'=true/\v1.cells=[v1].toArray)(h2:v2.oneCell'=true/\v2.cells=[v2].toArray):
  QT prog 223 [p.1.v,.int .i64 (n:Int),.agg #[v1],v2] w F (λ(c:Nat×Nat×Nat×Nat)=>.func (.func 300) #[] #[.pointer (some ⟨c.1,0,none⟩),.pointer (some ⟨c.2.1,0,none⟩),.pointer (some ⟨c.2.2.1,0,none⟩),.pointer (some ⟨c.2.2.2,0,none⟩)]) (λc F=>F c.1=some (#[p.1.v],87)/\F c.2.1=some (#[.int .i64 (n:Int)],3)/\F c.2.2.1=some (#[v1],196)/\F c.2.2.2=some (#[v2],189)):=by
 refine QT.intro (G:=λF=>True) func223 rfl wy rfl rfl hF w8<|QKO<|Qu rfl (vs:=[_]) rfl λb4=>Qu rfl (vs:=[_]) rfl λb5=>Qu rfl (vs:=[_]) rfl λb6=>Qu (vs:=[v2]) rfl h2.2 λb7=>wQ rfl<|QKO<|Ku (b:=b4) .u3<|Ku (b:=b5) .u2<|Ku (b:=b6) .u1<|Ku (b:=b7) .here<|QA (VC rfl)<|wQ rfl<|QW ?_
 exact QQ ((b4,b5,b6,b7)) I (wN I) (rfl) λF h9=>⟨h9.1.1.1.2,h9.1.1.2,h9.1.2,h9.2⟩
section
variable[Dr]{P:Program}{Q:Exit->Act->World->Prop}{N:Nat}{m:Sl}{w0:World}{F0:Gs}{bs:List (Nat×Obj)}{G:Gs->Prop}
@[reducible] def K6 (Ds:List Nat):Df:=⟨Ds.map λD=>{ target:=.collected D,args:=#[] }⟩
def dfB(Ds:List Nat):List (Nat×Obj):=Ds.map λD=>(D,.deferred (some []))
def vz{ι:Type}(dfs:ι->Df)(N:Nat)(w0:World)(F0:Gs)(M:ι->Sl)(B:ι->List (Nat×Obj))(H:ι->Gs->Prop)(μ:ι->Nat)(i:ι)(a:Act)(w:World):Prop :=
 ∃j,μ j<μ i/\JH (df:=dfs j) N (M j) a/\St ⟨w0,F0,B j,H j⟩ w
theorem Iu(dfs:ι->Df){c:Code}(K:Sl)(M:ι->Sl)(B:ι->List (Nat×Obj))(R:ι->Gs->Prop)(μ:ι->Nat)(i0:ι)(hd:d0=dfs i0)
  (hk:Y8 m K) (hm:Y8 m (M i0)) (hb:(B i0).Sublist bs) (hg:∀F,G F->R i0 F)
  (round:∀i,J (df:=dfs i) P c (Exit.then (vz dfs N w0 F0 (λi=>K++M i) B (λi F=>G F/\R i F) μ i) Q) N (K++M i) ⟨w0,F0,B i,λF=>G F/\R i F⟩):J (df:=d0) P (.loop c) Q N m ⟨w0,F0,bs,G⟩:=by
 subst hd;intro a w ha hw;refine wp_loop_ghost (λn a w=>∃i,μ i=n/\JH (df:=dfs i) N (K++M i) a/\St ⟨w0,F0,B i,λF=>G F/\R i F⟩ w) (μ i0) ⟨i0,rfl,JH.sub (df:=dfs i0) ha (hk.append hm),hw.imp hb λF h=>⟨h,hg F h⟩⟩ ?_;rintro n a w ⟨i,rfl,ha,hw⟩;refine wp_mono (round i a w ha hw) ?_;intro e a' w' h;cases e with
 |normal=>obtain⟨j,h1,h2,h3⟩:=h;exact⟨μ j,h1,j,rfl,h2,h3⟩
 |_=>exact h
theorem I1{dfs:ι->Df}{M:ι->Sl}{B:ι->List (Nat×Obj)}{H:ι->Gs->Prop}{μ:ι->Nat}{i:ι}(j:ι)(hd:d0=dfs j)(hμ:μ j<μ i)
  (hm:Y8 m (M j)) (hb:(B j).Sublist bs) (hg:∀F,G F->H j F):Fin (df:=d0) (Exit.then (vz dfs N w0 F0 M B H μ i) Q) .normal N m ⟨w0,F0,bs,G⟩:=by
 subst hd;exact λa w ha hw=>⟨j,hμ,JH.sub (df:=dfs j) ha hm,hw.imp hb hg⟩
theorem AN{Ds:List Nat}{g:Operand}{ps:Array Tmp}{assign body:Code}{gf:Nat}{lb:Array Value}(B:ι->List (Nat×Obj))(R:ι->Gs->Prop)(Dn:ι->Prop)(hd:d0=K6 Ds)(hg:ev m g=some (.func (.func gf) #[] lb))(he:Enters P gf)
  (hcall:∀(L D:Nat) (r:Loop) (w:World),vi N m ps assign body r->St ⟨w0,F0,(L,.loop r)::(D,.deferred (some []))::bs,G⟩ w ->
   Calls P gf (#[.func (.yield L) #[] #[]]++lb) w λe w'=>(∃v,e = .returned v)/\∃s,Dn s/\St ⟨w0,F0,(L,.loop r)::(D,.deferred (some []))::B s,λF=>G F/\R s F⟩ w')
  (k:∀D s,Dn s->Fin (df:=K6 (D::Ds)) Q .normal N m ⟨w0,F0,(D,.deferred (some []))::B s,λF=>G F/\R s F⟩):J (df:=d0) P (.rangeFunc g ps assign body) Q N m ⟨w0,F0,bs,G⟩:=by
 subst hd;intro a w ha hw;refine(wpIn_wide (n:=0)).1 (wpIn_rangeFunc λfn _=>?_);obtain⟨r,hr⟩:∃r:Loop,r={ state:=.ready,pending:=none,fn,tmps:=a.tmps,params:=ps,assign,body,defers:=w.heap.size }:=⟨_,rfl⟩;have hs1:St ⟨w0,F0,(w.heap.size+1,.loop r)::(w.heap.size,.deferred (some []))::bs,G⟩ ((w.alloc (.deferred (some []))).alloc (.loop r)):=by
  have h1:=hw.alloc (.deferred (some [])) (λc fr e=>by cases e);have h2:=h1.alloc (.loop r) λc fr e=>by cases e
  rwa [World.size_alloc]at h2
 have hd:a.defers=Ds.map λD=>{ target:=.collected D,args:=#[] }:=JH.df (df:=K6 Ds) ha;have hsz:a.tmps.size=N:=JH.size (df:=K6 Ds) (a:=a) ha;have hgt:∀t v,look m t=some v->a.tmps[t]?=some v:=λt v h=>JH.get (df:=K6 Ds) (a:=a) ha t v h;refine⟨w.heap.size+1,[{ target:=.collected w.heap.size,args:=#[] }],(w.alloc (.deferred (some []))).alloc (.loop r),{ target:=.fn (.func gf) lb,args:=#[.func (.yield (w.heap.size+1)) #[] #[]] },(w.alloc (.deferred (some []))).alloc (.loop r),gf,
  #[.func (.yield (w.heap.size+1)) #[] #[]]++lb,(w.alloc (.deferred (some []))).alloc (.loop r),?_,?_,λ_ _=>trivial,?_,λe=>(by cases e),?_⟩
 ·rw[hr];exact run_enterLoop_outer _ _ _ _ _
 ·simp only[resolve,JH.ev (df:=K6 Ds) ha hg];simp[go_sem]
 ·simpa[invoke,go_sem]using he _ _
 refine(callsIn_wide.2 (hcall _ _ r _ ⟨by rw[hr],by rw[hr],by rw[hr],by rw[hr],by rw[hr],⟨by rw[hr];exact hsz,rfl,by rw[hr];exact hgt⟩⟩ hs1)).mono ?_;rintro e w' ⟨⟨v,rfl⟩,s,hdn,hs⟩;have hl:w'.heap[w.heap.size+1]?=some (.loop r):=hs.own .here;refine⟨none,w'.putObj (w.heap.size+1) (.loop { r with state:=.exhausted }),?_,k w.heap.size s hdn _ _ (JH.mk (df:=K6 (w.heap.size::Ds)) (JH.size (df:=K6 Ds) (a:=a) ha) ?_ λt v h=>JH.get (df:=K6 Ds) (a:=a) ha t v h) ?_⟩
 ·rw[run_endLoop hl (by rw[hr];intro e;cases e)];rw[hr]
 ·show _++a.defers=_;rw[hd];rfl
 exact(hs.put (.loop { r with state:=.exhausted }) .here λc fr e=>by cases e).imp (.cons _ QJZ) λ_ h=>h
theorem QCi{c:Code}(h:∀G':Gs->Prop,(∀F,G' F->G F)->J (df:=d0) P c Q N m ⟨w0,F0,bs,G'⟩):J (df:=d0) P c Q N m ⟨w0,F0,bs,G⟩:=h G λ_ h=>h
theorem cK{fn:Func}{R:Ending->World->Prop}(Ds:List Nat){d0:Df}(hd:d0=K6 Ds)(h:Fin (df:=DX) (bodyPost P fn R) .ret N m ⟨w0,F0,bs,G⟩):Fin (df:=d0) (bodyPostM bz 0 P fn R) .ret N m ⟨w0,F0,dfB Ds++bs,G⟩:=by
 subst hd;intro a w ha hw;have hdf:a.defers=Ds.map λD=>{ target:=.collected D,args:=#[] }:=JH.df (df:=K6 Ds) ha;show LeavesInM bz 0 P fn a.tmps R a.defers .returning w;rw[hdf];have:∀(Ds:List Nat) (w:World),St ⟨w0,F0,dfB Ds++bs,G⟩ w->LeavesInM bz 0 P fn a.tmps R (Ds.map λD=>{ target:=.collected D,args:=#[] }) .returning w:=by
  intro Ds
  induction Ds with
  |nil =>
   intro w hw;have h1:=h { tmps:=a.tmps,defers:=[] } w (JH.mk (df:=DX) (JH.size (df:=K6 _) (a:=a) ha) rfl λt v h=>JH.get (df:=K6 _) (a:=a) ha t v h) hw;obtain⟨_,v,h2,h3⟩:=h1;exact⟨v,h2,h3⟩
  |cons D Ds ih =>
   intro w hw;refine⟨λe=>(by cases e),.inl ⟨D,_,rfl,run_takeDeferred (hw.own .here),ih _ ?_⟩⟩;exact(hw.put (.deferred none) .here λc fr e=>by cases e).imp (.cons _ QJZ) λ_ h=>h
 exact this Ds w hw
end
structure VB where
 b:Nat
 c:Nat
 l:List Yr
 rest:List Value
instance :Inhabited VB:=⟨⟨0,0,[],[]⟩⟩
def VB.box(e:VB):Nat×Obj:=(e.b,.cells (Xi e.l++e.rest).toArray 192 (0,0))
def VB.vl(e:VB):VL:=⟨e.b,e.c,e.l⟩
@[reducible] def VB.sl (k:Nat) (e:VB):Value:=.slice (some ⟨e.b,0,none⟩) k e.c
structure VB.Ok(k:Nat)(e:VB):Prop where
 hl:e.l.length=k
 hr:(Xi e.l).length+e.rest.length=e.c*8
 hc:k<=e.c
 hm:e.c<=maxLen
theorem VB.Ok.own{e:VB}(h:e.Ok k):Q7 192 8 (e.sl k) k (Xi e.l) [e.box]:=.some (by rw[GK,h.hl]) h.hr h.hc h.hm
theorem yZ{v:Value}{l:List Yr}{ob:List (Nat×Obj)}(h:Q7 192 8 v k (Xi l) ob)(hk:0<k):∃e:VB,e.l=l/\e.Ok k/\v=e.sl k/\ob=[e.box]:=by
 generalize hcs:Xi l=cs at h;cases h with
 |nil=>exact absurd hk (Nat.lt_irrefl 0)
 |some h1 h2 h3 h4 =>
  rename_i b cap rest;subst hcs;refine⟨⟨b,cap,l,rest⟩,rfl,⟨?_,h2,h3,h4⟩,rfl,rfl⟩;rw[GK]at h1;show l.length=k;omega
theorem yI{vs:List Value}{z v:Value}(h:vs.length=i)(hi:i<n):VF (vs++XY [z] (n-i)) (0+i*1+0) [v] ((vs++[v])++XY [z] (n-(i+1))):=by
 rw[show n-i=(n-(i+1))+1 by omega,XY,aD,show 0+i*1+0=vs.length by omega];exact N6 I
theorem QBb{l:List Yr}{z:List Value}(c:Sp)(x:Rat×Rat)(hz:z.length=8)(h:l.length=i)(hi:i<n):VF (Xi l++XY z (n-i)) (0+i*8) (Xq c) (Xi (l++[(c,x)])++XY z (n-(i+1))):=by
 rw[show n-i=(n-(i+1))+1 by omega,XY,MQ,aD,show 0+i*8=(Xi l).length by rw[GK];omega];exact N6 hz
theorem TA(e:Yr)(l:List Yr):Xi (e::l)=Xq e.1++Xi l:=rfl
theorem FA(l m:List Yr):Xi (l++m)=Xi l++Xi m:=by unfold Xi;rw[aJ]
theorem yJ{l:List Yr}(h:i<l.length)(c:Sp)(x:Rat×Rat):VF (Xi l++rest) (0+i*8) (Xq c) (Xi (l.set i (c,x))++rest):=by
 have e1:l=l.take i++l[i]::l.drop (i+1):=by rw[List.getElem_cons_drop];simp
 have e2:l.set i (c,x)=l.take i++(c,x)::l.drop (i+1):=by rw[List.set_eq_take_append_cons_drop,if_pos h]
 rw[e2]
 conv=>arg 1;rw[e1]
 rw[FA,FA,TA,TA,aD,aD,aD,aD,show 0+i*8=(Xi (l.take i)).length by rw[GK,bD];omega];exact N6 I
theorem QBa{a b:List Value}{u v:Value}(h:a.length=i):VF (a++u::b) (0+i*1+0) [v] ((a++[v])++b):=by
 rw[aD,show 0+i*1+0=a.length by omega];exact N6 (z:=[u]) I
theorem MV(X M Y:List α)(a:α):(a::(X++(M++Y))).Perm (X++(M++a::Y)):=by
 rw[<-aD,<-aD];exact List.perm_middle.symm
theorem Z9.set{l:List Yr}{c:Sp}{x:Rat×Rat}(h:Z9 F l)(k:Jj F c x):Z9 F (l.set i (c,x)):=λe he=>by
 rcases List.mem_or_eq_of_mem_set he with he | rfl
 ·exact h e he
 exact k
theorem vH(t:Rat×Rat):(VK 0 0).set 0 t=ZX t 0:=rfl
theorem ur(t:Rat×Rat){k:Nat}(h:0<k):((VK 0 k).set 0 t).set 1 (((1:Int):Rat),((1:Int):Rat))=ZX t k:=by
 obtain⟨n,rfl⟩:∃n,k=n+1:=⟨k-1,O⟩;rfl
structure AK(rs:List (List Tm))(t:Rat×Rat)(vb:List (Rat×Rat))(n:Nat):Prop where
 tm:∀k,k<n->∀i,i<rs.length->QFd (el rs i) (ZX t k::Jt rs t vb k) k
 mn:∀k,k<n->∀i,i<rs.length->∀u∈el rs i,∀x∈W8 u.1 u.2 (ZX t k::Jt rs t vb k) k (vb.length+1),Xb x 100000000
 sm:∀k,k<n->∀i,i<rs.length->∀j,∀x∈KS ((el rs i).take j) (ZX t k::Jt rs t vb k) k,Xb x 100000000
 cf:∀k,k<n->∀i,i<rs.length->Xb (el (KS (el rs i) (ZX t k::Jt rs t vb k) k) k) 20000000
theorem RN{p:List Tm}{all:List (List (Rat×Rat))}(h:i<p.length):KS (p.take (i+1)) all n=BM (KS (p.take i) all n) (W8 (el p i).1 (el p i).2 all n all.length):=by
 unfold KS;rw[XV h,aP];rfl
structure TaJ(vb:List (Rat×Rat)) where
 i:Nat
 es:List VB
 M:List (Nat×Obj)
 hM:M=es.map VB.box
 le:i<=vb.length
 len:es.length=i
 ok:∀e∈es,e.Ok 1
 hq:es.map (λe=>e.l.map (·.2))=(vb.take i).map λx=>[x]
structure TkJ(rs:List (List Tm))(t:Rat×Rat)(vb:List (Rat×Rat))(n:Nat) where
 k:Nat
 es:List VB
 M:List (Nat×Obj)
 Ds:List Nat
 hM:M=es.map VB.box
 le:k<=n
 len:es.length=vb.length
 ok:∀e∈es,e.Ok (k+1)
 hq:es.map (λe=>e.l.map (·.2))=Jt rs t vb k
def nxQ(rs:List (List Tm))(t:Rat×Rat)(vb:List (Rat×Rat))(k i:Nat):Rat×Rat:=JE (el (KS (el rs i) (ZX t k::Jt rs t vb k) k) k) ((((k+1:Nat):Int):Rat)⁻¹,(((k+1:Nat):Int):Rat)⁻¹)
structure TrJ(f:Nat->Rat×Rat)(n:Nat) where
 i:Nat
 nx:List Yr
 Ds:List Nat
 le:i<=n
 len:nx.length=i
 hv:nx.map (·.2)=(aF i).map f
structure TsS(n:Nat) where
 i:Nat
 y:Sr×List Yr
 le:i<=n
structure TeJ(es:List VB)(k:Nat)(f:Nat->Rat×Rat) where
 i:Nat
 e1:List VB
 M1:List (Nat×Obj)
 M2:List (Nat×Obj)
 hM1:M1=e1.map VB.box
 hM2:M2=(es.drop i).map VB.box
 le:i<=es.length
 len:e1.length=i
 ok:∀e∈e1,e.Ok (k+2)
 hq:e1.map (λe=>e.l.map (·.2))=(aF i).map λj=>(el es j).l.map (·.2)++[f j]
theorem St.QAc:∀(es:List VB) {G:Gs->Prop},St ⟨w0,F0,bs++es.map VB.box,G⟩ w->St ⟨w0,F0,bs,λF=>G F/\∀e∈es,F e.b=some ((Xi e.l++e.rest).toArray,192)⟩ w
 |[],G,h=>by
  have:=h.DJ (G':=λF=>G F/\∀e∈([]:List VB),F e.b=some ((Xi e.l++e.rest).toArray,192)) λF hF=>⟨hF,λ_ h=>by cases h⟩;simpa using this
 |e::es,G,h=>by
  rw[aS]at h;have h1:=St.freeze (pre:=bs) (post:=es.map VB.box) (b:=e.b) h;exact(St.QAc es h1).DJ λF hF=>⟨hF.1.1,λe' he=>by
   rcases List.mem_cons.1 he with rfl | he
   ·exact hF.1.2
   exact hF.2 e' he⟩
section
variable[Dr][df:Df]{P:Program}{Q:Exit->Act->World->Prop}{N:Nat}{m:Sl}{E:Env}
theorem cG{c:Code}(h:J P c (bX Q) N m E):J P (.scope c) Q N m E:=λa w ha hw=>wp_scope_straight (h a w ha hw)
theorem cH{l:Nat}(h:Fin Q .normal N m E):J P (.label l) Q N m E:=λa w ha hw=>wp_label (h a w ha hw)
theorem QCn(h:Fin Q .ret N m E):Fin (bX Q) .ret N m E:=h
end
theorem uL{q:Option Addr}{f:Nat}{l:List Yr}{p:Yr->Bool}(hF:Fits F w)(hg:∀F F',Gs.le F F'->G0 F->G0 F')(h0:G0 F)(hR:Qw F q n 8 (Xi l))(hn:l.length=n)(hb:n<=1000000)(hc:∀e∈l,∀w F,Fits F w->G0 F->Qe prog f (c1++[e.1.v]++c2) w F (.bool (p e))):QT prog 319 [.slice q n c,.func (.func f) c1.toArray c2.toArray] w F (λ(k:Int)=>.int .i64 k) (λk _=>decide (k>=0)=l.any p):=by
 refine QT.intro (G:=λF=>G0 F/\Qw F q n 8 (Xi l)) func319 rfl wy rfl rfl hF (λF' hF'=>⟨hg F F' hF' h0,hR.le hF'⟩)<|QKO<|wQ rfl<|QG<|wR rfl<|QA (Qg rfl JM)<|QJD rfl<|QJC<|QV<|XM (ι:=SF l p) [(0,_),(1,_),(7,_)] (λi=>[(8,.int .i64 ((i.i:Nat):Int))]) (λi=>l.length-i.i) (SF.start _ _) wU wS λi=>?_
 simp only[aa,ae];have hi:=i.le;refine wA 6 I ?_;refine QO I (λhc2=>?_) λhc2=>?_
 ·have hlt:i.i<l.length:=wk<|QKc hc2
  have hem:=Q3 hlt;refine QKr 15 I<|QA (Q6 (n:=n) i.i tB rfl rfl JM Qi O)<|QA (JX (n:=n) (vs:=[.int .i64 (el l i.i).1.lo.n.s,.slice (el l i.i).1.lo.n.q (el l i.i).1.lo.n.n (el l i.i).1.lo.n.cap,.int .i64 (el l i.i).1.lo.d.s,.slice (el l i.i).1.lo.d.q (el l i.i).1.lo.d.n (el l i.i).1.lo.d.cap,.int .i64 (el l i.i).1.hi.n.s,.slice (el l i.i).1.hi.n.q (el l i.i).1.hi.n.n (el l i.i).1.hi.n.cap,.int .i64 (el l i.i).1.hi.d.s,.slice (el l i.i).1.hi.d.q (el l i.i).1.hi.d.n (el l i.i).1.hi.d.cap]) ((i.i)*8) tB O rfl Qi I λj v hv=>Jc (f:=(λe=>Xq e.1)) (l:=l) (λ_=>rfl) O hv)<|Gb (c1:=c1) (c2:=c2) rfl rfl (λw F f k=>hc _ hem w F f k.1) λ_=>QE<|QC ?_
  refine QO I (λhc2=>?_) λhc2=>?_
  ·have hc16:=hc2;refine wA 7 I ?_
   repeat first|refine Q4 ?_|refine Qy ?_
   exact QQ (((i.i:Nat):Int)) I (wN I) (rfl) λF _=>by rw[decide_eq_true O,List.any_eq_true.2 ⟨_,hem,hc16⟩]
  have hc16:=hc2;refine QN<|Qk<|QC<|QB<|QA (Qv I I O)<|wB 2 I ?_
  exact Ql (i.next hlt hc16) (by show l.length-(i.i+1)<l.length-i.i;omega) wV QJZ tA
 have hge:l.length<=i.i:=wk<|QKd hc2
 refine Q2 ?_
 repeat first|refine QY ?_|refine QP wy ?_
 refine QZ<|QKs 7 I ?_
 exact QQ ((-1:Int)) I (wN I) (rfl) λF _=>by rw[Bool.eq_false_iff.2 (i.stop hge)];rfl
theorem vB{q:Option Addr}{f:Nat}{l:List Yr}{p:Yr->Bool}(hF:Fits F w)(hg:∀F F',Gs.le F F'->G0 F->G0 F')(h0:G0 F)(hR:Qw F q n 8 (Xi l))(hn:l.length=n)(hb:n<=1000000)(hc:∀e∈l,∀w F,Fits F w->G0 F->Qe prog f (c1++[e.1.v]++c2) w F (.bool (p e))):Qe prog 270 [.slice q n c,.func (.func f) c1.toArray c2.toArray] w F (.bool (l.any p)):=by
 refine QT.intro (G:=λF=>G0 F/\Qw F q n 8 (Xi l)) func270 rfl wy rfl rfl hF (λF' hF'=>⟨hg F F' hF' h0,hR.le hF'⟩)<|QKO<|wQ rfl<|wR rfl<|QJD rfl<|QI rfl (λ_ _ f k=>uL (p:=p) f hg k.1 k.2 hn hb hc) λc7=>JN _ (λ_ _ f h=>h.2) λh7=>QA (QU rfl rfl rfl)<|wQ rfl<|QW ?_
 exact QKx I I (congrArg ax h7.symm) w8
theorem uM{q:Option Addr}{f:Nat}{l:List (Fr×Rat)}{p:(Fr×Rat)->Bool}(hF:Fits F w)(hg:∀F F',Gs.le F F'->G0 F->G0 F')(h0:G0 F)(hR:Qw F q n 4 (l.flatMap λe=>KV e.1))(hn:l.length=n)(hb:n<=1000000)(hc:∀e∈l,∀w F,Fits F w->G0 F->Qe prog f (c1++[e.1.v]++c2) w F (.bool (p e))):QT prog 209 [.slice q n c,.func (.func f) c1.toArray c2.toArray] w F (λ(k:Int)=>.int .i64 k) (λk _=>decide (k>=0)=l.any p):=by
 refine QT.intro (G:=λF=>G0 F/\Qw F q n 4 (l.flatMap λe=>KV e.1)) func209 rfl wy rfl rfl hF (λF' hF'=>⟨hg F F' hF' h0,hR.le hF'⟩)<|QKO<|wQ rfl<|QG<|wR rfl<|QA (Qg rfl XT)<|QJD rfl<|QJC<|QV<|XM (ι:=SF l p) [(0,_),(1,_),(7,_)] (λi=>[(8,.int .i64 ((i.i:Nat):Int))]) (λi=>l.length-i.i) (SF.start _ _) wU wS λi=>?_
 simp only[aa,ae];have hi:=i.le;refine wA 6 I ?_;refine QO I (λhc2=>?_) λhc2=>?_
 ·have hlt:i.i<l.length:=wk<|QKc hc2
  have hem:=Q3 hlt;refine QKr 15 I<|QA (Q6 (n:=n) i.i tB rfl rfl XT Qa O)<|QA (JX (n:=n) (vs:=[.int .i64 (el l i.i).1.n.s,.slice (el l i.i).1.n.q (el l i.i).1.n.n (el l i.i).1.n.cap,.int .i64 (el l i.i).1.d.s,.slice (el l i.i).1.d.q (el l i.i).1.d.n (el l i.i).1.d.cap]) ((i.i)*4) tB O rfl Qa I λj v hv=>Jc (f:=(λe=>KV e.1)) (l:=l) (λ_=>rfl) O hv)<|Gb (c1:=c1) (c2:=c2) rfl rfl (λw F f k=>hc _ hem w F f k.1) λ_=>QE<|QC ?_
  refine QO I (λhc2=>?_) λhc2=>?_
  ·have hc16:=hc2;refine wA 7 I ?_
   repeat first|refine Q4 ?_|refine Qy ?_
   exact QQ (((i.i:Nat):Int)) I (wN I) (rfl) λF _=>by rw[decide_eq_true O,List.any_eq_true.2 ⟨_,hem,hc16⟩]
  have hc16:=hc2;refine QN<|Qk<|QC<|QB<|QA (Qv I I O)<|wB 2 I ?_
  exact Ql (i.next hlt hc16) (by show l.length-(i.i+1)<l.length-i.i;omega) wV QJZ tA
 have hge:l.length<=i.i:=wk<|QKd hc2
 refine Q2 ?_
 repeat first|refine QY ?_|refine QP wy ?_
 refine QZ<|QKs 7 I ?_
 exact QQ ((-1:Int)) I (wN I) (rfl) λF _=>by rw[Bool.eq_false_iff.2 (i.stop hge)];rfl
theorem Cy{q:Option Addr}{f:Nat}{l:List (Fr×Rat)}{p:(Fr×Rat)->Bool}(hF:Fits F w)(hg:∀F F',Gs.le F F'->G0 F->G0 F')(h0:G0 F)(hR:Qw F q n 4 (l.flatMap λe=>KV e.1))(hn:l.length=n)(hb:n<=1000000)(hc:∀e∈l,∀w F,Fits F w->G0 F->Qe prog f (c1++[e.1.v]++c2) w F (.bool (p e))):Qe prog 95 [.slice q n c,.func (.func f) c1.toArray c2.toArray] w F (.bool (l.any p)):=by
 refine QT.intro (G:=λF=>G0 F/\Qw F q n 4 (l.flatMap λe=>KV e.1)) func95 rfl wy rfl rfl hF (λF' hF'=>⟨hg F F' hF' h0,hR.le hF'⟩)<|QKO<|wQ rfl<|wR rfl<|QJD rfl<|QI rfl (λ_ _ f k=>uM (p:=p) f hg k.1 k.2 hn hb hc) λc7=>JN _ (λ_ _ f h=>h.2) λh7=>QA (QU rfl rfl rfl)<|wQ rfl<|QW ?_
 exact QKx I I (congrArg ax h7.symm) w8
def EU(c:Nat):Bool:=Yk c||(decide (48<=c)&&decide (c<=57))||c==95||c==39||c==35
def nmS(s:List UInt8):Bool:=s.all (λc=>EU c.toNat)&&decide (1<=s.length)&&decide (s.length<=32)
theorem Fg(h:128<=c):EU c=false:=by
 unfold EU Yk;simp;omega
def nsV(o:Option (Nat×Nat))(p:Nat):Value:=match o with
 |none=>.tuple #[.bool false]
 |some (c,_)=>.tuple #[.bool true,.int .i64 p,.int .i32 c]
theorem QEn(o:Option (Nat×Nat))(p:Nat):∃vs,nsV o p = .tuple vs/\vs[0]?=some (.bool o.isSome):=by
 cases o with
 |none=>exact⟨_,rfl,rfl⟩
 |some x=>exact⟨_,rfl,rfl⟩
def nsW(o:Option (Nat×Nat)):Nat:=match o with | none=>0 | some (_,w)=>w
def nsP(s:List UInt8)(p:Nat)(o:Option (Nat×Nat)):Prop:=match o with
 |none=>s.length<=p
 |some (c,wd)=>∃hi:p<s.length,(s[p].toNat<128/\c=s[p].toNat/\wd=1)\/(128<=s[p].toNat/\128<=c)
section
variable{P:Program}{Q:Exit->Act->World->Prop}{N:Nat}{m:Sl}{ops:Array Oper}{l:List Oper}{w0:World}{F0:Gs}{bs:List (Nat×Obj)}{G:Gs->Prop}{d:Nat}{ty:TypeId}{pos:String}{aft:Array Edge}
theorem Ix{x:Operand}{b p:Nat}{f:Obj->List (Nat×Obj)}(hx:ev m x=some (.pointer (some ⟨b,0,none⟩)))(ho:Own bs b (.stringIter ⟨s.toArray⟩ p) f)
  (k:∀o,nsP s p o->JS P ops Q l N ((d,nsV o p)::m) ⟨w0,F0,f (.stringIter ⟨s.toArray⟩ (p+nsW o)),G⟩) (hd:J2 N (some d)=true:=by rfl) :
  JS P ops Q (⟨some d,.next x true,ty,pos,aft,none⟩::l) N m ⟨w0,F0,bs,G⟩:=by
 rcases bA p s.length with hi | hi
 ·obtain⟨c,wd,hdec,hcase⟩:=jP hi;exact Om hx ho hi hdec (k (some (c,wd)) ⟨hi,hcase⟩) hd
 have h:=k none hi;refine Oq hx ho hi ?_ hd;obtain⟨pre,post,e1,e2⟩:=ho.split;rw[e2]at h;rw[e1];exact h
end
theorem uT(hF:Fits F w)(hl:s.length<=9223372036854775807):Qe prog 170 [tx s] w F (.bool (nmS s)):=by
 refine QT.intro (G:=λF=>True) func170 rfl wy rfl rfl hF w8<|QKO<|wQ rfl<|QG<|wR rfl<|Iv rfl Zo λb7=>QJC<|QV<|JW (ι:=Bj s λc=>EU c.toNat) [(0,_),(7,_)] (λi=>[]) (λi=>[(b7,.stringIter ⟨s.toArray⟩ i.i)]) (λi F=>True) (λi=>s.length-i.i) (Bj.start _ _) wT trivial QJZ w8 λi=>?_
 simp only[aa,ae];have hle:=i.le;refine QKO<|Ix (s:=s) (p:=i.i) rfl .here λo ho=>?_
 obtain⟨nv,hnv,hn0⟩:=QEn o i.i;refine QA (v:=.bool o.isSome) (QX (vs:=nv) (by rw[<-hnv];rfl) hn0)<|QJC<|QG ?_
 refine QO I (λhc=>?_) λhc=>?_
 ·obtain⟨⟨c,wd⟩,rfl⟩:∃x,o=some x:=by
   cases o with
   |none=>cases hc
   |some x=>exact⟨x,rfl⟩
  obtain⟨hi,hcase⟩:=ho;refine QKr 9 I ?_;refine YS [(0,_),(4,_),(7,_)] [(5,.bool ((Yk c||(decide (48<=c)&&decide (c<=57)))))] wU ?_ ?_
  ·refine wA 4 I ?_;refine Qs (t:=13) rfl (λhb13=>?_) λhb13=>?_
   ·refine wB 6 I ?_;refine Qs (t:=17) rfl (λhb17=>?_) λhb17=>?_
    ·refine wB 3 I<|J0 I I<|J0 I I<|wB 6 I<|J0 I I<|J0 I I<|wB 4 I ?_
     exact Jg ⟨rfl,rfl,rfl,(congrArg (λb=>some (ax b)) (by rw[ar];simp_all [Yk]<;>omega)),trivial⟩ QJZ w9
    refine wB 6 I ?_;refine Qs (t:=20) rfl (λhb20=>?_) λhb20=>?_
    ·refine wB 8 I ?_;refine Qs (t:=25) rfl (λhb25=>?_) λhb25=>?_
     ·refine wB 3 I<|J0 I I<|J0 I I<|wB 4 I ?_
      exact Jg ⟨rfl,rfl,rfl,(congrArg (λb=>some (ax b)) (by rw[ar];simp_all [Yk]<;>omega)),trivial⟩ QJZ w9
     refine wB 6 I ?_;refine Qs (t:=28) rfl (λhb28=>?_) λhb28=>?_
     ·refine wB 9 I ?_;exact Jg ⟨rfl,rfl,rfl,(congrArg (λb=>some (ax b)) (by rw[ar];simp_all [Yk]<;>omega)),trivial⟩ QJZ w9
     refine wB 7 I ?_;exact Jg ⟨rfl,rfl,rfl,(congrArg (λb=>some (ax b)) (by rw[ar];simp_all [Yk]<;>omega)),trivial⟩ QJZ w9
    refine wB 12 I ?_;refine Qs (t:=28) rfl (λhb28=>?_) λhb28=>?_
    ·refine wB 9 I ?_;exact Jg ⟨rfl,rfl,rfl,(congrArg (λb=>some (ax b)) (by rw[ar];simp_all [Yk]<;>omega)),trivial⟩ QJZ w9
    refine wB 7 I ?_;exact Jg ⟨rfl,rfl,rfl,(congrArg (λb=>some (ax b)) (by rw[ar];simp_all [Yk]<;>omega)),trivial⟩ QJZ w9
   refine wB 10 I ?_;refine Qs (t:=20) rfl (λhb20=>?_) λhb20=>?_
   ·refine wB 8 I ?_;refine Qs (t:=25) rfl (λhb25=>?_) λhb25=>?_
    ·refine wB 3 I<|J0 I I<|J0 I I<|wB 4 I ?_
     exact Jg ⟨rfl,rfl,rfl,(congrArg (λb=>some (ax b)) (by rw[ar];simp_all [Yk]<;>omega)),trivial⟩ QJZ w9
    refine wB 6 I ?_;refine Qs (t:=28) rfl (λhb28=>?_) λhb28=>?_
    ·refine wB 9 I ?_;exact Jg ⟨rfl,rfl,rfl,(congrArg (λb=>some (ax b)) (by rw[ar];simp_all [Yk]<;>omega)),trivial⟩ QJZ w9
    refine wB 7 I ?_;exact Jg ⟨rfl,rfl,rfl,(congrArg (λb=>some (ax b)) (by rw[ar];simp_all [Yk]<;>omega)),trivial⟩ QJZ w9
   refine wB 12 I ?_;refine Qs (t:=28) rfl (λhb28=>?_) λhb28=>?_
   ·refine wB 9 I ?_;exact Jg ⟨rfl,rfl,rfl,(congrArg (λb=>some (ax b)) (by rw[ar];simp_all [Yk]<;>omega)),trivial⟩ QJZ w9
   refine wB 7 I ?_;exact Jg ⟨rfl,rfl,rfl,(congrArg (λb=>some (ax b)) (by rw[ar];simp_all [Yk]<;>omega)),trivial⟩ QJZ w9
  simp only[aa,ae];refine YS [(0,_),(7,_)] [(46,.bool ((!EU c)))] wT ?_ ?_
  ·refine wA 2 I<|QA (XJ I)<|QJD I ?_
   refine Qs (t:=35) rfl (λhb35=>?_) λhb35=>?_
   ·refine wB 6 I ?_;refine Qs (t:=39) rfl (λhb39=>?_) λhb39=>?_
    ·refine wB 6 I ?_;refine Qs (t:=43) rfl (λhb43=>?_) λhb43=>?_
     ·refine wB 6 I ?_;exact Jg ⟨rfl,rfl,(congrArg (λb=>some (ax b)) (by clear hcase;rw[ar];cases hL:Yk c<;>simp_all [EU]<;>omega)),trivial⟩ QJZ w9
     refine wB 4 I ?_;exact Jg ⟨rfl,rfl,(congrArg (λb=>some (ax b)) (by clear hcase;rw[ar];cases hL:Yk c<;>simp_all [EU]<;>omega)),trivial⟩ QJZ w9
    refine wB 8 I ?_;exact Jg ⟨rfl,rfl,(congrArg (λb=>some (ax b)) (by clear hcase;rw[ar];cases hL:Yk c<;>simp_all [EU]<;>omega)),trivial⟩ QJZ w9
   refine wB 12 I ?_;exact Jg ⟨rfl,rfl,(congrArg (λb=>some (ax b)) (by clear hcase;rw[ar];cases hL:Yk c<;>simp_all [EU]<;>omega)),trivial⟩ QJZ w9
  simp only[aa,ae];refine QO I (λhc=>?_) λhc=>?_
  ·have hbad:EU (el s i.i).toNat=false:=by
    rw[Ja hi];rcases hcase with ⟨_,h2,_⟩ | ⟨h2,_⟩
    ·rw[<-h2];simpa using hc
    exact Fg h2
   refine wA 6 I ?_
   repeat first|refine Q4 ?_|refine Qy ?_
   exact QKx I I (congrArg ax (by unfold nmS;rw[i.hit hi hbad];rfl)) w8
  have hcg0:EU c=true:=by simpa using hc
  have hasc:s[i.i].toNat<128/\c=s[i.i].toNat/\wd=1:=by
   rcases hcase with h | ⟨_,h2⟩
   ·exact h
   rw[Fg h2]at hcg0;cases hcg0
  have hwd:wd=1:=hasc.2.2;have hcg:EU (el s i.i).toNat=true:=by rw[Ja hi,<-hasc.2.1];exact hcg0
  refine QN<|Qk ?_
  exact Ql (i.next hi hcg) (by show s.length-(i.i+1)<s.length-i.i;omega) wT ((by rw[show nsW (some (c,wd))=1 from hwd];exact aR _)) λF h=>⟨h.1,trivial⟩
 obtain rfl:o=none:=by
  cases o with
  |none=>rfl
  |some x=>cases hc
 have hge:s.length<=i.i:=ho;refine Q2 ?_
 repeat first|refine QY ?_|refine QP wy ?_
 refine QZ<|QC<|wR I<|QA (X7 I Zo)<|wB 2 I ?_
 refine Qs (t:=50) rfl (λhb50=>?_) λhb50=>?_
 ·refine wB 3 I<|QA (X7 I Zo)<|QKq 7 I ?_
  exact QKx I I (congrArg ax (by unfold nmS;rw[i.stop hge];rw[ar];simp at *;simp_all<;>omega)) w8
 refine QKq 8 I ?_;exact QKx I I (congrArg ax (by unfold nmS;rw[i.stop hge];rw[ar];simp at *;simp_all<;>omega)) w8
structure ZR where
 nm:Sr
 nl:List (List UInt8)
 rt:Sr
 rl:List AX
 st:Sr
 sl:List (List UInt8×List UInt8)
variable{y:ZR}
@[reducible] def ZR.v (y:ZR):Value:=.agg #[.slice y.nm.q y.nm.n y.nm.cap,.slice y.rt.q y.rt.n y.rt.cap,.slice y.st.q y.st.n y.st.cap]
structure ZZ(F:Gs)(y:ZR):Prop where
 nm:Qw F y.nm.q y.nm.n 1 (y.nl.map tx)
 rt:Qw F y.rt.q y.rt.n 1 (y.rl.map λe=>e.1.v)
 pl:I3 F y.rl
 st:Qw F y.st.q y.st.n 2 (y.sl.flatMap UH)
 gI:y.nl.length=y.nm.n
 VI:y.rl.length=y.rt.n
 Sb:y.sl.length=y.st.n
theorem ZZ.le(h:ZZ F y)(k:Gs.le F F'):ZZ F' y:=⟨h.nm.le k,h.rt.le k,h.pl.le k,h.st.le k,h.gI,h.VI,h.Sb⟩
structure HM(y:ZR):Prop where
 nn:y.nm.n<=1000000
 nc:y.nm.n<=y.nm.cap
 nt:∀s∈y.nl,s.length<=9223372036854775807
 rn:y.rt.n<=1000000
 tm:∀e∈y.rl,AL e
 sn:y.st.n<=1000000
 st:∀s∈y.sl,s.1.length<=1000000/\s.2.length<=1000000
def EV(nl:List (List UInt8))(i:Nat):Int:=Qp [if(!nmS (el nl i))=true then 8 else 0,if decide (el nl i∈nl.take i)=true then 9 else 0]
def Dt(nl:List (List UInt8)):Int:=Qp ((aF nl.length).map (EV nl))
def DF(nl:List (List UInt8))(rl:List Pt)(sl:List (List UInt8×List UInt8)):Int :=
 if nl.length=0 then 12 else if nl.length>24 then 5 else if rl.length≠nl.length\/sl.length≠nl.length then 2 else
  Qp [Dt nl,Qp (rl.map λp=>Zp p nl.length),Qp (sl.map λs=>Xc s.1 s.2)]
def ZR.e(y:ZR):Int:=DF y.nl (y.rl.map λe=>YQ e.2) y.sl
theorem ZS{l:List Int}:Qp (0::l)=Qp l:=by simp[Qp]
theorem Zg{x:Int}{l:List Int}(h:x≠0):Qp (x::l)=x:=by simp[Qp,h]
theorem Bv{b:Bool}{e:Int}(hF:Fits F w):Qe prog 72 [.bool b,.int .i64 e] w F (.int .i64 (if b=true then e else 0)):=by
 refine QT.intro (G:=λF=>True) func72 rfl wy rfl rfl hF w8<|QKO<|wQ rfl<|QG<|wR rfl<|QE<|QC ?_
 refine QO I (λhc=>?_) λhc=>?_
 ·refine wA 7 I ?_;exact QKx I I (congrArg (ai .i64) (by rw[if_pos hc])) w8
 refine QKr 8 I ?_;exact QKx I I (congrArg (ai .i64) (by rw[if_neg (by rw[hc];decide)])) w8
theorem Bt{b:Bool}{e:Int}(hF:Fits F w):Qe prog 215 [.bool b,.int .i64 e] w F (.int .i64 (if b=true then e else 0)):=by
 refine QT.intro (G:=λF=>True) func215 rfl wy rfl rfl hF w8<|QKO<|wQ rfl<|QG<|wR rfl<|QE<|QC ?_
 refine QO I (λhc=>?_) λhc=>?_
 ·refine wA 7 I ?_;exact QKx I I (congrArg (ai .i64) (by rw[if_pos hc])) w8
 refine QKr 8 I ?_;exact QKx I I (congrArg (ai .i64) (by rw[if_neg (by rw[hc];decide)])) w8
theorem Eh{q:Option Addr}{l:List Int}(hF:Fits F w)(hR:Qw F q n 1 (l.map Jn))(hn:n<=1000000000):Qe prog 69 [.slice q n c] w F (.int .i64 (Qp l)):=by
 have hln:l.length=n:=by have:=hR.1;simpa using this
 have hmap:Qp l=Qp (l.map id):=by rw[bW]
 refine QT.intro (G:=λF=>Qw F q n 1 (l.map Jn)) func69 rfl wy rfl rfl hF (λF' hF'=>hR.le hF')<|QKO<|wQ rfl<|QG<|wR rfl<|QA (Qg rfl ZL)<|QJD rfl<|QJC<|QV<|XM (ι:=ZK l id) [(5,_),(6,_)] (λi=>[(7,.int .i64 ((i.i:Nat):Int))]) (λi=>l.length-i.i) (ZK.start _ _) wT wS λi=>?_
 simp only[aa,ae];have hi:=i.le;refine wA 6 I ?_;refine QO I (λhc=>?_) λhc=>?_
 ·have hlt:i.i<l.length:=wk<|QKc hc
  refine QKr 6 I<|QA (Q6 (n:=n) i.i w9 rfl rfl ZL YT O)<|QA (JA (n:=n) ((i.i)*1) w9 O rfl YT (Xa (f:=Jn) (l:=l) O))<|QKq 9 I ?_
  refine QO I (λhc=>?_) λhc=>?_
  ·have h12:id (el l i.i)≠0:=bne_iff_ne.1 hc;refine wA 7 I ?_
   repeat first|refine Q4 ?_|refine Qy ?_
   exact QKx I I (congrArg (ai .i64) (hmap ▸ i.hit hlt h12)) w8
  have h12:id (el l i.i)=0:=bne_eq_false_iff_eq.1 hc;refine QN<|Qk<|QC<|QB<|QA (Qv I I O)<|wB 2 I ?_
  exact Ql (i.next hlt h12) (by show l.length-(i.i+1)<l.length-i.i;omega) wU QJZ w9
 have hge:l.length<=i.i:=wk<|QKd hc
 refine Q2 ?_
 repeat first|refine QY ?_|refine QP wy ?_
 refine QZ<|QKs 7 I ?_
 exact QKx I I (congrArg (ai .i64) (hmap ▸ i.stop hge)) w8
theorem YO{q:Option Addr}{l:List Int}(hF:Fits F w)(hR:Qw F q n 1 (l.map Jn))(hn:n<=1000000000):Qe prog 101 [.slice q n c] w F (.int .i64 (Qp l)):=by
 have hln:l.length=n:=by have:=hR.1;simpa using this
 have hmap:Qp l=Qp (l.map id):=by rw[bW]
 refine QT.intro (G:=λF=>Qw F q n 1 (l.map Jn)) func101 rfl wy rfl rfl hF (λF' hF'=>hR.le hF')<|QKO<|wQ rfl<|QG<|wR rfl<|QA (Qg rfl ZL)<|QJD rfl<|QJC<|QV<|XM (ι:=ZK l id) [(5,_),(6,_)] (λi=>[(7,.int .i64 ((i.i:Nat):Int))]) (λi=>l.length-i.i) (ZK.start _ _) wT wS λi=>?_
 simp only[aa,ae];have hi:=i.le;refine wA 6 I ?_;refine QO I (λhc=>?_) λhc=>?_
 ·have hlt:i.i<l.length:=wk<|QKc hc
  refine QKr 6 I<|QA (Q6 (n:=n) i.i w9 rfl rfl ZL YT O)<|QA (JA (n:=n) ((i.i)*1) w9 O rfl YT (Xa (f:=Jn) (l:=l) O))<|QKq 9 I ?_
  refine QO I (λhc=>?_) λhc=>?_
  ·have h12:id (el l i.i)≠0:=bne_iff_ne.1 hc;refine wA 7 I ?_
   repeat first|refine Q4 ?_|refine Qy ?_
   exact QKx I I (congrArg (ai .i64) (hmap ▸ i.hit hlt h12)) w8
  have h12:id (el l i.i)=0:=bne_eq_false_iff_eq.1 hc;refine QN<|Qk<|QC<|QB<|QA (Qv I I O)<|wB 2 I ?_
  exact Ql (i.next hlt h12) (by show l.length-(i.i+1)<l.length-i.i;omega) wU QJZ w9
 have hge:l.length<=i.i:=wk<|QKd hc
 refine Q2 ?_
 repeat first|refine QY ?_|refine QP wy ?_
 refine QZ<|QKs 7 I ?_
 exact QKx I I (congrArg (ai .i64) (hmap ▸ i.stop hge)) w8
theorem IH{q:Option Addr}{f:Nat}{ls:List AX}{fE:AX->Int}(hF:Fits F w)(hg:∀F F',Gs.le F F'->G0 F->G0 F')(h0:G0 F)(hR:Qw F q n 1 (ls.map λe=>e.1.v))(hn:ls.length=n)(hb:n<=1000000)(hc:∀e∈ls,∀w F,Fits F w->G0 F->Qe prog f (c1++[e.1.v]++c2) w F (.int .i64 (fE e))):
  Qe prog 211 [.slice q n c,.func (.func f) c1.toArray c2.toArray] w F (.int .i64 (Qp (ls.map fE))):=by
 refine QT.intro (G:=λF=>G0 F/\Qw F q n 1 (ls.map λe=>e.1.v)) func211 rfl wy rfl rfl hF (λF' hF'=>⟨hg F F' hF' h0,hR.le hF'⟩)<|QKO<|wQ rfl<|QG<|wR rfl<|QA (Qg rfl DC)<|QJD rfl<|QJC<|QV<|XM (ι:=ZK ls fE) [(1,_),(8,_),(9,_)] (λi=>[(10,.int .i64 ((i.i:Nat):Int))]) (λi=>ls.length-i.i) (ZK.start _ _) wU wS λi=>?_
 simp only[aa,ae];have hi:=i.le;refine wA 6 I ?_;refine QO I (λhc2=>?_) λhc2=>?_
 ·have hlt:i.i<ls.length:=wk<|QKc hc2
  have hem:=Q3 hlt;refine QKr 6 I<|QA (Q6 (n:=n) i.i tB rfl rfl DC D4 O)<|QA (JA (n:=n) ((i.i)*1) tB O rfl D4 (Xa (f:=λe:AX=>e.1.v) (l:=ls) O))<|QKq 7 I<|Gb (c1:=c1) (c2:=c2) rfl rfl (λw F f k=>hc _ hem w F f k.1) λ_=>QKq 9 I ?_
  refine QO I (λhc2=>?_) λhc2=>?_
  ·have h18:=bne_iff_ne.1 hc2;refine wA 7 I ?_
   repeat first|refine Q4 ?_|refine Qy ?_
   exact QKx I I (congrArg (ai .i64) (i.hit hlt h18)) w8
  have h18:=bne_eq_false_iff_eq.1 hc2;refine QN<|Qk<|QC<|QB<|QA (Qv I I O)<|wB 2 I ?_
  exact Ql (i.next hlt h18) (by show ls.length-(i.i+1)<ls.length-i.i;omega) wV QJZ tA
 have hge:ls.length<=i.i:=wk<|QKd hc2
 refine Q2 ?_
 repeat first|refine QY ?_|refine QP wy ?_
 refine QZ<|QKs 7 I ?_
 exact QKx I I (congrArg (ai .i64) (i.stop hge)) w8
theorem IG{q:Option Addr}{f:Nat}{ls:List (List UInt8×List UInt8)}{fE:List UInt8×List UInt8->Int}(hF:Fits F w)(hg:∀F F',Gs.le F F'->G0 F->G0 F')(h0:G0 F)(hR:Qw F q n 2 (ls.flatMap UH))(hn:ls.length=n)(hb:n<=1000000)(hc:∀e∈ls,∀w F,Fits F w->G0 F->Qe prog f (c1++[.agg #[tx e.1,tx e.2]]++c2) w F (.int .i64 (fE e))):
  Qe prog 213 [.slice q n c,.func (.func f) c1.toArray c2.toArray] w F (.int .i64 (Qp (ls.map fE))):=by
 refine QT.intro (G:=λF=>G0 F/\Qw F q n 2 (ls.flatMap UH)) func213 rfl wy rfl rfl hF (λF' hF'=>⟨hg F F' hF' h0,hR.le hF'⟩)<|QKO<|wQ rfl<|QG<|wR rfl<|QA (Qg rfl XW)<|QJD rfl<|QJC<|QV<|XM (ι:=ZK ls fE) [(1,_),(8,_),(9,_)] (λi=>[(10,.int .i64 ((i.i:Nat):Int))]) (λi=>ls.length-i.i) (ZK.start _ _) wU wS λi=>?_
 simp only[aa,ae];have hi:=i.le;refine wA 6 I ?_;refine QO I (λhc2=>?_) λhc2=>?_
 ·have hlt:i.i<ls.length:=wk<|QKc hc2
  have hem:=Q3 hlt;refine QKr 6 I<|QA (Q6 (n:=n) i.i tB rfl rfl XW J1 O)<|QA (JX (n:=n) (vs:=[tx (el ls i.i).1,tx (el ls i.i).2]) ((i.i)*2) tB O rfl J1 I λj v hv=>Jc (f:=UH) (l:=ls) Gn O hv)<|Qc Xh λb6=>QR (vs:=[_,_]) I I I J1 I .here .h2 wT<|QKq 5 I<|QA (wH I J1 .here)<|Gb (c1:=c1) (c2:=c2) rfl rfl (λw F f k=>hc _ hem w F f k.1) λ_=>QKq 8 I ?_
  refine QC ?_;refine QO I (λhc2=>?_) λhc2=>?_
  ·have h18:=bne_iff_ne.1 hc2;refine wA 7 I ?_
   repeat first|refine Q4 ?_|refine Qy ?_
   exact QKx I I (congrArg (ai .i64) (i.hit hlt h18)) w8
  have h18:=bne_eq_false_iff_eq.1 hc2;refine QN<|Qk<|QC<|QB<|QA (Qv I I O)<|wB 2 I ?_
  exact Ql (i.next hlt h18) (by show ls.length-(i.i+1)<ls.length-i.i;omega) wV (tD) tA
 have hge:ls.length<=i.i:=wk<|QKd hc2
 refine Q2 ?_
 repeat first|refine QY ?_|refine QP wy ?_
 refine QZ<|QKs 7 I ?_
 exact QKx I I (congrArg (ai .i64) (i.stop hge)) w8
structure NoI(l:List (List UInt8))(v:List UInt8) where
 i:Nat
 le:i<=l.length
 h:∀j,j<i->¬el l j=v
theorem NoI.stop{l:List (List UInt8)}{v:List UInt8}(s:NoI l v)(h:l.length<=s.i):¬v∈l:=λhm=>by
 obtain⟨j,hj,e⟩:=bQ hm;exact s.h j O (by rw[Ja hj];exact e)
theorem kN{q:Option Addr}{l:List (List UInt8)}{v:List UInt8}(hF:Fits F w)(hR:Qw F q n 1 (l.map tx))(hn:l.length=n)(hb:n<=1000000000):QT prog 261 [.slice q n c,tx v] w F (λ(k:Int)=>.int .i64 k) (λk _=>decide (k>=0)=decide (v∈l)):=by
 refine QT.intro (G:=λF=>Qw F q n 1 (l.map tx)) func261 rfl wy rfl rfl hF (λF' hF'=>hR.le hF')<|QKO<|wQ rfl<|QG<|wR rfl<|QA (Qg rfl Kx)<|QJD rfl<|QJC<|QV<|XM (ι:=NoI l v) [(0,_),(1,_),(7,_)] (λi=>[(8,.int .i64 ((i.i:Nat):Int))]) (λi=>l.length-i.i) (⟨0,aq _,λj h=>absurd h (bh _)⟩) wU wS λi=>?_
 simp only[aa,ae];have hi:=i.le;refine wA 6 I ?_;refine QO I (λhc=>?_) λhc=>?_
 ·have hlt:i.i<l.length:=wk<|QKc hc
  refine QKr 15 I<|QA (Q6 (n:=n) i.i w9 rfl rfl Kx Dk O)<|QA (JA (n:=n) ((i.i)*1) w9 O rfl Dk (Xa (f:=tx) (l:=l) O))<|QA (VD I I)<|QE<|QC ?_
  refine QO I (λhc=>?_) λhc=>?_
  ·have h16:v=el l i.i:=by simpa using hc
   have hm:v∈l:=by rw[h16];exact Q3 hlt
   refine wA 7 I ?_
   repeat first|refine Q4 ?_|refine Qy ?_
   exact QQ (((i.i:Nat):Int)) I (wN I) (rfl) λF hR=>by simp[hm]
  have h16:¬v=el l i.i:=by simpa using hc
  refine QN<|Qk<|QC<|QB<|QA (Qv I I O)<|wB 2 I ?_
  exact Ql (⟨i.i+1,hlt,λj hj=>by rcases Nat.lt_succ_iff_lt_or_eq.1 hj with h | rfl;exact i.h j h;exact λe=>h16 e.symm⟩) (by show l.length-(i.i+1)<l.length-i.i;omega) wV QJZ w9
 have hge:l.length<=i.i:=wk<|QKd hc
 refine Q2 ?_
 repeat first|refine QY ?_|refine QP wy ?_
 refine QZ<|QKs 7 I ?_
 exact QQ ((-1:Int)) I (wN I) (rfl) λF hR=>by simp[i.stop hge]
theorem IY{q:Option Addr}{l:List (List UInt8)}{v:List UInt8}(hF:Fits F w)(hR:Qw F q n 1 (l.map tx))(hn:l.length=n)(hb:n<=1000000000):Qe prog 171 [.slice q n c,tx v] w F (.bool (decide (v∈l))):=by
 refine QT.intro (G:=λF=>Qw F q n 1 (l.map tx)) func171 rfl wy rfl rfl hF (λF' hF'=>hR.le hF')<|QKO<|wQ rfl<|wR rfl<|QJD rfl<|QI rfl (λ_ _ f k=>kN f k hn hb) λc7=>JN _ (λ_ _ f h=>h.2) λh7=>QA (QU rfl rfl rfl)<|wQ rfl<|QW ?_
 exact QKx I I (congrArg ax h7.symm) w8
theorem Uu{b:Nat}{v:Int}{e:AX}(hF:Fits F w)(hGl:JC F)(hB:F b=some (#[.int .i64 v],3))(hR:Qw F e.1.q e.1.n 2 (e.2.flatMap Di))(hA:WK F e.2)(ht:AL e)(hv:0<=v/\v<=24):Qe prog 212 [e.1.v,.pointer (some ⟨b,0,none⟩)] w F (.int .i64 (Zp (YQ e.2) v)):=by
 obtain⟨⟨q,n,c⟩,ps⟩:=e;dsimp only[Sr.v]at *
 refine QT.intro (G:=λF=>JC F/\F b=some (#[.int .i64 v],3)/\Qw F q n 2 (ps.flatMap Di)/\WK F ps) func212 rfl wy rfl rfl hF (λF' hF'=>⟨hGl.le hF',hF' _ _ hB,hR.le hF',hA.le hF'⟩)<|QKO<|wQ rfl<|wR rfl<|QA (JA (n:=1) ((0)*1) (λF h9=>(Qw.of (n:=1) (sz:=1) h9.2.1 rfl)) O rfl JO rfl)<|QI rfl (λ_ _ f k=>G5 f k.1 k.2.2.1 k.2.2.2 ht.1 ht.2.1 ht.2.2) λ_=>wQ rfl<|QW ?_
 exact QKx I I (congrArg (ai .i64) (by unfold Hf;rw[if_pos ((B3 v).2 hv)])) w8
def Dm(n r s:Nat):Int:=Qp [if decide ((n:Int)=0)=true then 12 else 0,if decide ((n:Int)>24)=true then 5 else 0,if((r:Int) != n||(s:Int) != n)=true then 2 else 0]
theorem Qw.QCt{q:Option Addr}{l:List (List UInt8)}(h:Qw F q n 1 (l.map tx))(hl:l.length=n)(hk:k<=l.length):Qw F q k 1 ((l.take k).map tx):=by
 refine⟨w6,λh0=>?_⟩;obtain⟨b,off,arr,T,e1,e2,e3⟩:=h.2 O;refine⟨b,off,arr,T,e1,e2,λj u hu=>e3 j u ?_⟩;rw[List.map_take]at hu;have hj:j<k:=by
  rcases bA j k with g | g
  ·exact g
  rw[bj w6]at hu;cases hu
 rw[List.getElem?_take_of_lt hj]at hu;exact hu
theorem zK{nl:List (List UInt8)}{rl:List Pt}{sl:List (List UInt8×List UInt8)}(h:Dm nl.length rl.length sl.length≠0):DF nl rl sl=Dm nl.length rl.length sl.length:=by
 unfold DF;by_cases h1:nl.length=0
 ·rw[if_pos h1];simp[Dm,h1,Qp]
 rw[if_neg h1];by_cases h2:nl.length>24
 ·rw[if_pos h2];simp[Dm,h1,Qp];omega
 rw[if_neg h2];by_cases h3:rl.length≠nl.length\/sl.length≠nl.length
 ·rw[if_pos h3];have e:((rl.length:Int) != nl.length||(sl.length:Int) != nl.length)=true:=by simp only[aY,bne_iff_ne];omega
  unfold Dm;rw[e];simp[h1,Qp];omega
 exfalso;apply h;have e:((rl.length:Int) != nl.length||(sl.length:Int) != nl.length)=false:=by rw[Bool.eq_false_iff];simp only[ne_eq,aY,bne_iff_ne];omega
 unfold Dm;rw[e];simp[h1,Qp];omega
theorem UG{r s:Nat}(h:Dm n r s=0):n≠0/\n<=24/\r=n/\s=n:=by
 unfold Dm at h;by_cases h1:n=0
 ·simp[h1,Qp]at h
 by_cases h2:n>24
 ·have:((n:Int)>24):=O;simp[h1,this,Qp]at h
 by_cases h3:r≠n\/s≠n
 ·have e:((r:Int) != n||(s:Int) != n)=true:=by simp only[aY,bne_iff_ne];omega
  have h4:¬((n:Int)>24):=O;rw[e]at h;simp[h1,h4,Qp]at h
 omega
theorem Lk{nl:List (List UInt8)}{rl:List Pt}{sl:List (List UInt8×List UInt8)}(h:Dm nl.length rl.length sl.length=0):DF nl rl sl=Qp [Dt nl,Qp (rl.map λp=>Zp p nl.length),Qp (sl.map λs=>Xc s.1 s.2)]:=by
 obtain⟨h1,h2,h3,h4⟩:=UG h;unfold DF;rw[if_neg h1,if_neg O,if_neg O]
theorem Zf(hF:Fits F w)(hGl:JC F)(hy:ZZ F y)(ht:HM y):Qe prog 102 [y.v] w F (.int .i64 y.e):=by
 obtain⟨⟨qn,nn,cn⟩,nl,⟨qr,nr,cr⟩,rl,⟨qs,ns,cs⟩,sl⟩:=y;have hnl:=hy.gI;have hrl:=hy.VI;have hsl:=hy.Sb;have hnn:=ht.nn;have hrn:=ht.rn;have hsn:=ht.sn;dsimp only at *
 dsimp only[ZR.v];refine QT.intro (G:=λF=>JC F/\ZZ F ⟨⟨qn,nn,cn⟩,nl,⟨qr,nr,cr⟩,rl,⟨qs,ns,cs⟩,sl⟩) func102 rfl wy rfl rfl hF (λF' hF'=>⟨hGl.le hF',hy.le hF'⟩)<|QKO<|Qu rfl (vs:=[_,_,_]) rfl λb1=>wQ rfl<|QKO<|QA (QH rfl BX Vq)<|QA (Qf rfl Vq .here .h1)<|QA (Qg rfl Kx)<|Qc Pp λb3=>QR (vs:=[_]) rfl rfl rfl JO rfl .here .h1 wS<|QJC<|QG ?_
 refine YS [(1,_),(3,_)] [(4,.int .i64 (Dm nn nr ns))] wT ?_ ?_
 ·refine JK QJZ mixed wm<|QK (Qf I JO .here .h1)<|QK (QU I I I)<|QM I (λ_ _ f k=>Bv f ) λ_=>QK (Qf I JO .here .h1)<|QK (QU I I I)<|QM I (λ_ _ f k=>Bv f ) λ_=>QK (QH I Rr DP)<|QK (Qf I DP .u1 (.skip .h1))<|QK (Qg I DC)<|QK (Qf I JO .here .h1)<|QK (QU I I I)<|QK (QD I) ?_
  refine E7 (t:=22) rfl (λhb22=>?_) λhb22=>?_
  ·refine XP I I I<|XP I I I<|XP I I I<|XP I I I<|XP I I I<|QK (Qj I I I)<|QM I (λ_ _ f k=>Bv f ) λ_=>?_
   refine Qo I (Qz ZL) YT H5 I I (λb30=>?_) (λw h=>h.imp tC λF h=>h.1.1.1);refine QM I (λ_ _ f k=>Eh f (Qw.of (cs:=aU Jn [_,_,_]) k.2 I) wu) (λ_=>QK (QF I)<|Q5 ?_);exact Jg ⟨rfl,rfl,(congrArg (λb=>some (ai .i64 b)) (by unfold Dm;rw[hb22];rfl)),trivial⟩ QJZ λ_ h=>h.1.1.1.1.1
  refine X9 I I<|QK (QH I Yx J4)<|X9 I I<|QK (Qf I J4 .u1 (.skip (.skip .h1)))<|X9 I I<|QK (Qg I XW)<|X9 I I<|QK (Qf I JO .here .h1)<|X9 I I<|QK (QU I I I)<|QK (Qd I I I)<|QM I (λ_ _ f k=>Bv f ) λ_=>?_
  refine Qo I (Qz ZL) YT H5 I I (λb30=>?_) (λw h=>h.imp tC λF h=>h.1.1.1);refine QM I (λ_ _ f k=>Eh f (Qw.of (cs:=aU Jn [_,_,_]) k.2 I) wu) (λ_=>QK (QF I)<|Q5 ?_);exact Jg ⟨rfl,rfl,(congrArg (λb=>some (ai .i64 b)) (by unfold Dm;rw[hb22];rfl)),trivial⟩ QJZ λ_ h=>h.1.1.1.1.1
 simp only[aa,ae];refine wA 6 I ?_;refine QO I (λhc=>?_) λhc=>?_
 ·have h33:=bne_iff_ne.1 hc;refine wA 7 I ?_;exact QKx I I (congrArg (ai .i64) (by show DF nl (rl.map λe=>YQ e.2) sl=Dm nn nr ns;rw[zK (by rw[af,hnl,hrl,hsl];exact h33),af,hnl,hrl,hsl])) w8
 have h33:=bne_eq_false_iff_eq.1 hc;have h0:Dm nl.length (rl.map λe=>YQ e.2).length sl.length=0:=by rw[af,hnl,hrl,hsl];exact h33
 obtain⟨hq1,hq2,hq3,hq4⟩:=UG h33;refine QKr 5 I<|QA (QH I BX Vq)<|QA (Qf I Vq .u1 .h1)<|QA (Qg I Kx)<|QKq 4 I<|XM (ι:=ZK (aF nl.length) (EV nl)) [(1,_),(3,_),(36,_),(37,_)] (λi=>[(38,.int .i64 ((i.i:Nat):Int))]) (λi=>nl.length-i.i) (ZK.start _ _) wV wS λi=>?_
 simp only[aa,ae];have hi:=i.le;rw[av]at hi;refine wA 6 I ?_;refine QO I (λhc=>?_) λhc=>?_
 ·have hlt:i.i<nl.length:=wk<|QKc hc
  refine QKr 7 I<|QA (Q6 (n:=nn) i.i (λF h9=>h9.2.nm) rfl rfl Kx Dk O)<|QA (JA (n:=nn) ((i.i)*1) (λF h9=>h9.2.nm) O rfl Dk (Xa (f:=tx) (l:=nl) O))<|QKq 5 I<|JK QJZ mixed wm<|QK (QD I)<|QM I (λ_ _ f k=>uT f (ht.nt _ (Q3 hlt))) λ_=>QK (XJ I)<|QM I (λ_ _ f k=>Bv f ) λ_=>QK (QH I BX Vq)<|QK (Qf I Vq .u1 .h1)<|QK (QD I)<|QK (Nh i.i I I I Kx Dk (by have:=ht.nc;dsimp only at this;omega))<|QK (QD I)<|QM I (λ_ _ f k=>IY f (Qw.QCt (l:=nl) k.1.1.2.nm hnl hi) (by rw[bD];omega) O) λ_=>?_
  refine QM I (λ_ _ f k=>Bv f ) (λ_=>?_);refine Qo I (Qz ZL) YT H5 I I (λb54=>?_) (λw h=>h.imp tC λF h=>h.1.1.1.1);refine QM I (λ_ _ f k=>Eh f (Qw.of (cs:=aU Jn [_,_]) k.2 I) wu) (λ_=>QK (QF I)<|Q5<|QKs 7 I ?_);refine QO I (λhc=>?_) λhc=>?_
  ·have h57:=bne_iff_ne.1 hc;refine wA 7 I ?_
   repeat first|refine Q4 ?_|refine Qy ?_
   exact QKx I I (congrArg (ai .i64) (by show DF nl (rl.map λe=>YQ e.2) sl=_;rw[Lk h0];have h9:=i.hit (by rw[av];exact hlt) (by rw[ZG hlt];exact h57);rw[ZG hlt]at h9;rw[show Dt nl=EV nl i.i from h9,Zg (show EV nl i.i≠0 from h57)];rfl)) w8
  have h57:=bne_eq_false_iff_eq.1 hc;refine QN<|Qk<|QC<|QB<|QA (Qv I I O)<|wB 2 I ?_
  exact Ql (i.next (by rw[av];exact hlt) (by rw[ZG hlt];exact h57)) (by show nl.length-(i.i+1)<nl.length-i.i;omega) wW QJZ λF h=>h.1.1.1.1.1.1
 have hge:nl.length<=i.i:=wk<|QKd hc
 refine Q2 ?_
 repeat first|refine QY ?_|refine QP wy ?_
 refine QZ<|QC<|QG<|Vv (b:=b3) .here<|JK QJZ mixed wm<|QK (QH I Rr DP)<|QK (Qf I DP .here (.skip .h1))<|QK (VC I)<|QM I (λw F g k=>IH (f:=212) (fE:=λe=>Zp (YQ e.2) (nn:Int)) (c1:=[]) (c2:=[.pointer (some ⟨b3,0,none⟩)]) (G0:=λF=>JC F/\I3 F rl/\F b3=some (#[.int .i64 (nn:Int)],3)) g (λF F' hle h=>⟨h.1.le hle,h.2.1.le hle,hle _ _ h.2.2⟩) ⟨k.1.1,k.1.2.pl,k.2⟩ k.1.2.rt hrl O λe he w F g h=>Uu g h.1 h.2.2 (h.2.1 e he).1 (h.2.1 e he).2 (ht.tm e he) O) λ_=>QK (QH I Yx J4)<|QK (Qf I J4 .here (.skip (.skip .h1)))<|QM I (λw F g k=>IG (f:=120) (fE:=λs=>Xc s.1 s.2) (c1:=[]) (c2:=[]) (G0:=λF=>JC F) g (λF F' hle h=>h.le hle) k.1.1.1 k.1.1.2.st hsl O λe he w F g h=>W1 g h (ht.st e he)) λ_=>?_
 refine Qo I (Qz ZL) YT H5 I I (λb67=>?_) (λw h=>h.imp tC λF h=>h.1.1);refine QM I (λ_ _ f k=>Eh f (Qw.of (cs:=aU Jn [_,_]) k.2 I) wu) (λ_=>QK (QF I)<|Q5<|QC<|QW ?_);exact QKx I I (congrArg (ai .i64) (by show DF nl (rl.map λe=>YQ e.2) sl=_;rw[Lk h0];have h9:=i.stop (by rw[av];exact hge);rw[show Dt nl=0 from h9,ZS,aZ,hnl];rfl)) w8
theorem IF(i:Nat):0<ZV i:=by
 unfold ZV;exact Rat.pow_pos wv
theorem kh(x:Rat)(i:Nat):x/ZV i*ZV i=x:=by
 rw[bZ,bU,Rat.inv_mul_cancel _ (PE i),bP]
theorem Fh(x:Rat)(i:Nat):x*ZV i/ZV i=x:=by
 rw[bZ,bU,Rat.mul_inv_cancel _ (PE i),bP]
theorem BV(x:Rat)(i:Nat):0<=x-YK x i/\x-YK x i<ZV i:=by
 have h0:=kh x i;have hp:=IF i;unfold YK;generalize x/ZV i=t at h0 ⊢;generalize ZV i=g at h0 hp ⊢;have h1:=Rat.floor_le t;have h2:=Rat.lt_floor_add_one t;rw[Rat.intCast_add]at h2;generalize ((t.floor:Int):Rat)=k at h1 h2 ⊢;have:((1:Int):Rat)=1:=rfl;rw[this]at h2;have e2:t-k<1:=by grind
 have m1:=Rat.mul_le_mul_of_nonneg_right h1 (bM hp);have m2:=Rat.mul_lt_mul_of_pos_right e2 hp;subst h0;constructor<;>grind
theorem Pn(y:Rat)(i:Nat):0<=-YK (-y) i-y/\-YK (-y) i-y<ZV i:=by
 have:=BV (-y) i;constructor<;>grind
theorem QBk{x y:Rat}(h:x<=y)(i:Nat):YK x i<=-YK (-y) i:=by
 have h1:=(BV x i).1;have h2:=(Pn y i).1
 grind
section
variable{w:World}{F:Gs}
theorem Te{x:Rat}{b:Int}(hx:JQ x<=k)(hb:b<=64):JQ (ay (x*((two b:Int):Rat)).floor (two b))<=k+140:=by
 have h1:=Xp x ((two b:Int):Rat);have h2:=GF (two b);have h3:=zH hb;have h4:=RB (x*((two b:Int):Rat));have h5:=zF (n:=(x*((two b:Int):Rat)).floor) (b:=b) (k:=k+129) O hb;omega
end
theorem ET(h:Xb a k)(hb:b<=64):Xb (Xe a b) (k+140):=by
 refine⟨Te h.1 hb,?_⟩;have h2:=Te (x:=-a.2) (b:=b) (k:=k) (by rw[Vw];exact h.2) hb;have e:(Xe a b).2 = -(ay (-a.2*((two b:Int):Rat)).floor (two b)):=by
  unfold Xe;dsimp only;rw[Rat.neg_mul,<-Rat.neg_divInt]
 rw[e,Vw];exact h2
theorem F9{c:Rat×Rat}(h:Xb a k)(h':Xb c k):Xb (Jq a c) k:=⟨P9 h.1 h'.1,RA h.2 h'.2⟩
theorem Fl{f:Rat×Rat->Rat×Rat->Rat×Rat}{a b:List (Rat×Rat)}{P:Rat×Rat->Prop}(h:∀i,i<a.length->P (f (el a i) (el b i))):∀x∈DZ f a b,P x:=λx hx=>by
 obtain⟨i,hi,rfl⟩:=List.mem_map.1 hx;exact h i (List.mem_range.1 hi)
theorem EZ(f:Rat×Rat->Rat×Rat->Rat×Rat)(a b:List (Rat×Rat)):(DZ f a b).length=a.length:=by simp[DZ]
theorem Z5(rs:List (List Tm))(fr t2:Rat)(x on:List (Rat×Rat)):(Zt rs fr t2 x on).length=x.length:=by simp[Zt]
theorem kR(b:Int)(hb:0<=b/\b<=64):JQ (((two b:Int):Rat))⁻¹<=200:=by
 have h0:((two b:Int):Rat).num≠0:=UE b;refine aW (Mv h0) ?_;rw[<-Bl];have h1:=Wt (((2:Int):Rat)) b.toNat;have h2:JQ (((2:Int):Rat))<=2:=wu;have h3:b.toNat*JQ (((2:Int):Rat))<=64*2:=aV O h2;omega
theorem xk{c:Rat×Rat}(h:Xb a 2000000)(h':Xb c 2000000)(hb:0<=b/\b<=64):Xb (Vb b a c) 9000000:=by
 have hz:=F9 h h';have z1:=hz.1;have z2:=hz.2;have s1:=Bm (Jq a c).2 (Jq a c).1;have s2:=Xp ((Jq a c).2-(Jq a c).1) (ay 1 4);have s3:JQ (ay 1 4)<=4:=wu;have s4:=kR b hb;have s5:=YC (((Jq a c).2-(Jq a c).1)*ay 1 4) (((two b:Int):Rat))⁻¹;have s6:=Bm (Jq a c).1 (((Jq a c).2-(Jq a c).1)*ay 1 4+(((two b:Int):Rat))⁻¹);have s7:=YC (Jq a c).2 (((Jq a c).2-(Jq a c).1)*ay 1 4+(((two b:Int):Rat))⁻¹);exact(ET (k:=7000000) ⟨by show JQ ((Jq a c).1-_)<=_;omega,by show JQ ((Jq a c).2+_)<=_;omega⟩ hb.2).mono wu
structure Ol(rs:List (List Tm))(fr t2:Rat)(x:List (Rat×Rat)):Prop where
 x0:∀a∈x,Xb a 2000000
 m0:vj rs fr t2 x x
 s0:∀a∈Zt rs fr t2 x x,Xb a 2000000
 m1:∀v,v.length=x.length->(∀a∈v,Xb a 2400)->vj rs fr t2 x v
 s1:∀v,v.length=x.length->(∀a∈v,Xb a 2400)->∀a∈Zt rs fr t2 x v,Xb a 2000000
theorem Dv{v:List (Rat×Rat)}(h:¬Jv v=true):∀a∈v,Xb a 2400:=λa ha=>by
 have h1:(Jo a.1||Jo a.2)=false:=by
  cases e:(Jo a.1||Jo a.2)with
  |false=>rfl
  |true=>exact absurd (by unfold Jv;exact List.any_eq_true.2 ⟨a,ha,e⟩) h
 rw[Bool.or_eq_false_iff]at h1;exact⟨Gk h1.1,Gk h1.2⟩
structure TrI(rs:List (List Tm))(fr t2:Rat)(x:List (Rat×Rat))(b:Int) where
 j:Nat
 c:Sr×List Yr
 vs:List (Rat×Rat)
 le:j<=12
 h:YX rs fr t2 x b=DE rs fr t2 x b (12-j) vs
 len:vs.length=x.length
 sz:∀a∈vs,Xb a 10000000
def trV(o:Option (List (Rat×Rat)))(c:Sr×List Yr):Value:=.tuple #[c.1.v,.bool o.isSome]
def trF(F:Gs)(o:Option (List (Rat×Rat)))(c:Sr×List Yr):Prop:=match o with
 |none=>c.1=⟨none,0,0⟩
 |some l=>J7 F c.1 c.2 l
theorem Oz{y:j9}{x:xB}{rs:List (List Tm)}{vs vx:List (Rat×Rat)}(hF:Fits F w)(hGl:JC F)(hy:Ga F y rs vs)(hx:Mp F x fr t2 vx)(hn:y.rt.n=x.bx.n)(hnx:x.bx.n<=100000)(hn0:0<x.bx.n)(hpn:∀e∈y.ps,e.1.n<=1000000)(hb:0<=b/\b<=64)(ho:Ol rs fr t2 vx):
  QT prog 184 [.pointer (some ⟨y.b,0,none⟩),x.v,.int .i64 b] w F (trV (YX rs fr t2 vx b)) (λc F=>trF F (YX rs fr t2 vx b) c):=by
 have hxl2:=hx.bx.YI;have hne:((((2:Int):Rat))^b.toNat).num≠0:=by rw[Bl];exact UE b
 refine QT.intro (G:=λF=>JC F/\Ga F y rs vs/\Mp F x fr t2 vx) func184 rfl wy rfl rfl hF (λF' hF'=>⟨hGl.le hF',hy.le hF',hx.le hF'⟩)<|QKO<|Qu rfl (vs:=[_,_,_,_,_,_,_,_,_]) rfl λb4=>Qu rfl (vs:=[_]) rfl λb5=>QJE rfl<|wQ rfl<|cG<|QG<|KR (r:=[0,1,2,3,4,5]) tF mixed wm rfl<|Jk 1 wm rfl rfl<|QK (Qf rfl JO .here .h1)<|Q9<|Kr (A:=[4]) (r:=[0,2,3,5]) wm<|XH 0 wm wm wy tF w9 rfl rfl rfl (λ_=>rfl) (λ_ _ f k=>Sk (n:=2) f wu wu) λc13=>XH 2 wm wm wy tF tA rfl rfl rfl (λ_=>rfl) (λ_ _ f h=>Me (x:=c13) (r:=(((2:Int):Rat))) (k:=b) f h.2 hb.1 O (by have h2:JQ (((2:Int):Rat))<=2:=wu;have h3:b.toNat*JQ (((2:Int):Rat))<=64*2:=aV O h2;omega)) λc15=>XH 3 wm wm wy tF (λ_ h=>h.1.1) rfl rfl rfl (λ_=>rfl) (λ_ _ f k=>OR (x:=c15) (r:=(((2:Int):Rat))^b.toNat) f k.2 hne (by have h1:=Wt (((2:Int):Rat)) b.toNat;have h2:JQ (((2:Int):Rat))<=2:=wu;have h3:b.toNat*JQ (((2:Int):Rat))<=64*2:=aV O h2;omega)) λc16=>K1 4 (d:=8) (T:=95) wm wm wy tF (λ_ h=>h.1.1.1) wm wm XZ λb8=>Zl (vs:=[_,_,_,_]) 5 wm wm wy (.cons _ tF) (λ_ h=>h.1.1.1) rfl rfl (λ_=>rfl) (λ_=>rfl) rfl Qa I .here tF .h4 wV ?_
 refine Vd ?_ wm;refine QC<|QG<|Vv (b:=b5) .u1<|JK QJZ mixed wm<|QK (QH I Bw JF)<|QK (Qf I JF .u1 (.skip (.skip (.skip (.skip (.skip (.skip (.skip (.skip .h1)))))))))<|QK (QD I)<|QK (QJ (vs:=[_,_,_,_,_,_,_,_,_]) I BA .u1 .h9 rfl)<|QK (QH I Bw JF)<|QK (Qf I JF .u1 (.skip (.skip (.skip (.skip (.skip (.skip (.skip (.skip .h1)))))))))<|QM I (λ_ _ f k=>MS f k.1.1.1.1.2.1 k.1.1.1.1.2.2 k.1.1.1.1.2.2.bx hn O O hpn ho.m0) λc23=>QK (VC I)<|QM I (λw F u k=>EX (f:=265) (c1:=[]) (c2:=[.pointer (some ⟨b5,0,none⟩)]) (g:=λa c=>Xe (Jq a c) b) (G0:=(λF=>F b5=some (#[.int .i64 b],3))) u (λF F' hle h=>hle _ _ h) k.1.2 k.1.1.1.1.1.2.2.bx k.2 (by rw[<-k.2.YI,Z5,hxl2];exact aE _) O λi hi x1 y1 w F u hG hx1 hy1=>QBH u hx1 hy1 hG hb ((ho.x0 _ (Q3 O)).mono wu) ((ho.s0 _ (Q3 (by rw[Z5];omega))).mono wu)) λc25=>QK (QF I)<|Q5<|QC<|QG<|Vv (b:=b8) .here<|QB<|QA (VC I)<|QKq 5 I ?_
 refine wQ I<|QG<|cH<|QKs 8 I<|JW (ι:=TrI rs fr t2 vx b) [(0,_),(4,_),(5,_),(10,_)] (λi=>[(9,.slice i.c.1.q i.c.1.n i.c.1.cap),(11,.slice none 0 0),(27,.int .i64 ((i.j:Nat):Int))]) (λi=>[(b4,.cells (dZ x).toArray 173 (0,0))]) (λi F=>J7 F i.c.1 i.c.2 i.vs) (λi=>12-i.j) (⟨0,c25,_,aq _,rfl,by rw[EZ],Fl λi hi=>(ET (F9 (ho.x0 _ (Q3 hi)) (ho.s0 _ (Q3 (by rw[Z5];exact hi)))) hb.2).mono wu⟩) wV wU QJZ (λ_ h=>h.1.2) λi=>?_
 simp only[aa,ae];have hi:=i.le;refine XQ _ (λ_ _ f h=>au h.2.len (au h.2.YI h.2.val)) (λhvp=>?_);obtain⟨hvl,hvv,hval⟩:=hvp;have hVm:∀e∈i.c.2,e.2∈i.vs:=λe he=>by rw[<-hval];exact ak (f:=λe:Yr=>e.2) he
 have hany:(i.c.2.any λe:Yr=>Jo e.2.1||Jo e.2.2)=Jv i.vs:=by unfold Jv;rw[<-hval,List.any_map];simp only[Function.comp_def]
 refine wA 6 I ?_;refine QO I (λhc=>?_) λhc=>?_
 ·have hlt:i.j<12:=wk<|QKc hc
  refine QKr 8 I<|QI I (λw F g k=>vB (f:=226) (c1:=[]) (c2:=[]) (p:=λe:Yr=>Jo e.2.1||Jo e.2.2) (G0:=λF=>JC F/\Z9 F i.c.2) g (λF F' hle h=>⟨h.1.le hle,λe he=>(h.2 e he).le hle⟩) ⟨k.1.1.1.1.1.1.1.1.1,k.2.sp⟩ k.2.row k.2.len (by rw[<-k.2.YI,i.len,hxl2];omega) λe he w F g hG=>IP g hG.1 (hG.2 e he) ((i.sz _ (hVm _ he)).mono wu)) λ_=>QE<|QC ?_
  refine QO I (λhc=>?_) λhc=>?_
  ·have hlg:Jv i.vs=true:=by rw[<-hany];exact hc
   have hpic:YX rs fr t2 vx b=none:=by rw[i.h,show 12-i.j=(12-(i.j+1))+1 by omega];unfold DE;rw[if_pos hlg]
   refine Q2 ?_
   repeat first|refine QY ?_|refine QP wy ?_
   refine QZ<|QKs 5 I<|QA (RP I I JM)<|QKq 5 I<|QCn ?_
   exact JY ((⟨none,0,0⟩,[])) I (wO I I) (by unfold trV;rw[hpic];rfl) λF _=>by rw[hpic];rfl
  have hlg:¬Jv i.vs=true:=by rw[<-hany,hc];decide
  have hsm:=Dv hlg;refine QKr 5 I<|QA (QJ (vs:=[_,_,_,_,_,_,_,_,_]) I BA .here .h9 rfl)<|QJD I<|QI I (λ_ _ f k=>MS f k.1.1.1.1.1.1.1.1.1.2.1 k.1.1.1.1.1.1.1.1.1.2.2 k.1.2 hn (by rw[<-k.1.2.YI,i.len,hxl2];omega) O hpn (ho.m1 _ i.len hsm)) λc34=>JN _ (λ_ _ f h=>h.2.YI) λh34v=>QKq 8 I<|QI I (λ_ _ f k=>Tj f k.2 k.1.1.2 (by rw[<-k.2.YI,<-k.1.1.2.YI,Z5,i.len];exact aE _) (by rw[<-k.2.YI,Z5];omega) (λa ha=>(ho.s1 _ i.len hsm a ha).mono wu) λa ha=>(i.sz a ha).mono wu) λ_=>QE<|QC ?_
  refine QO I (λhc=>?_) λhc=>?_
  ·have hpic:YX rs fr t2 vx b=some ((Zt rs fr t2 vx i.vs).map λa=>Xe a b):=by rw[i.h,show 12-i.j=(12-(i.j+1))+1 by omega];unfold DE;rw[if_neg hlg,if_pos hc]
   refine wA 4 I<|QA (VC I)<|QI I (λw F u k=>EX (f:=271) (c1:=[]) (c2:=[.pointer (some ⟨b5,0,none⟩)]) (g:=λa _=>Xe a b) (G0:=(λF=>F b5=some (#[.int .i64 b],3))) u (λF F' hle h=>hle _ _ h) k.1.1.1.1.1.1.1.2 k.1.2 k.1.2 (aE _) (by rw[<-k.1.2.YI,Z5];omega) λi2 hi x1 y1 w F u hG hx1 hy1=>QBF u hx1 hG hb ((ho.s1 _ i.len hsm _ (Q3 O)).mono wu)) λc41=>wQ I<|Q2 ?_
   repeat first|refine QY ?_|refine QP wy ?_
   refine QZ<|QC<|wR rfl<|QJD rfl<|QA (RP rfl rfl JM)<|QJE rfl<|wQ rfl<|QW<|QCn<|QCm _ (λw F hF ⟨⟨⟨⟨⟨⟨⟨⟨⟨⟨⟨⟨⟨hGl,hY,hX⟩,h13⟩,h15⟩,h16⟩,hz5⟩,h23⟩,h25⟩,hz8⟩,hV⟩,_⟩,h34⟩,_⟩,h41⟩=>au h41.YI (h41.row.ptr (by rw[<-h41.YI,EZ,Z5];omega))) λhq41=>?_
   obtain⟨_,qb,qo,hq41⟩:=hq41;exact JY (c41) rfl (wO I I) (by unfold trV;rw[hpic,hq41];rfl) λF h9=>by rw[hpic];have h:=h9.2;rw[Fk]at h;exact h
  have hstep:YX rs fr t2 vx b=DE rs fr t2 vx b (12-(i.j+1)) (DZ (Vb b) i.vs (Zt rs fr t2 vx i.vs)):=by
   rw[i.h,show 12-i.j=(12-(i.j+1))+1 by omega]
   conv=>lhs;unfold DE
   rw[if_neg hlg,if_neg (by rw[hc];decide)]
  refine QKr 6 I<|QI I (λw F u k=>EX (f:=268) (c1:=[]) (c2:=[.pointer (some ⟨b8,0,none⟩),.pointer (some ⟨b5,0,none⟩)]) (g:=Vb b) (G0:=(λF=>F b8=some ((KV c16).toArray,95)/\JP F c16 (((two b:Int):Rat))⁻¹/\F b5=some (#[.int .i64 b],3))) u (λF F' hle h=>⟨hle _ _ h.1,h.2.1.le hle,hle _ _ h.2.2⟩) ⟨k.1.1.1.1.2,(by rw[<-Bl];exact k.1.1.1.1.1.1.1.1.2),k.1.1.1.1.1.1.1.2⟩ k.1.1.1.2 k.1.2 (by rw[<-k.1.2.YI,<-k.1.1.1.2.YI,Z5,i.len];exact aE _) (by rw[<-k.1.1.1.2.YI,i.len];omega) λi2 hi x1 y1 w F u hG hx1 hy1=>QBG u hx1 hy1 hG.1 hG.2.1 hG.2.2 hb ((hsm _ (Q3 (by rw[hvv];exact hi))).mono wu) (ho.s1 _ i.len hsm _ (Q3 (by rw[Z5,<-i.len,hvv];exact hi)))) λc45=>wB 2 I<|Qk<|QC<|QB<|QA (Qv I I O)<|wB 2 I ?_
  exact Ql (⟨i.j+1,c45,DZ (Vb b) i.vs (Zt rs fr t2 vx i.vs),hlt,hstep,by rw[EZ,i.len],Fl λk hk=>(xk ((hsm _ (Q3 hk)).mono wu) (ho.s1 _ i.len hsm _ (Q3 (by rw[Z5,<-i.len];exact hk))) hb).mono wu⟩) (by show 12-(i.j+1)<12-i.j;omega) wY QJZ λF ⟨⟨⟨⟨⟨⟨⟨⟨⟨⟨⟨⟨⟨hGl,hY,hX⟩,h13⟩,h15⟩,h16⟩,hz5⟩,h23⟩,h25⟩,hz8⟩,hV⟩,_⟩,h34⟩,_⟩,h45⟩=>⟨⟨⟨⟨⟨⟨⟨⟨⟨hGl,hY,hX⟩,h13⟩,h15⟩,h16⟩,hz5⟩,h23⟩,h25⟩,hz8⟩,h45⟩
 have hge:i.j=12:=wk<|QKd hc
 have hpic:YX rs fr t2 vx b=none:=by rw[i.h,hge];rfl
 refine Q2 ?_
 repeat first|refine QY ?_|refine QP wy ?_
 refine QZ<|QKs 5 I<|QA (RP I I JM)<|QKq 5 I<|QCn ?_
 exact JY ((⟨none,0,0⟩,[])) I (wO I I) (by unfold trV;rw[hpic];rfl) λF _=>by rw[hpic];rfl
theorem Qw.pre{b sz:Nat}{cs:List Value}(h:F b=some ((cs++rest).toArray,T))(hl:cs.length=n*sz):Qw F (some ⟨b,0,none⟩) n sz cs :=
 ⟨hl,λ_=>⟨b,0,_,T,rfl,h,λj u hu=>by
  have hj:j<cs.length:=by rcases bA j cs.length with g | g;exact g;rw[bj g]at hu;cases hu
  rw[aA,ah,bG hj];exact hu⟩⟩
theorem QA7{bk:Nat}{es:List VB}{v:List (List (Rat×Rat))}(hbk:F bk=some ((es.map (VB.sl k)).toArray,196))(hes:∀e∈es,F e.b=some ((Xi e.l++e.rest).toArray,192))(hE:∀e∈es,Z9 F e.l)(hl:es.length=n)(ok:∀e∈es,e.Ok k)(hq:es.map (λe=>e.l.map (·.2))=v):
  Qw F (some ⟨bk,0,none⟩) n 1 ((es.map λe=>((⟨some ⟨e.b,0,none⟩,k,e.c⟩:Sr),e.l)).map λe=>e.1.v)/\I2 F (es.map λe=>((⟨some ⟨e.b,0,none⟩,k,e.c⟩:Sr),e.l))/\(es.map λe=>((⟨some ⟨e.b,0,none⟩,k,e.c⟩:Sr),e.l)).map (λe=>e.2.map (·.2))=v/\(es.map λe=>((⟨some ⟨e.b,0,none⟩,k,e.c⟩:Sr),e.l)).length=n/\n<=n:=by
 refine⟨?_,λx hx=>?_,by rw[aZ];exact hq,by rw[af,hl],aE _⟩
 ·rw[aZ];exact Qw.of hbk (by rw[af,hl,ee])
 obtain⟨e,he,rfl⟩:=List.mem_map.1 hx;exact⟨Qw.pre (hes e he) (by rw[GK,(ok e he).hl]),hE e he,rfl,(ok e he).hl,(ok e he).hc⟩
theorem U7{l:List Yr}(h:l.map (·.2)=(aF n).map f)(hi:i<n):(el l i).2=f i:=by
 have hl:l.length=n:=by have:=congrArg bm h;simpa using this
 have h1:el (l.map (·.2)) i=f i:=by rw[h,YP _ hi]
 rw[Ja (by rw[af];omega),aM]at h1;rw[Ja (show i<l.length by omega)];exact h1
theorem FM{N:Nat}{m:Sl}{p1:Tmp}{assign body:Code}{r:Loop}(h:vi N m #[p1] assign body r)(v1:Value)(h1:p1<N):JH (df:=DX) N ((p1,v1)::m) (UO r #[v1]):=by
 have e:UO r #[v1]=(({ tmps:=r.tmps,defers:=[] }:Act).put (some p1) v1):=by
  unfold UO;rw[h.params];simp[Act.put]
 rw[e];exact h.QER.put (d:=some p1) (by simpa[J2]using h1) v1
theorem P8{y:j9}{x:Sp}{rs:List (List Tm)}{vs:List (Rat×Rat)}{t:Rat×Rat}{n:Nat}(hF:Fits F w)(hy:Ga F y rs vs)(hx:Jj F x t)(hb:J7 F rb lb vb)(hn:y.rt.n=rb.n)(hnb:rb.n<=1000)(hn0:0<rb.n)(hor:n<=999)(hpn:∀e∈y.ps,e.1.n<=100000)(hok:AK rs t vb n):
  QT prog 122 [.pointer (some ⟨y.b,0,none⟩),x.v,rb.v,.int .i64 (n:Int)] w F (λ(c:Sr×List AW)=>c.1.v) (λc F=>Qw F c.1.q c.1.n 1 (c.2.map λe=>e.1.v)/\I2 F c.2/\c.2.map (λe=>e.2.map (·.2))=Jt rs t vb n/\c.2.length=c.1.n/\c.1.n<=c.1.cap):=by
 have hvb:=hb.YI;have hlb:=hb.len;have hrl:=hy.VI;have hpl0:=hy.len;dsimp only[Sr.v];refine QT.QCJ (G:=λF=>Ga F y rs vs/\Jj F x t/\J7 F rb lb vb) func122 rfl wy rfl rfl hF (λF' hF'=>⟨hy.le hF',hx.le hF',hb.le hF'⟩)<|QKO<|Qu rfl (vs:=[_,_,_,_,_,_,_,_]) rfl λb5=>wQ rfl<|wR rfl<|QA (Qg rfl JM)<|M3 (n:=rb.n) (bytes:=24) rfl rfl W7 XF WS rfl QCX O O λbk=>wQ rfl<|QG<|wR rfl<|QA (Qg rfl JM)<|QJD rfl<|QJC<|QV<|JW (ι:=TaJ vb) [(0,_),(2,_),(3,_),(5,_),(8,_),(9,_),(23,_),(24,_)] (λi=>[(25,.int .i64 ((i.i:Nat):Int))]) (λi=>(bk,.cells (i.es.map (VB.sl 1)++XY [.slice none 0 0] (rb.n-i.i)).toArray 196 (0,0))::(b5,.cells (Xq x).toArray 192 (0,0))::i.M) (λi F=>∀e∈i.es,Z9 F e.l) (λi=>rb.n-i.i) (⟨0,[],[],rfl,aq _,rfl,(λ_ h=>by cases h),rfl⟩) wZ wS QJZ (λ_ _ _ h=>by cases h) λi=>?_
 simp only[aa,ae];have hi:=i.le;refine wA 6 I ?_;refine QO I (λhc=>?_) λhc=>?_
 ·have hlt:i.i<rb.n:=wk<|QKc hc
  refine QKr 7 I<|QA (Q6 (n:=rb.n) i.i (λF h9=>h9.1.2.2.row) rfl rfl JM Qi O)<|QA (JX (n:=rb.n) (vs:=[.int .i64 (el lb i.i).1.lo.n.s,.slice (el lb i.i).1.lo.n.q (el lb i.i).1.lo.n.n (el lb i.i).1.lo.n.cap,.int .i64 (el lb i.i).1.lo.d.s,.slice (el lb i.i).1.lo.d.q (el lb i.i).1.lo.d.n (el lb i.i).1.lo.d.cap,.int .i64 (el lb i.i).1.hi.n.s,.slice (el lb i.i).1.hi.n.q (el lb i.i).1.hi.n.n (el lb i.i).1.hi.n.cap,.int .i64 (el lb i.i).1.hi.d.s,.slice (el lb i.i).1.hi.d.q (el lb i.i).1.hi.d.n (el lb i.i).1.hi.d.cap]) ((i.i)*8) (λF h9=>h9.1.2.2.row) O rfl Qi I λj v hv=>Jc (f:=(λe=>Xq e.1)) (l:=lb) (λ_=>rfl) O hv)<|Qc Ji λb11=>QJE I<|QR (vs:=[_,_,_,_,_,_,_,_]) I I I Qi I .here .h8 wZ<|QKq 5 I<|QA (wK I Qi .here)<|VN I (Qz JM) Qi Ji I I λb33=>QA (JL (i:=i.i) rfl rfl W7 XF O)<|QA (QH I Xg JF)<|QR (vs:=[.slice (some ⟨b33,0,none⟩) 1 1]) I I I JF I .u2 (yI (by rw[af,i.len]) O) wS<|QE<|Qk<|QC ?_
  refine QB<|QA (Qv I I O)<|wB 2 I<|Ot (List.perm_append_singleton _ _).symm ?_
  exact Ql (⟨i.i+1,i.es++[⟨b33,1,[(( el lb i.i).1,el vb i.i)],[]⟩],i.M++[_],by rw[i.hM,ao];rfl,O,by rw[aG,i.len];rfl,λe he=>by
     rcases List.mem_append.1 he with he | he
     ·exact i.ok e he
     ·rw[List.mem_singleton.1 he];exact⟨rfl,rfl,aE _,by show 1<=maxLen;decide⟩,by rw[ao,i.hq,XV (show i.i<vb.length by omega),ao];rfl⟩) (by show rb.n-(i.i+1)<rb.n-i.i;omega) we (.cons _ (by rw[ao];exact aR _)) (λF ⟨⟨hY,hT,hB⟩,hE⟩=>⟨⟨hY,hT,hB⟩,λe he=>by
     rcases List.mem_append.1 he with he | he
     ·exact hE e he
     rw[List.mem_singleton.1 he];intro e2 he2;rw[List.mem_singleton.1 he2];exact hB.at hlt⟩)
 have hge:i.i=rb.n:=wk<|QKd hc
 refine Q2 ?_
 repeat first|refine QY ?_|refine QP wy ?_
 refine QZ<|QKs 9 I<|Iu (ι:=TkJ rs t vb n) (λi2=>K6 i2.Ds) [(0,_),(2,_),(5,_),(8,_),(9,_),(37,_)] (λi2=>[(38,.int .i64 ((i2.k:Nat):Int))]) (λi2=>(bk,.cells (i2.es.map (VB.sl (i2.k+1))).toArray 196 (0,0))::(b5,.cells (Xq x).toArray 192 (0,0))::(i2.M++dfB i2.Ds)) (λi2 F=>∀e∈i2.es,Z9 F e.l) (λi2=>n-i2.k) (⟨0,i.es,i.M,[],i.hM,aq _,by rw[i.len];omega,i.ok,by rw[i.hq,hge,<-hvb,aQ];rfl⟩) I wX wS ((by show List.Sublist (_::_::(i.M++[])) _;rw[aL,show rb.n-i.i=0 by omega];simp only[XY,aL];exact aR _)) tB λi2=>?_
 letI:Df:=K6 i2.Ds;simp only[aa,ae];have hk:=i2.le;have hlen2:=i2.len;refine wA 6 I ?_;refine QO I (λhc=>?_) λhc=>?_
 ·have hk2:i2.k<n:=wk<|QKc hc
  refine QKr 12 I<|QI I (λ_ _ f k=>Sk (n:=0) f wu wu) λc41=>QJD I<|XS I (bB _) (R7 (x:=c41) (a:=((0:Int):Rat)) (n:=i2.k) tB O) λc43=>?_
  obtain⟨e43,hl43,ok43,hv43,hob43⟩:=yZ c43.hr O;rw[hv43,hob43];rw[bO];refine Qc WS (λb13=>QR (vs:=[_]) I I I XF I .here .h1 wS<|QJC<|QKO<|QA (QH I Xg JF)<|QA (Qf I JF .here .h1)<|QA (wK I Qi .u3)<|QA (JL (i:=0) rfl rfl JM Qi O)<|QR (vs:=Xq x) rfl rfl rfl Qi I .u1 (yJ (i:=0) (by rw[ok43.hl];omega) x t) wZ<|QE<|QC ?_);refine SV (ι:=List Yr) [(0,_),(2,_),(5,_),(8,_),(9,_),(12,_),(13,_),(37,_),(38,_)] (λlt=>[]) (λlt=>(b13,.cells [.slice (some ⟨e43.b,0,none⟩) (i2.k+1) e43.c].toArray 196 (0,0))::(e43.b,.cells (Xi lt++e43.rest).toArray 192 (0,0))::(bk,.cells (i2.es.map (VB.sl (i2.k+1))).toArray 196 (0,0))::(b5,.cells (Xq x).toArray 192 (0,0))::(i2.M++dfB i2.Ds)) (λlt F=>Z9 F lt/\lt.map (·.2)=ZX t i2.k/\lt.length=i2.k+1) we ?_ ?_
  ·refine wA 6 I ?_;refine QO I (λhc=>?_) λhc=>?_
   ·have hkp:0<i2.k:=wk<|QKc hc
    refine JK (.cons_cons _ (.cons _ tF)) mixed wm<|QK (QH I Xg JF)<|QK (Qf I JF .here .h1)<|QM I (λ_ _ f k=>Sk (n:=1) f wu wu) λc52=>QM I (λ_ _ f k=>Kg (x:=c52) (r:=((1:Int):Rat)) f k.2) λc53=>QK (JL (i:=1) rfl rfl JM Qi O)<|JU (vs:=Xq c53) rfl rfl rfl Qi I .u1 tG (λ_ h=>h.1.1) (yJ (i:=1) (by rw[bc,ok43.hl];omega) c53 (((1:Int):Rat),((1:Int):Rat))) wZ<|Q5 ?_
    exact ZQ ((e43.l.set 0 (x,t)).set 1 (c53,(((1:Int):Rat),((1:Int):Rat)))) we QJZ λF ⟨⟨⟨⟨⟨⟨⟨hY,hT,hB⟩,hE⟩,hE2⟩,h41⟩,h43⟩,h52⟩,h53⟩=>⟨⟨⟨⟨⟨⟨hY,hT,hB⟩,hE⟩,hE2⟩,h41⟩,h43⟩,⟨Z9.set (Z9.set (by rw[hl43];exact h43) hT) h53,by rw[bJ,bJ,hl43,c43.hl,AA];exact ur t O,by rw[bc,bc,ok43.hl]⟩⟩
   have hkp:¬0<i2.k:=wk<|QKd hc
   refine QN ?_;exact ZQ (e43.l.set 0 (x,t)) we QJZ λF ⟨⟨⟨⟨⟨hY,hT,hB⟩,hE⟩,hE2⟩,h41⟩,h43⟩=>⟨⟨⟨⟨⟨⟨hY,hT,hB⟩,hE⟩,hE2⟩,h41⟩,h43⟩,⟨Z9.set (by rw[hl43];exact h43) hT,by rw[bJ,hl43,c43.hl,AA,show i2.k=0 by omega];exact vH t,by rw[bc,ok43.hl]⟩⟩
  intro lt;simp only[aa,ae];refine XQ _ (λ_ _ f h=>h.2.2) (λhlt2p=>?_);obtain⟨hltq,hlt2⟩:=hlt2p;refine wR I<|QA (Qg I JM)<|M3 (n:=rb.n) (bytes:=128) rfl rfl JM Qi Ji I Wd O O λbn=>QKq 7 I<|QA (Ze I)<|QA (QH I B0 YJ)<|QA (Zq (c:=#[y.rt.v,y.st.v]) (T':=171) rfl YJ (λF h9=>h9.1.1.1.1.1.1.H7) rfl)<|QA (Qg I YW)<|QKq 4 I<|Iu (ι:=TrJ (nxQ rs t vb i2.k) rb.n) (λi3=>K6 i3.Ds) [(0,_),(2,_),(5,_),(8,_),(9,_),(12,_),(13,_),(14,_),(37,_),(38,_),(61,_),(62,_)] (λi3=>[(63,.int .i64 ((i3.i:Nat):Int))]) (λi3=>(bn,.cells (Xi i3.nx++XY [.int .i64 0,.slice none 0 0,.int .i64 0,.slice none 0 0,.int .i64 0,.slice none 0 0,.int .i64 0,.slice none 0 0] (rb.n-i3.i)).toArray 192 (0,0))::(b13,.cells [.slice (some ⟨e43.b,0,none⟩) (i2.k+1) e43.c].toArray 196 (0,0))::(e43.b,.cells (Xi lt++e43.rest).toArray 192 (0,0))::(bk,.cells (i2.es.map (VB.sl (i2.k+1))).toArray 196 (0,0))::(b5,.cells (Xq x).toArray 192 (0,0))::(i2.M++dfB i3.Ds)) (λi3 F=>Z9 F i3.nx) (λi3=>rb.n-i3.i) (⟨0,[],i2.Ds,aq _,rfl,rfl⟩) I wj wS QJZ (λ_ _=>Z9.nil _) λi3=>?_
  letI:Df:=K6 i3.Ds;simp only[aa,ae];have hi3l:=i3.le;refine wA 6 I ?_;refine QO I (λhc=>?_) λhc=>?_
  ·have hi3':i3.i<y.rt.n:=wk<|QKc hc
   have hi3:i3.i<rs.length:=O;have hem:=Q3 (show i3.i<y.ps.length by omega);obtain⟨pp,hpp⟩:∃pp,pp=el y.ps i3.i:=⟨_,rfl⟩;have hpp1:=hpn _ hem;rw[<-hpp]at hpp1;have hall:(((⟨e43.b,e43.c,lt⟩:VL)::(i2.es.map VB.vl)).map VL.q)=(ZX t i2.k::Jt rs t vb i2.k):=by rw[aS,aZ];show lt.map (·.2)::i2.es.map (λe=>e.l.map (·.2))=_;rw[hltq,i2.hq]
   have hto:=hok.tm _ hk2 _ hi3;refine XQ _ (λw F hF ⟨⟨⟨⟨⟨⟨⟨hY,hT,hB⟩,hE⟩,hE2⟩,h41⟩,h43⟩,hLT⟩,hN⟩=>au (hY.at hi3').2 (hY.at hi3').1.2.2.2.2) (λhY2=>?_);rw[<-hpp]at hY2;have hpe:J3 pp.2=el rs i3.i:=hY2.1;have hpl2:pp.2.length=pp.1.n:=hY2.2;rw[<-hpe]at hto;refine QKr 7 I<|QA (Q6 (n:=y.rt.n) (i3.i) (λF h9=>h9.1.1.1.1.1.1.1.row) rfl rfl YW K4 O)<|QA (JA (n:=y.rt.n) ((i3.i)*1) (λF h9=>h9.1.1.1.1.1.1.1.row) O rfl K4 (Xa (f:=λe:WR=>e.1.v) (l:=y.ps) O))<|QKq 6 I<|QI I (λ_ _ f k=>Sk (n:=0) f wu wu) λc68=>QJD I<|QI I (λ_ _ f h=>R6 (x:=c68) (a:=((0:Int):Rat)) (n:=i2.k) f h.2 O) λc70=>Qc WS λb17=>QR (vs:=[_]) I I I XF I .here .h1 wS<|QKq 5 I ?_
   refine wB 2 I<|QA (QJ (vs:=[_]) I XF .u2 .h1 rfl)<|QJD I<|QI I (λ_ _ f h=>dR (p:=el y.ps i3.i) (n:=i2.k) (v1:=.slice (some ⟨e43.b,0,none⟩) (i2.k+1) e43.c) (v2:=.slice (some ⟨bk,0,none⟩) rb.n rb.n) f ⟨rfl,rfl⟩ ⟨rfl,rfl⟩) λc75=>QJC<|QV<|QCi (λG hG=>?_)
   have hlsl:(i2.es.map VB.vl).length=rb.n:=by rw[af];omega
   have hfacts:∀F,G F->(F c75.1=some (#[pp.1.v],87)/\F c75.2.1=some (#[.int .i64 (i2.k:Int)],3)/\F c75.2.2.1=some (#[.slice (some ⟨e43.b,0,none⟩) (i2.k+1) e43.c],196)/\F c75.2.2.2=some (#[.slice (some ⟨bk,0,none⟩) (i2.es.map VB.vl).length rb.n],189))/\XN F pp.1 pp.2 (J3 pp.2)/\∀e∈(⟨e43.b,e43.c,lt⟩:VL)::i2.es.map VB.vl,Z9 F e.l:=λF h=>by
    obtain⟨⟨⟨⟨⟨⟨⟨⟨⟨⟨hY,hT,hB⟩,hE⟩,hE2⟩,h41⟩,h43⟩,hLT⟩,hN⟩,h68⟩,h70⟩,h75⟩:=hG F h;rw[hpp,hlsl];exact⟨h75,(hY.at hi3').1,λe he=>by
     rcases List.mem_cons.1 he with rfl | he
     ·exact hLT.1
     obtain⟨e',he',rfl⟩:=List.mem_map.1 he;exact hE2 e' he'⟩
   have h70f:∀F,G F->J7 F c70.1 c70.2 (VK 0 i2.k):=λF h=>by obtain⟨⟨⟨⟨⟨⟨⟨⟨⟨⟨hY,hT,hB⟩,hE⟩,hE2⟩,h41⟩,h43⟩,hLT⟩,hN⟩,h68⟩,h70⟩,h75⟩:=hG F h;exact h70
   refine AN (Ds:=i3.Ds) (ι:=TsS pp.2.length) (λs=>(b17,.cells [.slice s.y.1.q s.y.1.n s.y.1.cap].toArray 196 (0,0))::(bn,.cells (Xi i3.nx++XY [.int .i64 0,.slice none 0 0,.int .i64 0,.slice none 0 0,.int .i64 0,.slice none 0 0,.int .i64 0,.slice none 0 0] (rb.n-i3.i)).toArray 192 (0,0))::(b13,.cells [.slice (some ⟨e43.b,0,none⟩) (i2.k+1) e43.c].toArray 196 (0,0))::(e43.b,.cells (Xi lt++e43.rest).toArray 192 (0,0))::(bk,.cells (i2.es.map (VB.sl (i2.k+1))).toArray 196 (0,0))::(b5,.cells (Xq x).toArray 192 (0,0))::(i2.M++dfB i3.Ds)) (λs F=>J7 F s.y.1 s.y.2 (KS ((J3 pp.2).take s.i) (ZX t i2.k::Jt rs t vb i2.k) i2.k)) (λs=>s.i=pp.2.length) rfl rfl (enters_of func300 wy rfl) (λL D r W hrec hW=>?_) λD s hs=>?_
   ·have hterms:=zC (ι:=TsS pp.2.length) (w0:=w) (F0:=F) (B:=λs=>(L,.loop r)::(D,.deferred (some []))::(b17,.cells [.slice s.y.1.q s.y.1.n s.y.1.cap].toArray 196 (0,0))::(bn,.cells (Xi i3.nx++XY [.int .i64 0,.slice none 0 0,.int .i64 0,.slice none 0 0,.int .i64 0,.slice none 0 0,.int .i64 0,.slice none 0 0] (rb.n-i3.i)).toArray 192 (0,0))::(b13,.cells [.slice (some ⟨e43.b,0,none⟩) (i2.k+1) e43.c].toArray 196 (0,0))::(e43.b,.cells (Xi lt++e43.rest).toArray 192 (0,0))::(bk,.cells (i2.es.map (VB.sl (i2.k+1))).toArray 196 (0,0))::(b5,.cells (Xq x).toArray 192 (0,0))::(i2.M++dfB i3.Ds)) (H:=λs F=>G F/\J7 F s.y.1 s.y.2 (KS ((J3 pp.2).take s.i) (ZX t i2.k::Jt rs t vb i2.k) i2.k)) (pos:=λs=>s.i) (p:=pp) (b1:=c75.1) (b2:=c75.2.1) (b3:=c75.2.2.1) (b4:=c75.2.2.2) (L:=L) (n:=i2.k) (bv:=bk) (cv:=rb.n) (e0:=(⟨e43.b,e43.c,lt⟩:VL)) (ls:=(i2.es.map VB.vl))
     (λs F h=>hfacts F h.1) hpl2 O O (by rw[af];omega)
     (λs e he=>by
      rcases List.mem_cons.1 he with rfl | he
      ·exact⟨⟨e43.rest,wz⟩,hlt2,ok43.hc⟩
      obtain⟨e',he',rfl⟩:=List.mem_map.1 he;exact⟨⟨e'.rest,by rw[i2.hM];simp only[bI,List.mem_append];exact .inr (.inr (.inr (.inr (.inr (.inr (.inr (.inr (.inl (ak (f:=VB.box) he')))))))))⟩,(i2.ok _ he').hl,(i2.ok _ he').hc⟩)
     (λs=>by rw[aZ];simp only[bI];exact .inr (.inr (.inr (.inr (.inr (.inr (.inl rfl)))))))
     (by rw[hall];exact hto)
     (λG' C s i y W hi hp hst=>?_) ⟨0,c70,aq _⟩ rfl
    ·refine(hterms.2 W (hW.DJ λF h=>⟨h,by rw[aH];exact(h70f F h)⟩)).mono ?_;rintro e w' ⟨c,rfl,h⟩;exact⟨⟨_,rfl⟩,c.1,c.2,h⟩
    letI:Df:=DX;obtain rfl:s.i=i:=hp;rw[hall]at hst;refine La hst .here (by rw[hrec.params];rfl) (FM hrec _ wu) ?_;rw[hrec.assign,hrec.body];refine Tx (RU L) (λ⟨_,_,h⟩=>h) rfl<|Qc WS λb18=>QR (vs:=[.slice y.1.q y.1.n y.1.cap]) I I I XF I .here .h1 wS<|QE<|cL .u1 hrec.state<|vt<|Tx (RU L) (λ⟨_,_,h⟩=>h) rfl<|QA (QJ (vs:=[_]) I XF .u3 .h1 rfl)<|QA (QJ (vs:=[_]) I XF .here .h1 rfl) ?_
    have hit:s.i<(J3 pp.2).length:=by rw[Yc];exact hi
    refine QI I (λ_ _ f h=>QBe (ra:=s.y.1) (rb:=y.1) (la:=s.y.2) (lb:=y.2) f h.1.2.2 h.2 (by rw[<-h.1.2.2.YI,<-h.2.YI,KH,Kl];omega) (by rw[<-h.1.2.2.YI,KH];omega) (by rw[hpe];exact hok.sm _ hk2 _ hi3 s.i) λx hx=>hok.mn _ hk2 _ hi3 _ (by rw[<-hpe];exact ak (Q3 hi)) x (by have e:=VQ rs t vb i2.k;rw[bF,e]at hx;exact hx)) (λc79=>QR (vs:=[.slice c79.1.q c79.1.n c79.1.cap]) I I I XF I .u3 .h1 wS<|QE<|Qk ?_);refine cJ .u1 (λw1 hw1=>⟨rfl,⟨s.i+1,c79,by show s.i+1<=_;omega⟩,rfl,?_⟩);rw[Lv hrec]at hw1;exact St.imp hw1 (.cons _ QJZ) λF h=>⟨h.1.1.1,h.1.1.2.1,by show J7 F c79.1 c79.2 (KS ((J3 pp.2).take (s.i+1)) _ _);rw[RN (by rw[Yc];omega),<-xz hi];exact h.2⟩
   letI:Df:=K6 (D::i3.Ds);have hsum:∀F,J7 F s.y.1 s.y.2 (KS ((J3 pp.2).take s.i) (ZX t i2.k::Jt rs t vb i2.k) i2.k)->J7 F s.y.1 s.y.2 (KS (el rs i3.i) (ZX t i2.k::Jt rs t vb i2.k) i2.k):=λF h=>by
    rw[aT (by rw[Yc];omega),hpe]at h;exact h
   refine Qk<|QC<|XQ _ (λ_ _ f h=>au (hsum _ h.2).YI (hsum _ h.2).len) λhsv=>?_
   obtain⟨hsv,hsl2⟩:=hsv;rw[KH]at hsv;have hsl:i2.k<s.y.1.n:=O;refine Js 13 (.cons_cons _ (.cons_cons _ (.cons _ (.cons_cons _ (.cons_cons _ (.cons_cons _ (.cons_cons _ tD))))))) mixed wm wm ?_;simp only[aB,aH,aC,aK];refine QK (QD I)<|QK (QD I)<|QK (QH I Xg JF)<|QK (Qf I JF .u1 .h1)<|QK (QD I)<|QK (Q6 (n:=s.y.1.n) (i2.k) (λF h9=>(hsum _ h9.2).row) rfl rfl JM Qi O)<|QK (JX (n:=s.y.1.n) (vs:=[.int .i64 (el s.y.2 (i2.k)).1.lo.n.s,.slice (el s.y.2 (i2.k)).1.lo.n.q (el s.y.2 (i2.k)).1.lo.n.n (el s.y.2 (i2.k)).1.lo.n.cap,.int .i64 (el s.y.2 (i2.k)).1.lo.d.s,.slice (el s.y.2 (i2.k)).1.lo.d.q (el s.y.2 (i2.k)).1.lo.d.n (el s.y.2 (i2.k)).1.lo.d.cap,.int .i64 (el s.y.2 (i2.k)).1.hi.n.s,.slice (el s.y.2 (i2.k)).1.hi.n.q (el s.y.2 (i2.k)).1.hi.n.n (el s.y.2 (i2.k)).1.hi.n.cap,.int .i64 (el s.y.2 (i2.k)).1.hi.d.s,.slice (el s.y.2 (i2.k)).1.hi.d.q (el s.y.2 (i2.k)).1.hi.d.n (el s.y.2 (i2.k)).1.hi.d.cap]) ((i2.k)*8) (λF h9=>(hsum _ h9.2).row) O rfl Qi I λj v hv=>Jc (f:=(λe=>Xq e.1)) (l:=s.y.2) (λ_=>rfl) O hv)<|QK (QD I)<|QK (Qv I I O)<|QM I (λ_ _ f h=>Sk (n:=((i2.k+1:Nat):Int)) f O O) λc89=>QM I (λ_ _ f h=>OR (x:=c89) (r:=(((i2.k+1:Nat):Int):Rat)) f h.2 (by show((i2.k+1:Nat):Int)≠0;omega) (by have h1:=GF ((i2.k+1:Nat):Int);have h2:sz ((i2.k+1:Nat):Int)<=40:=(XE _ 40).2 O;omega)) λc90=>QM I (λ_ _ f h=>Ru (x:=(el s.y.2 i2.k).1) (y:=c90) (a:=el (KS (el rs i3.i) (ZX t i2.k::Jt rs t vb i2.k) i2.k) i2.k) (r:=(((i2.k+1:Nat):Int):Rat)⁻¹) f ((hsum _ h.1.1.2).at hsl) h.2 (hok.cf _ hk2 _ hi3) (aW (Mv (by show((i2.k+1:Nat):Int)≠0;omega)) (by have h1:=GF ((i2.k+1:Nat):Int);have h2:sz ((i2.k+1:Nat):Int)<=40:=(XE _ 40).2 O;omega))) λc91=>QK (JL (i:=i3.i) rfl rfl JM Qi O)<|Za<|QR (vs:=Xq c91) rfl rfl rfl Qi I .u2 (QBb (z:=[.int .i64 0,.slice none 0 0,.int .i64 0,.slice none 0 0,.int .i64 0,.slice none 0 0,.int .i64 0,.slice none 0 0]) c91 (nxQ rs t vb i2.k i3.i) rfl i3.len O) wZ<|QE<|Qk<|QC<|QB<|QA (Qv I I O)<|wB 2 I<|Ot (.trans (.swap _ _ _) (.cons _ (MV [_,_,_,_,_] i2.M _ _))) ?_
   exact I1 (⟨i3.i+1,i3.nx++[(c91,nxQ rs t vb i2.k i3.i)],D::i3.Ds,O,by rw[aG,i3.len];rfl,by rw[ao,i3.hv,aN,ao];rfl⟩) I (by show rb.n-(i3.i+1)<rb.n-i3.i;omega) ⟨rfl,rfl,rfl,rfl,rfl,rfl,rfl,rfl,rfl,rfl,rfl,rfl,rfl,trivial⟩ (.cons _ QJZ) λF ⟨⟨⟨⟨hG0,hS⟩,h89⟩,h90⟩,h91⟩=>by obtain⟨⟨⟨⟨⟨⟨⟨⟨⟨⟨hY,hT,hB⟩,hE⟩,hE2⟩,h41⟩,h43⟩,hLT⟩,hN⟩,h68⟩,h70⟩,h75⟩:=hG F hG0;exact⟨⟨⟨⟨⟨⟨⟨hY,hT,hB⟩,hE⟩,hE2⟩,h41⟩,h43⟩,hLT⟩,Z9.snoc hN h91⟩
  have hge3:i3.i=rb.n:=wk<|QKd hc
  refine Q2 ?_
  repeat first|refine QY ?_|refine QP wy ?_
  refine QZ<|QC<|wR I<|QA (Qg I W7)<|QKq 4 I<|JW (ι:=TeJ i2.es i2.k (nxQ rs t vb i2.k)) [(0,_),(2,_),(5,_),(8,_),(9,_),(14,_),(37,_),(38,_),(95,_)] (λi4=>[(96,.int .i64 ((i4.i:Nat):Int))]) (λi4=>(bn,.cells (Xi i3.nx++XY [.int .i64 0,.slice none 0 0,.int .i64 0,.slice none 0 0,.int .i64 0,.slice none 0 0,.int .i64 0,.slice none 0 0] (rb.n-i3.i)).toArray 192 (0,0))::(b13,.cells [.slice (some ⟨e43.b,0,none⟩) (i2.k+1) e43.c].toArray 196 (0,0))::(e43.b,.cells (Xi lt++e43.rest).toArray 192 (0,0))::(bk,.cells (i4.e1.map (VB.sl (i2.k+2))++(i2.es.drop i4.i).map (VB.sl (i2.k+1))).toArray 196 (0,0))::(b5,.cells (Xq x).toArray 192 (0,0))::(i4.M1++(i4.M2++dfB i3.Ds))) (λi4 F=>∀e∈i4.e1,Z9 F e.l) (λi4=>rb.n-i4.i) (⟨0,[],[],i2.M,rfl,by rw[i2.hM];rfl,aq _,rfl,(λ_ h=>by cases h),rfl⟩) we wS QJZ (λ_ _ _ h=>by cases h) λi4=>?_
  simp only[aa,ae];have hi4l:=i4.le;refine wA 6 I ?_;refine QO I (λhc=>?_) λhc=>?_
  ·have hlt4:i4.i<rb.n:=wk<|QKc hc
   have hnx:=i3.len;obtain⟨e4,he4⟩:∃e4,el i2.es i4.i=e4:=⟨_,rfl⟩;have hm4:=Q3 (show i4.i<i2.es.length by omega);have ok4:e4.Ok (i2.k+1):=by rw[<-he4];exact i2.ok _ hm4
   have hd4:i2.es.drop i4.i=e4::i2.es.drop (i4.i+1):=by rw[Hy (show i4.i<i2.es.length by omega),he4]
   have hnx2:(el i3.nx i4.i).2=nxQ rs t vb i2.k i4.i:=U7 i3.hv O;have hM4:i4.M2=e4.box::(i2.es.drop (i4.i+1)).map VB.box:=by rw[i4.hM2,hd4];rfl
   refine vr (by rw[hM4])<|QKr 10 I<|Js 15 (.cons_cons _ (.cons_cons _ (.cons_cons _ (.cons_cons _ (.cons_cons _ tD))))) mixed wm wm ?_
   simp only[aB,aH,aC,aK];refine QK (QD I)<|QK (QD I)<|QK (QD I)<|QK (QD I)<|QK (JL (i:=i4.i) rfl rfl W7 XF O)<|QK (QH I Xg JF)<|QK (Vz (v:=.slice (some ⟨e4.b,0,none⟩) (i2.k+1) e4.c) rfl JF .u3 (by rw[show 0+i4.i*1+0=(i4.e1.map (VB.sl (i2.k+2))).length by rw[af,i4.len];omega,hd4,aS];simp))<|QK (QD I)<|QK (QD I)<|QK (JL (i:=i4.i) rfl rfl JM Qi O)<|QK (FR (vs:=Xq (el i3.nx i4.i).1) rfl Qi .here rfl λj v hv=>ye O hv) ?_
   refine Qo I (Qz JM) Qi Ji I I (λb110=>?_) (λw h=>h.imp (.cons_cons _ (.cons_cons _ (.cons_cons _ (.cons_cons _ (.cons_cons _ tD))))) w9);refine Iy (MV [_,_,_,_,_] i4.M1 _ _).symm ?_;refine Yt (ob:=[e4.box]) (n:=i2.k+1) (k:=1) (sz:=8) (news:=Xq (el i3.nx i4.i).1) rfl rfl JM Qi Ji I Wd ok4.own (Src.row (off:=0) tB (λj q hq=>by rw[aA];rw[ah];exact hq) rfl) O O (Ka _) (.cons_cons _ (.cons_cons _ (.cons_cons _ (.cons_cons _ (.cons_cons _ tD))))) tA (λv111 ob111 hr111=>?_);obtain⟨e5,hl5,ok5,hv5,hob5⟩:=yZ (l:=e4.l++[el i3.nx i4.i]) (by rw[MQ];exact hr111) O;rw[hv5,hob5,bO];refine Iy (MV [_,_,_,_,_] i4.M1 _ _)<|QK (JL (i:=i4.i) rfl rfl W7 XF O)<|QK (QH I Xg JF)<|Za ?_
   rw[hd4,aS];refine QR (vs:=[.slice (some ⟨e5.b,0,none⟩) (i2.k+2) e5.c]) I I I JF I .u3 (QBa (by rw[af,i4.len])) wS<|QE<|Qk<|QC<|QB<|QA (Qv I I O)<|wB 2 I ?_
   exact Ql (⟨i4.i+1,i4.e1++[e5],i4.M1++[e5.box],(i2.es.drop (i4.i+1)).map VB.box,by rw[i4.hM1,ao];rfl,rfl,O,by rw[aG,i4.len];rfl,λe he=>by
      rcases List.mem_append.1 he with he | he
      ·exact i4.ok e he
      ·rw[List.mem_singleton.1 he];exact ok5,by rw[ao,i4.hq,aN,ao];simp only[aS,bK,hl5,ao,he4,hnx2]⟩) (by show rb.n-(i4.i+1)<rb.n-i4.i;omega) wg ((by simp only[ao,aD,aS,bK,aa,ae];exact aR _)) (λF ⟨⟨⟨⟨⟨⟨⟨⟨⟨hY,hT,hB⟩,hE⟩,hE2⟩,h41⟩,h43⟩,hLT⟩,hN⟩,hE4⟩,hs110⟩=>⟨⟨⟨⟨⟨⟨⟨⟨hY,hT,hB⟩,hE⟩,hE2⟩,h41⟩,h43⟩,hLT⟩,hN⟩,λe he=>by
      rcases List.mem_append.1 he with he | he
      ·exact hE4 e he
      rw[List.mem_singleton.1 he,hl5];intro e2 he2;rcases List.mem_append.1 he2 with he2 | he2
      ·exact hE2 _ hm4 e2 (by rw[he4];exact he2)
      rw[List.mem_singleton.1 he2];exact hN _ (Q3 O)⟩)
  have hge4:i4.i=rb.n:=wk<|QKd hc
  refine Q2 ?_
  repeat first|refine QY ?_|refine QP wy ?_
  refine QZ<|Qk<|QC<|QB<|QA (Qv I I O)<|wB 2 I ?_
  have hdn:i2.es.drop i4.i=[]:=List.drop_of_length_le O;have hM0:i4.M2=[]:=by rw[i4.hM2,hdn];rfl
  have hq4:i4.e1.map (λe=>e.l.map (·.2))=Jt rs t vb (i2.k+1):=by
   have e1:=i4.hq;rw[hge4,<-hvb]at e1;rw[e1];refine List.map_congr_left λj hj=>?_;have hj:=List.mem_range.1 hj;have hel:el (Jt rs t vb i2.k) j=(el i2.es j).l.map (·.2):=by rw[<-i2.hq,Ja (show j<(i2.es.map λe=>e.l.map (·.2)).length by rw[af];omega),aM,<-Ja (show j<i2.es.length by omega)]
   show(el i2.es j).l.map (·.2)++[nxQ rs t vb i2.k j]=el (Jt rs t vb i2.k) j++[nxQ rs t vb i2.k j];rw[hel]
  exact I1 (⟨i2.k+1,i4.e1,i4.M1,i3.Ds,i4.hM1,hk2,by rw[i4.len];omega,i4.ok,hq4⟩) I (by show n-(i2.k+1)<n-i2.k;omega) wY (.cons _ (.cons _ (.cons _ (by rw[hdn,hM0,bK,aL,ae];exact aR _)))) λF ⟨⟨⟨⟨⟨⟨⟨⟨hY,hT,hB⟩,hE⟩,hE2⟩,h41⟩,h43⟩,hLT⟩,hN⟩,hE4⟩=>⟨⟨⟨hY,hT,hB⟩,hE⟩,hE4⟩
 have hge2:i2.k=n:=wk<|QKd hc
 refine Q2 ?_
 repeat first|refine QY ?_|refine QP wy ?_
 refine QZ<|QKs 8 I ?_
 rw[i2.hM];refine Ot (ag (l₁:=_::_::i2.es.map VB.box))<|cK i2.Ds I<|QDQ (λw1 h1=>(St.freeze (pre:=[]) (St.QAc (bs:=[_,_]) i2.es h1)).imp tD w9) ?_
 exact QQ ((⟨some ⟨bk,0,none⟩,rb.n,rb.n⟩,i2.es.map λe=>(⟨some ⟨e.b,0,none⟩,i2.k+1,e.c⟩,e.l))) I (wN I) (rfl) λF h9=>QA7 (n:=rb.n) h9.2 h9.1.2 h9.1.1.2 O i2.ok (by have e:=i2.hq;rw[hge2]at e;exact e)
theorem MN(l:List (Rat×Rat))(h:Rat)(i:Nat):Ho l h (i+1)=Z0 (Ho l h i) (JE (el l i) (h^i,h^i)):=by
 unfold Ho;rw[aN,aP];rfl
theorem Vj{vv:List (List (Rat×Rat))}(h:I2 F ls)(hq:ls.map (λe=>e.2.map (·.2))=vv)(hi:i<ls.length):J7 F (el ls i).1 (el ls i).2 (el vv i):=by
 have h1:=h _ (Q3 hi);rw[<-hq,Ja (show i<(ls.map λe=>e.2.map (·.2)).length by rw[af];exact hi),aM,<-Ja hi];exact h1
structure vd(rs:List (List Tm))(fr t2:Rat)(x on:List (Rat×Rat))(n:Nat):Prop where
 y1:AK rs (fr,fr) x n
 y2:AK rs (fr,t2) on (n+1)
 e1:∀i,i<x.length->∀k,k<=n->Xb (el (el (Jt rs (fr,fr) x n) i) k) 10000000
 e2:∀i,i<x.length->Xb (el (el (Jt rs (fr,t2) on (n+1)) i) (n+1)) 10000000
 su:∀i,i<x.length->∀k,k<=n+1->Xb (Ho (el (Jt rs (fr,fr) x n) i) (t2-fr) k) 50000000
 pw:∀k,k<=n+1->JQ ((t2-fr)^k)<=10000000
 hh:JQ (t2-fr)<=1000000
 tm:JQ fr<=10000000/\JQ t2<=10000000
theorem M5{y:j9}{x:xB}{rs:List (List Tm)}{vs vx von:List (Rat×Rat)}{ro:Sr}{lo:List Yr}{n:Nat}(hF:Fits F w)(hy:Ga F y rs vs)(hx:Mp F x fr t2 vx)(ho:J7 F ro lo von)(hn:y.rt.n=x.bx.n)(hno:ro.n=x.bx.n)(hnx:x.bx.n<=1000)(hn0:0<x.bx.n)(hor:n<=300)(hpn:∀e∈y.ps,e.1.n<=100000)(hk:vd rs fr t2 vx von n):
  We prog 188 [.pointer (some ⟨y.b,0,none⟩),x.v,ro.v,.int .i64 (n:Int)] w F (Zw rs fr t2 vx von n):=by
 have hxl2:=hx.bx.YI;have hol2:=ho.YI;have hbl2:=hx.bx.len;refine QT.intro (G:=λF=>Ga F y rs vs/\Mp F x fr t2 vx/\J7 F ro lo von) func188 rfl wy rfl rfl hF (λF' hF'=>⟨hy.le hF',hx.le hF',ho.le hF'⟩)<|QKO<|Qu rfl (vs:=[_,_,_,_,_,_,_,_,_]) rfl λb5=>wQ rfl<|QKO<|QA (QH rfl By Qa)<|QA (wL I Qa .here)<|QA (QH rfl Bz Qa)<|QA (wJ I Qa .here)<|QI rfl (λ_ _ f k=>Uv (x:=x.S5) (y:=x.fr) (r:=t2) (s:=fr) f k.2.1.S5 k.2.1.fr (aW hk.tm.2 wu) (aW hk.tm.1 wu)) λc21=>Qc XZ λb9=>QR (vs:=[_,_,_,_]) rfl rfl rfl Qa rfl .here .h4 wV<|QJC<|QG<|JK QJZ mixed wm<|QK (QD rfl)<|QK (QH rfl Bz Qa)<|QK (wJ I Qa .u1)<|QM rfl (λ_ _ f k=>Kg (x:=x.fr) (r:=fr) f k.1.2.1.fr) λc25=>QK (QH rfl Bw JF) ?_
 refine QK (Qf rfl JF .u1 (.skip (.skip (.skip (.skip (.skip (.skip (.skip (.skip .h1)))))))))<|QK (QD rfl)<|QM rfl (λ_ _ f k=>P8 (y:=y) (x:=c25) (t:=(fr,fr)) (n:=n) f k.1.1.1 k.2 k.1.1.2.1.bx hn hnx hn0 O hpn hk.y1) λc29=>Yh _ (λ_ _ f h=>au h.2.2.2.1 h.2.2.2.2.1) λh29p=>?_
 obtain⟨hq29,hl29⟩:=h29p;have hn29:c29.2.length=(vx).length:=by have e:=congrArg bm hq29;rw[af,VQ]at e;exact e
 refine QK (QF I)<|Q5<|QC<|wR I<|QA (QH I Bz Qa)<|QA (wJ I Qa .u1)<|QA (QH I By Qa)<|QA (wL I Qa .u1)<|QA (Qx I Z4 Ji (.cons (vs:=[_,_,_,_]) I I I .h4 (.cons (vs:=[_,_,_,_]) I I I (.skip (.skip (.skip (.skip .h4)))) .nil)))<|wB 2 I<|QA (Qv I I O) ?_
 rw[show((n:Int)+1)=((n+1:Nat):Int) by omega];refine QI rfl (λw F hF ⟨⟨⟨⟨hY,hX,hO⟩,h21⟩,h25⟩,h29⟩=>P8 (y:=y) (x:=⟨x.fr,x.S5⟩) (t:=(fr,t2)) (n:=n+1) hF hY ⟨hX.fr,hX.S5⟩ hO O O O O hpn hk.y2) (λc39=>JN _ (λ_ _ f h=>au h.2.2.2.1 h.2.2.2.2.1) λh39p=>?_);obtain⟨hq39,hl39⟩:=h39p;have hn39:c39.2.length=(von).length:=by have e:=congrArg bm hq39;rw[af,VQ]at e;exact e
 refine QKq 11 I<|QA (QH I Bw JF)<|QA (Qf I JF .u1 (.skip (.skip (.skip (.skip (.skip (.skip (.skip (.skip .h1)))))))))<|QA (Qg I JM)<|QKq 4 I<|JW (ι:=Wn (x.bx.n) λi=>Z0 (Ho (el (Jt rs (fr,fr) vx n) i) (t2-fr) (n+1)) (JE (el (el (Jt rs (fr,t2) von (n+1)) i) (n+1)) ((t2-fr)^(n+1),(t2-fr)^(n+1)))) [(3,_),(9,_),(10,_),(11,_),(42,_)] (λi=>[(12,i.v),(43,.int .i64 ((i.i:Nat):Int))]) (λi=>(b9,.cells (KV c21).toArray 95 (0,0))::(b5,.cells (dZ x).toArray 173 (0,0))::i.ob) (λi F=>Z9 F i.l) (λi=>(x.bx.n)-i.i) (Wn.start _ _) wW wT QJZ (λ_ _=>Z9.nil _) λi=>?_
 simp only[aa,ae];have hi:=i.le;refine wA 6 I ?_;refine QO I (λhc=>?_) λhc=>?_
 ·have hlt:i.i<x.bx.n:=wk<|QKc hc
  have hix:i.i<vx.length:=O;have hi29:i.i<c29.2.length:=O;have hi39:i.i<c39.2.length:=O;refine XQ _ (λw F hF ⟨⟨⟨⟨⟨⟨hY,hX,hO⟩,h21⟩,h25⟩,h29⟩,h39⟩,hS⟩=>au (Vj h29.2.1 hq29 hi29).YI (au (Vj h29.2.1 hq29 hi29).len (au (Vj h39.2.1 hq39 hi39).YI (Vj h39.2.1 hq39 hi39).len))) (λhvv=>?_);obtain⟨hv29,hw29,hv39,hw39⟩:=hvv;rw[KY _ _ _ _ O]at hv29 hv39;refine QKr 12 I<|QI I (λ_ _ f k=>Sk (n:=0) f wu wu) λc46=>QI I (λ_ _ f k=>Kg (x:=c46) (r:=((0:Int):Rat)) f k.2) λc47=>Qc Ji λb14=>QR (vs:=[_,_,_,_,_,_,_,_]) I I I Qi I .here .h8 wZ<|QKq 7 I<|QA (Q6 (n:=c29.1.n) i.i (λF h9=>h9.1.1.1.1.2.1) rfl rfl W7 XF O)<|QA (QH I Xg JF) ?_
  refine QA (JA (n:=c29.1.n) ((i.i)*1) (λF h9=>h9.1.1.1.1.2.1) O rfl JF (Xa (f:=λe:AW=>e.1.v) (l:=c29.2) hi29))<|QA (Qg I JM)<|QKq 4 I<|JW (ι:=VaI (n+1)) [(3,_),(9,_),(10,_),(11,_),(12,_),(13,_),(14,_),(42,_),(43,_),(52,_),(53,_)] (λi2=>[(54,.int .i64 ((i2.i:Nat):Int))]) (λi2=>(b14,.cells (Xq i2.x).toArray 192 (0,0))::(b9,.cells (KV c21).toArray 95 (0,0))::(b5,.cells (dZ x).toArray 173 (0,0))::i.ob) (λi2 F=>Jj F i2.x (Ho (el (Jt rs (fr,fr) vx n) i.i) (t2-fr) i2.i)) (λi2=>n+1-i2.i) (⟨0,c47,aq _⟩) wi wS QJZ tB λi2=>?_
  simp only[aa,ae];have hj:=i2.le;refine wA 6 I ?_;refine QO I (λhc=>?_) λhc=>?_
  ·have hlt2:i2.i<n+1:=wk<|QKc hc
   refine QKr 7 I<|QA (Q6 (n:=(el c29.2 i.i).1.n) (i2.i) (λF ⟨⟨⟨⟨⟨⟨⟨⟨⟨hY,hX,hO⟩,h21⟩,h25⟩,h29⟩,h39⟩,hS⟩,h46⟩,h47⟩,hZ⟩=>(Vj h29.2.1 hq29 hi29).row) rfl rfl JM Qi O)<|QA (JX (n:=(el c29.2 i.i).1.n) (vs:=[.int .i64 (el (el c29.2 i.i).2 (i2.i)).1.lo.n.s,.slice (el (el c29.2 i.i).2 (i2.i)).1.lo.n.q (el (el c29.2 i.i).2 (i2.i)).1.lo.n.n (el (el c29.2 i.i).2 (i2.i)).1.lo.n.cap,.int .i64 (el (el c29.2 i.i).2 (i2.i)).1.lo.d.s,.slice (el (el c29.2 i.i).2 (i2.i)).1.lo.d.q (el (el c29.2 i.i).2 (i2.i)).1.lo.d.n (el (el c29.2 i.i).2 (i2.i)).1.lo.d.cap,.int .i64 (el (el c29.2 i.i).2 (i2.i)).1.hi.n.s,.slice (el (el c29.2 i.i).2 (i2.i)).1.hi.n.q (el (el c29.2 i.i).2 (i2.i)).1.hi.n.n (el (el c29.2 i.i).2 (i2.i)).1.hi.n.cap,.int .i64 (el (el c29.2 i.i).2 (i2.i)).1.hi.d.s,.slice (el (el c29.2 i.i).2 (i2.i)).1.hi.d.q (el (el c29.2 i.i).2 (i2.i)).1.hi.d.n (el (el c29.2 i.i).2 (i2.i)).1.hi.d.cap]) ((i2.i)*8) (λF ⟨⟨⟨⟨⟨⟨⟨⟨⟨hY,hX,hO⟩,h21⟩,h25⟩,h29⟩,h39⟩,hS⟩,h46⟩,h47⟩,hZ⟩=>(Vj h29.2.1 hq29 hi29).row) O rfl Qi I λj v hv=>Jc (f:=(λe=>Xq e.1)) (l:=(el c29.2 i.i).2) (λ_=>rfl) O hv)<|Qc Ji λb16=>QJE I<|QR (vs:=[_,_,_,_,_,_,_,_]) I I I Qi I .here .h8 wZ<|QJC<|Js 7 QJZ mixed wm wm ?_
   simp only[aB,aH,aC,aK];refine QK (wK I Qi .u1)<|QK (wK I Qi .here)<|QK (wJ I Qa .u2)<|QK (QD I)<|QM I (λ_ _ f h=>Me (x:=c21) (r:=t2-fr) (k:=(i2.i:Int)) f h.1.1.1.1.1.1.1.2 O O (by rw[aj];have h3:i2.i*JQ (t2-fr)<=400*1000000:=aV O hk.hh;omega)) λc63=>?_
   rw[aj];refine QM I (λw F hF ⟨⟨⟨⟨⟨⟨⟨⟨⟨⟨hY,hX,hO⟩,h21⟩,h25⟩,h29⟩,h39⟩,hS⟩,h46⟩,h47⟩,hZ⟩,h63⟩=>Ru (x:=(el (el c29.2 i.i).2 i2.i).1) (y:=c63) (a:=el (el (Jt rs (fr,fr) vx n) i.i) i2.i) (r:=(t2-fr)^i2.i) hF ((Vj h29.2.1 hq29 hi29).at (show i2.i<(el c29.2 i.i).1.n by omega)) h63 ((hk.e1 _ hix _ O).mono wu) (aW (hk.pw _ O) wu)) (λc64=>QM I (λ_ _ f k=>Mj (x:=i2.x) (y:=c64) (a:=Ho (el (Jt rs (fr,fr) vx n) i.i) (t2-fr) i2.i) (b:=JE (el (el (Jt rs (fr,fr) vx n) i.i) i2.i) ((t2-fr)^i2.i,(t2-fr)^i2.i)) f k.1.1.2 k.2 ((hk.su _ hix _ O).mono wu) ((K9 (hk.e1 _ hix _ O) ⟨hk.pw _ O,hk.pw _ O⟩).mono wu)) λc65=>Za<|QR (vs:=[_,_,_,_,_,_,_,_]) I I I Qi I .u1 .h8 wZ<|QE<|Qk<|QC<|QB<|QA (Qv I I O)<|wB 2 I ?_);exact Ql (⟨i2.i+1,c65,hlt2⟩) (by show n+1-(i2.i+1)<n+1-i2.i;omega) wj (.cons _ QJZ) λF ⟨⟨⟨⟨⟨⟨⟨⟨⟨⟨⟨⟨hY,hX,hO⟩,h21⟩,h25⟩,h29⟩,h39⟩,hS⟩,h46⟩,h47⟩,hZ⟩,h63⟩,h64⟩,h65⟩=>⟨⟨⟨⟨⟨⟨⟨⟨⟨hY,hX,hO⟩,h21⟩,h25⟩,h29⟩,h39⟩,hS⟩,h46⟩,h47⟩,by show Jj F c65 (Ho _ _ (i2.i+1));rw[MN];exact h65⟩
  have hge2:i2.i=n+1:=wk<|QKd hc
  have hz2:∀F,Jj F i2.x (Ho (el (Jt rs (fr,fr) vx n) i.i) (t2-fr) i2.i)->Jj F i2.x (Ho (el (Jt rs (fr,fr) vx n) i.i) (t2-fr) (n+1)):=λF h=>by rw[hge2]at h;exact h
  refine Q2 ?_
  repeat first|refine QY ?_|refine QP wy ?_
  refine QZ<|QC<|JK tG mixed wm<|QK (QD I)<|QK (wK I Qi .here)<|QK (QD I)<|QK (QD I)<|QK (Q6 (n:=c39.1.n) i.i (λF h9=>h9.1.1.1.1.2.1) rfl rfl W7 XF O)<|QK (QH I Xg JF)<|QK (JA (n:=c39.1.n) ((i.i)*1) (λF h9=>h9.1.1.1.1.2.1) O rfl JF (Xa (f:=λe:AW=>e.1.v) (l:=c39.2) hi39))<|QK (QD I)<|QK (Qv I I O)<|QK (Q6 (n:=(el c39.2 i.i).1.n) ((n+1)) (λF ⟨⟨⟨⟨⟨⟨⟨⟨⟨hY,hX,hO⟩,h21⟩,h25⟩,h29⟩,h39⟩,hS⟩,h46⟩,h47⟩,hZ⟩=>(Vj h39.2.1 hq39 hi39).row) rfl wM JM Qi O)<|QK (JX (n:=(el c39.2 i.i).1.n) (vs:=[.int .i64 (el (el c39.2 i.i).2 ((n+1))).1.lo.n.s,.slice (el (el c39.2 i.i).2 ((n+1))).1.lo.n.q (el (el c39.2 i.i).2 ((n+1))).1.lo.n.n (el (el c39.2 i.i).2 ((n+1))).1.lo.n.cap,.int .i64 (el (el c39.2 i.i).2 ((n+1))).1.lo.d.s,.slice (el (el c39.2 i.i).2 ((n+1))).1.lo.d.q (el (el c39.2 i.i).2 ((n+1))).1.lo.d.n (el (el c39.2 i.i).2 ((n+1))).1.lo.d.cap,.int .i64 (el (el c39.2 i.i).2 ((n+1))).1.hi.n.s,.slice (el (el c39.2 i.i).2 ((n+1))).1.hi.n.q (el (el c39.2 i.i).2 ((n+1))).1.hi.n.n (el (el c39.2 i.i).2 ((n+1))).1.hi.n.cap,.int .i64 (el (el c39.2 i.i).2 ((n+1))).1.hi.d.s,.slice (el (el c39.2 i.i).2 ((n+1))).1.hi.d.q (el (el c39.2 i.i).2 ((n+1))).1.hi.d.n (el (el c39.2 i.i).2 ((n+1))).1.hi.d.cap]) (((n+1))*8) (λF ⟨⟨⟨⟨⟨⟨⟨⟨⟨hY,hX,hO⟩,h21⟩,h25⟩,h29⟩,h39⟩,hS⟩,h46⟩,h47⟩,hZ⟩=>(Vj h39.2.1 hq39 hi39).row) O rfl Qi I λj v hv=>Jc (f:=(λe=>Xq e.1)) (l:=(el c39.2 i.i).2) (λ_=>rfl) O hv)<|QK (wJ I Qa .u1)<|QK (QD I)<|QK (Qv I I O) ?_
  rw[show((n:Int)+1)=((n+1:Nat):Int) by omega];refine QM I (λ_ _ f h=>Me (x:=c21) (r:=t2-fr) (k:=((n+1:Nat):Int)) f h.1.1.1.1.1.1.1.2 O O (by rw[aj];have h3:(n+1)*JQ (t2-fr)<=400*1000000:=aV O hk.hh;omega)) (λc81=>?_);rw[aj];refine QM I (λw F hF ⟨⟨⟨⟨⟨⟨⟨⟨⟨⟨hY,hX,hO⟩,h21⟩,h25⟩,h29⟩,h39⟩,hS⟩,h46⟩,h47⟩,hZ⟩,h81⟩=>Ru (x:=(el (el c39.2 i.i).2 (n+1)).1) (y:=c81) (a:=el (el (Jt rs (fr,t2) von (n+1)) i.i) (n+1)) (r:=(t2-fr)^(n+1)) hF ((Vj h39.2.1 hq39 hi39).at (show n+1<(el c39.2 i.i).1.n by omega)) h81 ((hk.e2 _ hix).mono wu) (aW (hk.pw _ O) wu)) (λc82=>QM I (λ_ _ f k=>Mj (x:=i2.x) (y:=c82) (a:=Ho (el (Jt rs (fr,fr) vx n) i.i) (t2-fr) (n+1)) (b:=JE (el (el (Jt rs (fr,t2) von (n+1)) i.i) (n+1)) ((t2-fr)^(n+1),(t2-fr)^(n+1))) f (hz2 _ k.1.1.2) k.2 ((hk.su _ hix _ O).mono wu) ((K9 (hk.e2 _ hix) ⟨hk.pw _ O,hk.pw _ O⟩).mono wu)) λc83=>?_);refine Qo I (Qz JM) Qi Ji I I (λb84=>?_) (λw h=>h.imp tG λF h=>h.1.1.1);refine Yi (ag (l₁:=[_,_,_])) ?_;refine Yt (n:=i.i) (k:=1) (sz:=8) (news:=Xq c83) rfl rfl JM Qi Ji I Wd i.hr (Src.row (off:=0) tB (λj q hq=>by rw[aA];rw[ah];exact hq) rfl) O O (Ka _) QJZ (λ_ h=>h.1.1.1.1) (λv85 ob85 hr85=>?_);refine Yi (ag (l₂:=[_,_,_]))<|QK (QF I)<|Q5<|Qk<|QC<|QB<|QA (Qv I I O)<|wB 2 I ?_
  exact Ql (i.next hlt c83 _ hr85 rfl) (by show x.bx.n-(i.i+1)<x.bx.n-i.i;omega) wY (.cons _ QJZ) λF ⟨⟨⟨⟨⟨⟨⟨⟨⟨⟨⟨⟨⟨hY,hX,hO⟩,h21⟩,h25⟩,h29⟩,h39⟩,hS⟩,h46⟩,h47⟩,hZ⟩,h81⟩,h82⟩,h83⟩,hs84⟩=>⟨⟨⟨⟨⟨⟨hY,hX,hO⟩,h21⟩,h25⟩,h29⟩,h39⟩,hS.snoc h83⟩
 have hge:i.i=x.bx.n:=wk<|QKd hc
 refine Q2 ?_
 repeat first|refine QY ?_|refine QP wy ?_
 refine QZ<|QKs 3 I ?_
 have hxl:=i.len;obtain⟨⟨rq,rn,rc⟩,hv2,hrn,hrc,hfix⟩:=Q7.fix (w0:=w) (F0:=F) (bs1:=[_,_]) (G:=_) i.hr;dsimp only at hrn hrc hfix;subst hrn;refine YB hfix ?_;rw[hv2];dsimp only[Sr.v];refine QKq 5 I ?_;exact QQ ((⟨rq,i.i,rc⟩,i.l)) I (wN I) (rfl) λF h9=>by have:=i.box hge (r:=⟨rq,i.i,rc⟩) h9.2 I hrc h9.1.2;unfold Zw;rw[hxl2];exact this
structure KM(F:Gs)(r:Sr)(l:List (List UInt8×List UInt8)):Prop where
 row:Qw F r.q r.n 2 (l.flatMap UH)
 len:l.length=r.n
theorem KM.le{r:Sr}(h:KM F r l)(k:Gs.le F F'):KM F' r l:=⟨h.row.le k,h.len⟩
structure H8(r:Sr)(l:List (List UInt8×List UInt8)):Prop where
 n:r.n<=1000000
 t:∀s∈l,s.1.length<=1000000/\s.2.length<=1000000
def Ym(n:Nat)(l:List (List UInt8×List UInt8)):Int:=if l.length≠n then 2 else Qp (l.map λs=>Xc s.1 s.2)
def Hr(o:Int):Int:=if(decide (o<1)||decide (o>16))=true then 3 else 0
def VU(o:Int):Int:=if(decide (o<0)||decide (o>64))=true then 3 else 0
def Vi(a b:Rat):Int:=if decide (Z7 b a<=0)=true then 11 else 0
def NP(l:Rat)(s:List UInt8):Int:=if Jd s≠0 then Jd s else Vi l (Qh s)
def Yv(l:List (List UInt8))(i:Nat):Rat:=if i=0 then((0:Int):Rat)else Qh (el l (i-1))
def MI(l:List (List UInt8)):Int:=if l.length>1000 then 5 else Qp ((aF l.length).map λi=>NP (Yv l i) (el l i))
theorem G8{l:Rat}(h:NP l s=0):Jd s=0/\Vi l (Qh s)=0:=by
 unfold NP at h;split at h
 ·exact absurd h ‹_›
 rename_i h1;exact⟨Decidable.byContradiction h1,h⟩
theorem Wb(l:List (List UInt8))(i:Nat):Yv l (i+1)=Qh (el l i):=by unfold Yv;rw[if_neg O,Nat.add_sub_cancel]
structure QIM(l:List (List UInt8)) extends ZK (aF l.length) (λi=>NP (Yv l i) (el l i)) where
 c:Fr
 ok:JQ (Yv l i)<=2400
theorem V8{o:Int}(hF:Fits F w):Qe prog 104 [.int .i64 o] w F (.int .i64 (Hr o)):=by
 refine QT.intro (G:=λF=>True) func104 rfl wy rfl rfl hF w8<|QKO<|wQ rfl<|wR rfl<|QA (QU rfl rfl rfl)<|QJD rfl ?_
 refine Qs (t:=5) rfl (λhb5=>?_) λhb5=>?_
 ·refine wB 3 I<|QI I (λ_ _ f k=>Bt f ) λ_=>wQ I<|QW ?_
  exact QKx I I (congrArg (ai .i64) (by unfold Hr;rw[hb5];rfl)) w8
 refine wB 5 I<|QI I (λ_ _ f k=>Bt f ) λ_=>wQ I<|QW ?_
 exact QKx I I (congrArg (ai .i64) (by unfold Hr;rw[hb5];rfl)) w8
theorem Bc{o:Int}(hF:Fits F w):Qe prog 105 [.int .i64 o] w F (.int .i64 (VU o)):=by
 refine QT.intro (G:=λF=>True) func105 rfl wy rfl rfl hF w8<|QKO<|wQ rfl<|wR rfl<|QA (QU rfl rfl rfl)<|QJD rfl ?_
 refine Qs (t:=5) rfl (λhb5=>?_) λhb5=>?_
 ·refine wB 3 I<|QI I (λ_ _ f k=>Bt f ) λ_=>wQ I<|QW ?_
  exact QKx I I (congrArg (ai .i64) (by unfold VU;rw[hb5];rfl)) w8
 refine wB 5 I<|QI I (λ_ _ f k=>Bt f ) λ_=>wQ I<|QW ?_
 exact QKx I I (congrArg (ai .i64) (by unfold VU;rw[hb5];rfl)) w8
theorem V9{a b:List UInt8}(hF:Fits F w)(hGl:JC F)(ha:Jd a=0/\a.length<=1000000)(hb:Jd b=0/\b.length<=1000000):Qe prog 183 [tx a,tx b] w F (.int .i64 (Vi (Qh a) (Qh b))):=by
 have za:=YM ha.1;have zb:=YM hb.1;refine QT.intro (G:=λF=>JC F) func183 rfl wy rfl rfl hF (λF' hF'=>hGl.le hF')<|QKO<|wQ rfl<|wR rfl<|QI rfl (λ_ _ f k=>Yw f k (XI hb.1).1 O) λc6=>QJD rfl<|QI rfl (λ_ _ f k=>Yw f k.1 (XI ha.1).1 O) λc8=>QI rfl (λ_ _ f k=>GU f k.1.2 k.2 O O) λ_=>QA (QU rfl rfl rfl)<|QI rfl (λ_ _ f k=>Bt f ) λ_=>wQ rfl<|QW ?_
 exact QKx I I (rfl) w8
theorem KA{r:Sr}(hF:Fits F w)(hGl:JC F)(hy:ZZ F y)(hb:KM F r l)(hc:H8 r l):Qe prog 121 [y.v,r.v] w F (.int .i64 (Ym y.nm.n l)):=by
 have hl:=hb.len;have hn:=hc.n;refine QT.intro (G:=λF=>JC F/\ZZ F y/\KM F r l) func121 rfl wy rfl rfl hF (λF' hF'=>⟨hGl.le hF',hy.le hF',hb.le hF'⟩)<|QKO<|Qu rfl (vs:=[_,_,_]) rfl λb2=>wQ rfl<|QG<|wR rfl<|QA (Qg rfl XW)<|QA (QH rfl BX Vq)<|QA (Qf rfl Vq .here .h1)<|QA (Qg rfl Kx)<|QA (QU rfl rfl rfl)<|QE<|QC ?_
 refine QO I (λhc2=>?_) λhc2=>?_
 ·have h13:=bne_iff_ne.1 hc2;refine wA 6 I ?_;exact QKx I I (congrArg (ai .i64) (by unfold Ym;rw[if_pos O])) w8
 have h13:=bne_eq_false_iff_eq.1 hc2;refine QKr 6 I<|QA (Qg I XW)<|QKq 4 I<|XM (ι:=ZK l λs=>Xc s.1 s.2) [(14,_),(15,_)] (λi=>[(16,.int .i64 ((i.i:Nat):Int))]) (λi=>l.length-i.i) (ZK.start _ _) wT wS λi=>?_
 simp only[aa,ae];have hi:=i.le;refine wA 6 I ?_;refine QO I (λhc2=>?_) λhc2=>?_
 ·have hlt:i.i<l.length:=wk<|QKc hc2
  have hem:=Q3 hlt;refine QKr 6 I<|QA (Q6 (n:=r.n) i.i (λF h9=>h9.2.2.row) rfl rfl XW J1 O)<|QA (JX (n:=r.n) (vs:=[tx (el l i.i).1,tx (el l i.i).2]) ((i.i)*2) (λF h9=>h9.2.2.row) O rfl J1 I λj v hv=>Jc (f:=UH) (l:=l) Gn O hv)<|Qc Xh λb6=>QR (vs:=[_,_]) I I I J1 I .here .h2 wT<|QJC<|QKO<|QA (wH I J1 .here)<|QI I (λ_ _ f k=>W1 f k.1 (hc.t _ hem)) λ_=>QKq 9 I ?_
  refine QO I (λhc2=>?_) λhc2=>?_
  ·have h23:=bne_iff_ne.1 hc2;refine wA 7 I ?_
   repeat first|refine Q4 ?_|refine Qy ?_
   exact QKx I I (congrArg (ai .i64) (by unfold Ym;rw[if_neg O];exact i.hit hlt h23)) w8
  have h23:=bne_eq_false_iff_eq.1 hc2;refine QN<|Qk<|QC<|QB<|QA (Qv I I O)<|wB 2 I ?_
  exact Ql (i.next hlt h23) (by show l.length-(i.i+1)<l.length-i.i;omega) wU ((ef _ QJZ)) tA
 have hge:l.length<=i.i:=wk<|QKd hc2
 refine Q2 ?_
 repeat first|refine QY ?_|refine QP wy ?_
 refine QZ<|QKs 7 I ?_
 exact QKx I I (congrArg (ai .i64) (by unfold Ym;rw[if_neg O];exact i.stop hge)) w8
theorem M6{a b:List UInt8}{r:Sr}(hF:Fits F w)(hGl:JC F)(ha:Jd a=0/\a.length<=1000000)(hb:Jd b=0/\b.length<=1000000)(hx:KM F r l)(hc:H8 r l)(ho:∀s∈l,Xc s.1 s.2=0):QT prog 185 [tx a,r.v,tx b] w F (λ(c:xB)=>c.v) (λc F=>Mp F c (Qh a) (Qh b) (l.map JG)):=by
 refine QT.intro (G:=λF=>JC F/\KM F r l) func185 rfl wy rfl rfl hF (λF' hF'=>⟨hGl.le hF',hx.le hF'⟩)<|QKO<|Qc Ox λb6=>QJC<|wR rfl<|QI rfl (λ_ _ f k=>Yw f k.1 (XI ha.1).1 O) λc8=>QJD rfl<|QI rfl (λ_ _ f k=>Yw f k.1.1 (XI hb.1).1 O) λc10=>QJD rfl<|QI rfl (λ_ _ f k=>BZ f k.1.1.1 k.1.1.2.row k.1.1.2.len hc.n λs hs=>⟨ho s hs,hc.t s hs⟩) λc12=>QA (Qx rfl yU Ox (.cons (vs:=[_,_,_,_]) rfl rfl rfl .h4 (.cons (vs:=[_,_,_,_]) rfl rfl rfl (.skip (.skip (.skip (.skip .h4)))) (.cons (vs:=[_]) rfl rfl rfl (.skip (.skip (.skip (.skip (.skip (.skip (.skip (.skip .h1)))))))) .nil))))<|QR (vs:=[_,_,_,_,_,_,_,_,_]) rfl rfl rfl BA rfl .here .h9 we<|QJC<|QW ?_
 exact QQ ((⟨c8,c10,c12.1,c12.2⟩:xB)) I (.JZ (c:=[_,_,_,_,_,_,_,_,_]) I BA .here .nil) (rfl) λF ⟨⟨⟨⟨hGl,hx⟩,h8⟩,h10⟩,h12⟩=>⟨h8,h10,h12⟩
def Yn(y:ZR)(a:List UInt8)(l:List (List UInt8×List UInt8))(b:List UInt8):Int:=Qp [y.e,Jd a,Ym y.nm.n l,Jd b]
theorem Wz{a b:List UInt8}{r:Sr}(hF:Fits F w)(hGl:JC F)(hy:ZZ F y)(ht:HM y)(hb:KM F r l)(hc:H8 r l)(ha:a.length<=1000000)(hb2:b.length<=1000000):Qe prog 182 [y.v,tx a,r.v,tx b] w F (.int .i64 (Yn y a l b)):=by
 refine QT.intro (G:=λF=>JC F/\ZZ F y/\KM F r l) func182 rfl wy rfl rfl hF (λF' hF'=>⟨hGl.le hF',hy.le hF',hb.le hF'⟩)<|QKO<|Qu rfl (vs:=[_,_,_]) rfl λb4=>wQ rfl<|QG<|JK QJZ mixed wm<|QK (wI I XA .here)<|QM rfl (λ_ _ f k=>Zf (y:=y) f k.1 k.2.1 ht) λ_=>QK (QD rfl)<|QM rfl (λ_ _ f k=>B5 f k.1.1 O) λ_=>QK (wI I XA .here)<|QK (QD rfl)<|QM rfl (λw F hF ⟨⟨⟨hGl,hy,hb⟩,_⟩,_⟩=>KA (y:=y) hF hGl hy hb hc) λ_=>QK (QD rfl)<|QM rfl (λ_ _ f k=>B5 f k.1.1.1.1 O) λ_=>?_
 refine Qo I (Qz ZL) YT H5 I I (λb18=>?_) (λw h=>h.imp tC λF h=>h.1.1.1.1);refine QM I (λ_ _ f k=>YO f (Qw.of (cs:=aU Jn [_,_,_,_]) k.2 I) wu) (λ_=>QK (QF I)<|Q5<|QC<|QW ?_);exact QKx I I (rfl) w8
theorem Tt{c:Fr}{x:Rat}(hF:Fits F w)(hGl:JC F)(hx:JP F c x)(hz:JQ x<=2400)(hs:s.length<=1000000):Qe prog 214 [c.v,tx s] w F (.int .i64 (NP x s)):=by
 refine QT.intro (G:=λF=>JC F/\JP F c x) func214 rfl wy rfl rfl hF (λF' hF'=>⟨hGl.le hF',hx.le hF'⟩)<|QKO<|Qu rfl (vs:=[_,_,_,_]) rfl λb2=>wQ rfl<|QG<|wR rfl<|QI rfl (λ_ _ f k=>B5 f k.1 O) λ_=>wQ rfl<|wR rfl<|QA (QU rfl rfl rfl)<|QE<|QC ?_
 refine QO I (λhc2=>?_) λhc2=>?_
 ·have hc9:=bne_iff_ne.1 hc2;refine wA 7 I ?_;exact QKx I I (congrArg (ai .i64) (by unfold NP;rw[if_pos hc9])) w8
 have hc9:=bne_eq_false_iff_eq.1 hc2;have zs:=YM hc9;refine QKr 3 I<|JK QJZ mixed wm<|QK (QD I)<|QM I (λ_ _ f k=>Yw f k.1.1 (XI hc9).1 O) λc12=>QK (wJ I Qa .here)<|QM I (λ_ _ f k=>GU f k.2 k.1.1.2 O O) λ_=>QK (QU I I I)<|QM I (λ_ _ f k=>Bt f ) λ_=>QK (QF I)<|Q5<|QC<|QW ?_
 exact QKx I I (congrArg (ai .i64) (by unfold NP;rw[if_neg (by simpa using hc9)];rfl)) w8
theorem Ih{q:Option Addr}{l:List (List UInt8)}(hF:Fits F w)(hGl:JC F)(hR:Qw F q n 1 (l.map tx))(hn:l.length=n)(hl:n>1000\/∀s∈l,s.length<=1000000):Qe prog 103 [.slice q n c] w F (.int .i64 (MI l)):=by
 refine QT.intro (G:=λF=>JC F/\Qw F q n 1 (l.map tx)) func103 rfl wy rfl rfl hF (λF' hF'=>⟨hGl.le hF',hR.le hF'⟩)<|QKO<|wQ rfl<|QG<|wR rfl<|QA (Qg rfl Z6)<|QA (QU rfl rfl rfl)<|QE<|QC ?_
 refine QO I (λhc2=>?_) λhc2=>?_
 ·have h9:=QKc hc2;refine wA 6 I ?_;exact QKx I I (congrArg (ai .i64) (by unfold MI;rw[if_pos O])) w8
 have h9:=QKd hc2;have hl2:∀s∈l,s.length<=1000000:=hl.resolve_left O;refine QKr 4 I<|QI I (λ_ _ f k=>Sk (n:=0) f O O) λc10=>Qc XZ λb3=>QR (vs:=[_,_,_,_]) I I I Qa I .here .h4 wV<|QKq 6 I<|QA (Qg I Z6)<|QKq 4 I<|JW (ι:=QIM l) [(3,_),(11,_),(12,_)] (λi=>[(13,.int .i64 ((i.i:Nat):Int))]) (λi=>[(b3,.cells (KV i.c).toArray 95 (0,0))]) (λi F=>JP F i.c (Yv l i.i)) (λi=>l.length-i.i) (⟨ZK.start _ _,c10,by show JQ ((0:Int):Rat)<=2400;decide⟩) wU wS QJZ tB λi=>?_
 simp only[aa,ae];have hi:=i.le;rw[av]at hi;refine wA 6 I ?_;refine QO I (λhc2=>?_) λhc2=>?_
 ·have hlt:i.i<l.length:=wk<|QKc hc2
  have hem:=Q3 hlt;refine QKr 6 I<|QA (Q6 (n:=n) i.i (λF h9=>h9.1.1.2) rfl rfl Z6 JR O)<|QA (JA (n:=n) ((i.i)*1) (λF h9=>h9.1.1.2) O rfl JR (Xa (f:=tx) (l:=l) O))<|QKq 6 I<|QA (wJ I Qa .here)<|QJD I<|QI I (λ_ _ f k=>Tt f k.1.1.1 k.2 i.ok (hl2 _ hem)) λ_=>QKq 8 I ?_
  refine QC ?_;refine QO I (λhc2=>?_) λhc2=>?_
  ·have h21:=bne_iff_ne.1 hc2;refine wA 7 I ?_
   repeat first|refine Q4 ?_|refine Qy ?_
   exact QKx I I (congrArg (ai .i64) (by unfold MI;rw[if_neg O];have h9:=i.toZK.hit (by rw[av];exact hlt) (by rw[ZG hlt];exact h21);rw[ZG hlt]at h9;exact h9)) w8
  have h21:=bne_eq_false_iff_eq.1 hc2;refine QKr 4 I<|QI I (λ_ _ f k=>Yw f k.1.1.1.1 (XI (G8 h21).1).1 (wk<|hl2 _ hem)) λc24=>QR (vs:=[_,_,_,_]) I I I Qa I .here .h4 wV<|QE<|Qk<|QC<|QB<|QA (Qv I I O)<|wB 2 I ?_
  exact Ql (⟨i.toZK.next (by rw[av];exact hlt) (by rw[ZG hlt];exact h21),c24,by show JQ (Yv l (i.i+1))<=2400;rw[Wb];exact YM (G8 h21).1⟩) (by show l.length-(i.i+1)<l.length-i.i;omega) wV QJZ λF h9=>⟨⟨⟨h9.1.1.1.1.1,h9.1.1.1.1.2⟩,h9.1.1.1.2⟩,by show JP F c24 (Yv l (i.i+1));rw[Wb];exact h9.2⟩
 have hge:l.length<=i.i:=wk<|QKd hc2
 refine Q2 ?_
 repeat first|refine QY ?_|refine QP wy ?_
 refine QZ<|QKs 7 I ?_
 exact QKx I I (congrArg (ai .i64) (by unfold MI;rw[if_neg O];exact i.toZK.stop (by rw[av];exact hge))) w8
def ZR.rs(y:ZR):List (List Tm):=y.rl.map λe=>X3 (YQ e.2)
def ZR.vs(y:ZR):List (Rat×Rat):=y.sl.map JG
structure gT(y:ZR):Prop where
 n0:1<=y.nm.n
 n1:y.nm.n<=24
 rn:y.rt.n=y.nm.n
 sn:y.st.n=y.nm.n
 nm:Dt y.nl=0
 pl:∀e∈y.rl,D3 (YQ e.2) (y.nm.n:Int)
 st:∀s∈y.sl,Xc s.1 s.2=0
theorem Q8{l:List Int}(h:Qp l=0):∀x∈l,x=0:=by
 induction l with
 |nil=>intro x hx;cases hx
 |cons a l ih =>
  intro x hx;unfold Qp at h;by_cases g:a=0
  ·rw[if_pos g]at h;rcases List.mem_cons.1 hx with rfl | hx
   ·exact g
   exact ih h x hx
  rw[if_neg g]at h;exact absurd h g
theorem Ej{a c:Int}(h:Qp [a,b,c]=0):a=0/\b=0/\c=0:=⟨Q8 h a (.head _),Q8 h b (.tail _ (.head _)),Q8 h c (.tail _ (.tail _ (.head _)))⟩
theorem ZZ.ok(h:ZZ F y)(he:y.e=0):gT y:=by
 have h1:=h.gI;have h2:=h.VI;have h3:=h.Sb;unfold ZR.e at he;by_cases h0:Dm y.nl.length (y.rl.map λe=>YQ e.2).length y.sl.length=0
 ·rw[Lk h0]at he;obtain⟨q1,q2,q3,q4⟩:=UG h0;rw[af]at q3;obtain⟨z1,z2,z3⟩:=Ej he;refine⟨O,O,O,O,z1,λe hm=>?_,λs hm=>?_⟩
  ·have h5:=Q8 z2 _ (ak (ak hm));rw[h1]at h5;exact EE h5
  exact Q8 z3 _ (ak hm)
 rw[zK h0]at he;exact absurd he h0
structure RdJ(y:ZR) where
 i:Nat
 v:Value
 ob:List (Nat×Obj)
 ps:List WR
 le:i<=y.rl.length
 hr:Q7 87 1 v i (ps.map λe=>e.1.v) ob
 hq:jz ps=y.rs.take i
theorem RdJ.len(s:RdJ y):s.ps.length=s.i:=by
 have h:=congrArg bm s.hq;have h2:=s.le;unfold jz ZR.rs at h;rw[af,bD,af]at h;omega
theorem CG(h:i<y.rl.length):y.rs.take (i+1)=y.rs.take i++[X3 (YQ (el y.rl i).2)]:=by
 unfold ZR.rs;rw[XV (by rw[af];exact h)];congr 2;rw[Ja (by rw[af];exact h),aM,Ja h]
theorem Nx.snoc{ps:List WR}{c:WR}{p:List Tm}(h:Nx F ps)(k:XN F c.1 c.2 p):Nx F (ps++[c]):=λe he=>by
 rcases List.mem_append.1 he with he | he
 ·exact h e he
 rw[List.mem_singleton.1 he,show J3 c.2=p from k.2.2.1];exact k
theorem Zd(hF:Fits F w)(hGl:JC F)(hy:ZZ F y)(ht:HM y)(ho:gT y):QT prog 106 [y.v] w F (λ(c:j9)=>.pointer (some ⟨c.b,0,none⟩)) (λc F=>Ga F c y.rs y.vs):=by
 have hrl:=hy.VI;have hsl:=hy.Sb;have hn1:=ho.n1;have hrn:=ho.rn;have hsn:=ho.sn;refine QT.intro (G:=λF=>JC F/\ZZ F y) func106 rfl wy rfl rfl hF (λF' hF'=>⟨hGl.le hF',hy.le hF'⟩)<|QKO<|Qu rfl (vs:=[_,_,_]) rfl λb1=>wQ rfl<|QKO<|QA (QH rfl Yx J4)<|QA (Qf rfl J4 .here (.skip (.skip .h1)))<|QI rfl (λ_ _ f k=>BZ f k.1 k.2.st hsl O λs hs=>⟨ho.st s hs,ht.st s hs⟩) λc8=>QA (Qx rfl QBf QEB (.cons (vs:=[_]) rfl rfl rfl (.skip .h1) .nil))<|Qu rfl (vs:=[_,_]) rfl λb10=>wQ rfl<|QG<|QKO<|QA (QH rfl Rr DP)<|QA (Qf rfl DP .u1 (.skip .h1))<|QA (Qg rfl DC)<|QJD rfl<|QE ?_
 refine QC<|QV<|JW (ι:=RdJ y) [(3,_),(12,_),(13,_)] (λi=>[(14,.int .i64 ((i.i:Nat):Int))]) (λi=>(b10,.cells #[i.v,.slice c8.1.q c8.1.n c8.1.cap] 171 (0,0))::i.ob) (λi F=>Nx F i.ps) (λi=>y.rl.length-i.i) (⟨0,.slice none 0 0,[],[],aq _,.nil,rfl⟩) wU wS (tE) (λ_ _ _ h=>by cases h) λi=>?_
 simp only[aa,ae];have hi:=i.le;refine wA 6 I ?_;refine QO I (λhc=>?_) λhc=>?_
 ·have hlt:i.i<y.rl.length:=wk<|QKc hc
  have hem:=Q3 hlt;refine QKr 6 I<|QA (Q6 (n:=y.rt.n) i.i (λF h9=>h9.1.1.2.rt) rfl rfl DC D4 O)<|QA (JA (n:=y.rt.n) ((i.i)*1) (λF h9=>h9.1.1.2.rt) O rfl D4 (Xa (f:=λe:AX=>e.1.v) (l:=y.rl) O))<|wQ I<|Js 11 tE mixed wm wm ?_
  simp only[aB,aH,aC,aK];refine QK (QD I)<|QK (QD I)<|QK (Ze I)<|QK (QH I B0 YJ)<|QK (Qf I YJ .here .h1)<|QK (QD I)<|QM I (λ_ _ f k=>N5 f k.1.1.1 (k.1.1.2.pl _ hem).1 (k.1.1.2.pl _ hem).2 (ht.tm _ hem) (ho.pl _ hem) O) λc24=>Yh _ (λ_ _ f h=>h.2.2.2.1) λe24=>?_
  refine Qo I (Qz YW) K4 xh I I (λb25=>?_) (λw h=>h.imp tE tA);refine Yi (ag (l₁:=[_])) ?_;refine Yt (n:=i.i) (k:=1) (sz:=1) (news:=[c24.1.v]) I I YW K4 xh I QAs i.hr (Src.row (off:=0) tB (λj q hq=>by rw[aA];rw[ah];exact hq) rfl) O O (λv hv=>by rw[List.mem_singleton.1 hv];rfl) QJZ (λ_ h=>h.1.1) (λv26 ob26 hr26=>?_);refine Yi (ag (l₂:=[_]))<|QK (Ze I)<|QK (QH I B0 YJ)<|Za<|QR (vs:=[v26]) I I hr26.one.2 YJ I .here .h1 ⟨hr26.one.1,trivial⟩<|QE<|Qk<|QC<|QB<|QA (Qv I I O)<|wB 2 I ?_
  exact Ql (⟨i.i+1,v26,ob26,i.ps++[c24],hlt,by rw[ao];exact hr26,by unfold jz;rw[ao,CG hlt,<-e24];exact congrArg (·++_) i.hq⟩) (by show y.rl.length-(i.i+1)<y.rl.length-i.i;omega) wV QJZ λF ⟨⟨⟨⟨⟨hGl,hy⟩,h8⟩,hS⟩,h24⟩,hs25⟩=>⟨⟨⟨hGl,hy⟩,h8⟩,hS.snoc h24⟩
 have hge:i.i=y.rl.length:=by have:=QKd hc;have:=i.le;omega
 refine Q2 ?_
 repeat first|refine QY ?_|refine QP wy ?_
 refine QZ<|QKs 3 I ?_
 have hxl:=i.len;obtain⟨⟨rq,rn,rc⟩,hv2,hrn,hrc,hfix⟩:=Q7.fix (w0:=w) (F0:=F) (bs1:=[_]) (G:=_) i.hr;dsimp only at hrn hrc hfix;subst hrn;refine YB hfix ?_;rw[hv2];dsimp only[Sr.v];refine Ku (b:=b10) .here<|QKq 5 I ?_
 exact QQ ((⟨b10,⟨rq,i.i,rc⟩,i.ps,c8.1,c8.2⟩:j9)) I (wN I) (rfl) λF h9=>⟨h9.2,h9.1.2,h9.1.1.2,by have e:=i.hq;rw[hge]at e;rw[e];exact aT (by unfold ZR.rs;rw[af];exact aE _),hxl,h9.1.1.1.2⟩
structure SE(F:Gs)(c:Sr×List WR)(rs:List (List Tm)):Prop where
 row:Qw F c.1.q c.1.n 1 (c.2.map λe=>e.1.v)
 pls:Nx F c.2
 val:jz c.2=rs
 len:c.2.length=c.1.n
theorem SE.le{c:Sr×List WR}{rs:List (List Tm)}(h:SE F c rs)(k:Gs.le F F'):SE F' c rs:=⟨h.row.le k,λe he=>(h.pls e he).le k,h.val,h.len⟩
theorem SE.VI{c:Sr×List WR}{rs:List (List Tm)}(h:SE F c rs):rs.length=c.1.n:=by rw[<-h.val,<-h.len];simp[jz]
theorem SE.at{c:Sr×List WR}{rs:List (List Tm)}(h:SE F c rs){i:Nat}(hi:i<c.1.n):XN F (el c.2 i).1 (el c.2 i).2 (J3 (el c.2 i).2)/\J3 (el c.2 i).2=el rs i:=by
 have h1:=h.len;refine⟨h.pls _ (Q3 O),?_⟩;rw[<-h.val,Ja (show i<c.2.length by omega),Ja (by simp[jz];omega)];simp[jz]
def QEh(y:ZR)(c:Sr×List WR):List Value:=[.slice y.nm.q y.nm.n y.nm.cap,.slice y.rt.q y.rt.n y.rt.cap,.slice y.st.q y.st.n y.st.cap,.int .i64 ((y.nm.n:Int)+1),c.1.v]
theorem uS(hF:Fits F w)(hGl:JC F)(hy:ZZ F y)(ht:HM y)(he:y.e=0):QT prog 68 [y.v] w F (λ(c:Sr×List WR)=>.tuple #[.agg (QEh y c).toArray,.int .i64 0]) (λc F=>SE F c y.rs):=by
 have ho:=hy.ok he;have hrl:=hy.VI;have hsl:=hy.Sb;have hn1:=ho.n1;have hrn:=ho.rn;have hsn:=ho.sn;refine QT.intro (G:=λF=>JC F/\ZZ F y) func68 rfl wy rfl rfl hF (λF' hF'=>⟨hGl.le hF',hy.le hF'⟩)<|QKO<|Qu rfl (vs:=[_,_,_]) rfl λb1=>Qc Sy λb2=>wQ rfl<|QG<|QKO<|QA (wI I XA .u1)<|QI rfl (λ_ _ f k=>Zf (y:=y) f k.1 k.2 ht) λ_=>?_
 rw[he];refine QKq 9 I ?_;refine QO I (λhc=>?_) λhc=>?_
 ·exact absurd hc (wz)
 refine QKr 4 I<|QA (wI I XA .u1)<|QA (QH rfl BX Vq)<|QA (Qf rfl Vq .u1 .h1)<|QA (Qg rfl Kx)<|QA (Qv rfl rfl O)<|QA (Qx rfl QBg Sy (.cons (vs:=[_,_,_]) rfl rfl rfl .h3 (.cons (vs:=[_]) rfl rfl rfl (.skip (.skip (.skip .h1))) (.cons (vs:=[_]) rfl rfl rfl (.skip (.skip (.skip (.skip .h1)))) .nil))))<|Qc Sy λb5=>QR (vs:=[_,_,_,_,_]) rfl rfl rfl Gj rfl .here .h5 wW<|QKq 5 I<|QA (QH rfl Rr DP)<|QA (Qf rfl DP .u2 (.skip .h1))<|QA (Qg rfl DC)<|QJD rfl<|QJC<|QV<|JW (ι:=RdJ y) [(2,_),(5,_),(21,_),(22,_)] (λi=>[(23,.int .i64 ((i.i:Nat):Int))]) (λi=>(b5,.cells #[.slice y.nm.q y.nm.n y.nm.cap,.slice y.rt.q y.rt.n y.rt.cap,.slice y.st.q y.st.n y.st.cap,.int .i64 ((y.nm.n:Int)+1),i.v] 109 (0,0))::(b2,.cells [.slice none 0 0,.slice none 0 0,.slice none 0 0,.int .i64 0,.slice none 0 0].toArray 109 (0,0))::i.ob) (λi F=>Nx F i.ps) (λi=>y.rl.length-i.i) (⟨0,.slice none 0 0,[],[],aq _,.nil,rfl⟩) wV wS (tF) (λ_ _ _ h=>by cases h) λi=>?_
 simp only[aa,ae];have hi:=i.le;refine wA 6 I ?_;refine QO I (λhc=>?_) λhc=>?_
 ·have hlt:i.i<y.rl.length:=wk<|QKc hc
  have hem:=Q3 hlt;refine QKr 6 I<|QA (Q6 (n:=y.rt.n) i.i (λF h9=>h9.1.1.2.rt) rfl rfl DC D4 O)<|QA (JA (n:=y.rt.n) ((i.i)*1) (λF h9=>h9.1.1.2.rt) O rfl D4 (Xa (f:=λe:AX=>e.1.v) (l:=y.rl) O))<|wQ I<|Js 7 tF mixed wm wm ?_
  simp only[aB,aH,aC,aK];refine QK (QH I U5 YJ)<|QK (Qf I YJ .here (.skip (.skip (.skip (.skip .h1)))))<|QK (QD I)<|QM I (λ_ _ f k=>N5 f k.1.1.1 (k.1.1.2.pl _ hem).1 (k.1.1.2.pl _ hem).2 (ht.tm _ hem) (ho.pl _ hem) O) λc30=>Yh _ (λ_ _ f h=>h.2.2.2.1) λe30=>?_
  refine Qo I (Qz YW) K4 xh I I (λb31=>?_) (λw h=>h.imp tF tA);refine Yi (ag (l₁:=[_,_])) ?_;refine Yt (n:=i.i) (k:=1) (sz:=1) (news:=[c30.1.v]) I I YW K4 xh I QAs i.hr (Src.row (off:=0) tB (λj q hq=>by rw[aA];rw[ah];exact hq) rfl) O O (λv hv=>by rw[List.mem_singleton.1 hv];rfl) QJZ (λ_ h=>h.1.1) (λv32 ob32 hr32=>?_);refine Yi (ag (l₂:=[_,_]))<|QK (QH I U5 YJ)<|Za<|QR (vs:=[v32]) I I hr32.one.2 YJ I .here (.skip (.skip (.skip (.skip .h1)))) ⟨hr32.one.1,trivial⟩<|QE<|Qk<|QC<|QB<|QA (Qv I I O)<|wB 2 I ?_
  exact Ql (⟨i.i+1,v32,ob32,i.ps++[c30],hlt,by rw[ao];exact hr32,by unfold jz;rw[ao,CG hlt,<-e30];exact congrArg (·++_) i.hq⟩) (by show y.rl.length-(i.i+1)<y.rl.length-i.i;omega) wW QJZ λF h9=>⟨⟨⟨h9.1.1.1.1.1,h9.1.1.1.1.2⟩,trivial⟩,h9.1.1.2.snoc h9.1.2⟩
 have hge:i.i=y.rl.length:=by have:=QKd hc;have:=i.le;omega
 refine Q2 ?_
 repeat first|refine QY ?_|refine QP wy ?_
 refine QZ<|QKs 3 I ?_
 have hxl:=i.len;obtain⟨⟨rq,rn,rc⟩,hv2,hrn,hrc,hfix⟩:=Q7.fix (w0:=w) (F0:=F) (bs1:=[_,_]) (G:=_) i.hr;dsimp only at hrn hrc hfix;subst hrn;refine YB hfix ?_;rw[hv2];dsimp only[Sr.v];refine QA (QJ (vs:=[_,_,_,_,_]) I Gj .here .h5 rfl)<|QR (vs:=[_,_,_,_,_]) I I I Gj I .u1 .h5 wW<|wQ I<|QW ?_
 exact JY (((⟨rq,i.i,rc⟩,i.ps):Sr×List WR)) I (.JZ (c:=[_,_,_,_,_]) I Gj .u1 (wN I)) (rfl) λF h9=>⟨h9.2,h9.1.2,by have e:=i.hq;rw[hge]at e;rw[e];exact aT (by unfold ZR.rs;rw[af];exact aE _),hxl⟩
def AE(rs:List (List Tm))(p:List Tm):Nat->List Tm
 |0=>Xw (Yz 0 p)
 |k+1=>Xw (AE rs p k++Xw (Zr (Xw (Yz (k+1) p)) (el rs k)))
structure qB(rs:List (List Tm))(p:List Tm)(N:Nat):Prop where
 n:N=rs.length+1
 n1:N<=1000
 lp:p.length<=100000
 pw:∀t∈p,PW t.2/\t.2.length=N
 sp:∀t∈p,JQ t.1<=20000000
 der:∀v,v<=rs.length->KC (Yz v p)<=40000000
 mul:∀k,k<rs.length->vm (Xw (Yz (k+1) p)) (el rs k) N
 add:∀k,k<rs.length->gA (AE rs p k) (Xw (Zr (Xw (Yz (k+1) p)) (el rs k)))
structure QIP(n:Nat) where
 i:Nat
 c:WR
 le:i<=n
theorem XN.eqT{s:Sr}{ts:List Zb}{p:List Tm}(h:XN F s ts p):J3 ts=p:=h.2.2.1
theorem XN.self{s:Sr}{ts:List Zb}{p:List Tm}(h:XN F s ts p):XN F s ts (J3 ts):=by rw[h.eqT];exact h
theorem kS{c:Sr×List WR}{rs:List (List Tm)}{p:WR}{N:Nat}(hF:Fits F w)(hGl:JC F)(hr:SE F c rs)(hP:XN F p.1 p.2 (J3 p.2))(ho:qB rs (J3 p.2) N):QT prog 56 [c.1.v,p.1.v] w F (λ(d:WR)=>d.1.v) (λd F=>XN F d.1 d.2 (AE rs (J3 p.2) rs.length)):=by
 have hrl:=hr.VI;have hrn:=hr.len;have hn:=ho.n;have hn1:=ho.n1;have hpd:∀v,v<=rs.length->∀t∈p.2,PW t.t.2/\v<t.t.2.length:=λv hv t ht=>⟨(ho.pw _ (ak ht)).1,by rw[(ho.pw _ (ak ht)).2];omega⟩;have hlp:p.2.length<=100000:=by have:=ho.lp;rwa [Yc]at this
 refine QT.intro (G:=λF=>JC F/\SE F c rs/\XN F p.1 p.2 (J3 p.2)) func56 rfl wy rfl rfl hF (λF' hF'=>⟨hGl.le hF',hr.le hF',hP.le hF'⟩)<|QKO<|wQ rfl<|wR rfl<|QI rfl (λ_ _ f k=>L6 (v:=0) f k.1 k.2.2 (hpd 0 O) hlp (λt ht=>ho.sp _ (ak ht)) (ho.der 0 O)) λc9=>wQ rfl<|QG<|wR rfl<|QA (Qg rfl YW)<|QJD rfl<|QJC<|QV<|JW (ι:=QIP rs.length) [(1,_),(10,_),(11,_)] (λi=>[(5,.slice i.c.1.q i.c.1.n i.c.1.cap),(12,.int .i64 ((i.i:Nat):Int))]) (λi=>[]) (λi F=>XN F i.c.1 i.c.2 (AE rs (J3 p.2) i.i)) (λi=>rs.length-i.i) (⟨0,c9,aq _⟩) wU wT QJZ tB λi=>?_
 simp only[aa,ae];have hi:=i.le;refine wA 6 I ?_;refine QO I (λhc2=>?_) λhc2=>?_
 ·have hlt:i.i<rs.length:=wk<|QKc hc2
  refine XQ _ (λw F hF ⟨⟨⟨hGl,hr,hP⟩,h9⟩,hA⟩=>au (hr.at (show i.i<c.1.n by omega)).2 hA.eqT) (λhpp=>?_);obtain⟨hea,eA⟩:=hpp;refine QKr 7 I<|QA (Q6 (n:=c.1.n) i.i (λF h9=>h9.1.1.2.1.row) rfl rfl YW K4 O)<|QA (JA (n:=c.1.n) ((i.i)*1) (λF h9=>h9.1.1.2.1.row) O rfl K4 (Xa (f:=λe:WR=>e.1.v) (l:=c.2) O))<|QKq 8 I<|QA (Qv I I O) ?_
  rw[show(((i.i:Nat):Int)+1)=((i.i+1:Nat):Int)from rfl];refine QI I (λ_ _ f k=>L6 (v:=i.i+1) f k.1.1.1 k.1.1.2.2 (hpd _ O) hlp (λt ht=>ho.sp _ (ak ht)) (ho.der _ O)) (λc21=>JN _ (λ_ _ f h=>h.2.eqT) λe21=>QJD I<|QI I (λ_ _ f k=>yP (q:=el c.2 i.i) (N:=N) f k.1.1.1.1 k.2.self (k.1.1.1.2.1.at O).1 hn1 (by rw[e21,hea];exact ho.mul _ hlt)) λc23=>JN _ (λ_ _ f h=>h.2.eqT) λe23=>?_);rw[e21,hea]at e23;refine QI I (λ_ _ f k=>yX (p:=i.c) f k.1.1.1.1.1 k.1.1.2.self k.2.self (by rw[eA,e23];exact ho.add _ hlt)) (λc24=>JN _ (λ_ _ f h=>h.2.eqT) λe24=>?_);rw[eA,e23]at e24;refine wB 2 I<|Qk<|QC<|QB<|QA (Qv I I O)<|wB 2 I ?_
  exact Ql (⟨i.i+1,c24,hlt⟩) (by show rs.length-(i.i+1)<rs.length-i.i;omega) wW QJZ λF ⟨⟨⟨⟨⟨⟨hGl,hr,hP⟩,h9⟩,hA⟩,h21⟩,h23⟩,h24⟩=>⟨⟨⟨hGl,hr,hP⟩,h9⟩,by show XN F c24.1 c24.2 (Xw (AE rs (J3 p.2) i.i++Xw (Zr (Xw (Yz (i.i+1) (J3 p.2))) (el rs i.i))));rw[<-e24];exact h24.self⟩
 have hge:i.i=rs.length:=by have:=QKd hc2;have:=i.le;omega
 refine Q2 ?_
 repeat first|refine QY ?_|refine QP wy ?_
 refine QZ<|QKs 8 I ?_
 exact QQ (i.c) rfl (wN I) (rfl) λF h=>by have h1:=h.2;rw[hge]at h1;exact h1
theorem uV{a:AX}(hF:Fits F w)(hGl:JC F)(hy:ZZ F y)(ht:HM y)(he:y.e=0)(hR:Qw F a.1.q a.1.n 2 (a.2.flatMap Di))(hA:WK F a.2)(hta:AL a)(hpe:Zp (YQ a.2) (y.nm.n:Int)=0):QT prog 54 [y.v,a.1.v] w F (λ(c:(Sr×List WR)×WR)=>.tuple #[.agg (QEh y c.1).toArray,c.2.1.v,.int .i64 0]) (λc F=>SE F c.1 y.rs/\XN F c.2.1 c.2.2 (X3 (YQ a.2))):=by
 have ho:=hy.ok he;have hn1:=ho.n1;have hn0:=ho.n0;refine QT.intro (G:=λF=>JC F/\ZZ F y/\Qw F a.1.q a.1.n 2 (a.2.flatMap Di)/\WK F a.2) func54 rfl wy rfl rfl hF (λF' hF'=>⟨hGl.le hF',hy.le hF',hR.le hF',hA.le hF'⟩)<|QKO<|Qu rfl (vs:=[_,_,_]) rfl λb2=>Qc Sy λb4=>QJE rfl<|wQ rfl<|QKO<|QA (wI I XA .u1)<|QI rfl (λ_ _ f k=>uS (y:=y) f k.1 k.2.1 ht he) λc11=>QJD rfl<|QA (QX rfl rfl)<|QA (QX rfl rfl)<|Qc Sy λb7=>QR (vs:=[_,_,_,_,_]) rfl rfl rfl Gj rfl .here .h5 wW<|wQ rfl<|QG<|QKO<|QJD rfl ?_
 refine QKq 3 I ?_;refine QO I (λhc=>?_) λhc=>?_
 ·refine wA 2 I<|QA (QH I ua JO)<|QA (Qf I JO .here (.skip (.skip (.skip .h1))))<|QA (X6 I I O) ?_
  rw[show((y.nm.n:Int)+1-1)=y.nm.n by omega];refine QI I (λ_ _ f k=>G5 f k.1.1 k.1.2.2.1 k.1.2.2.2 hta.1 hta.2.1 hta.2.2) (λ_=>?_);rw[show Hf (YQ a.2) (y.nm.n:Int)=0 by unfold Hf;rw[if_pos ((B3 _).2 O)];exact hpe];refine QKq 10 I ?_;refine QO I (λhc=>?_) λhc=>?_
  ·exact absurd hc (wz)
  refine QKr 3 I<|JK (.cons_cons _ (.cons _ tC)) mixed wm<|QK (QJ (vs:=[_,_,_,_,_]) I Gj .here .h5 rfl)<|QK (QD I)<|QM I (λ_ _ f k=>N5 f k.1.1.1 (a:=a) k.1.1.2.2.1 k.1.1.2.2.2 hta (EE hpe) O) λc27=>JU (vs:=[_,_,_,_,_]) I I I Gj I .u1 tC tA .h5 wW<|QK (QF I)<|QK (QF I)<|Q5<|QC<|QW ?_
  exact JY (((c11,c27):(Sr×List WR)×WR)) I (.JZ (c:=[_,_,_,_,_]) I Gj .u1 (wO I I)) (rfl) λF h9=>⟨h9.1.1.2,h9.2⟩
 exact absurd hc (wz)
theorem Uq{a:AX}(hF:Fits F w)(hGl:JC F)(hy:ZZ F y)(ht:HM y)(he:y.e=0)(hR:Qw F a.1.q a.1.n 2 (a.2.flatMap Di))(hA:WK F a.2)(hta:AL a)(hpe:Zp (YQ a.2) (y.nm.n:Int)=0)(hok:qB y.rs (X3 (YQ a.2)) (y.nm.n+1)):Qe prog 195 [y.v,a.1.v] w F (.tuple #[.bool (decide (AE y.rs (X3 (YQ a.2)) y.rs.length=[])),.int .i64 0]):=by
 refine QT.intro (G:=λF=>JC F/\ZZ F y/\Qw F a.1.q a.1.n 2 (a.2.flatMap Di)/\WK F a.2) func195 rfl wy rfl rfl hF (λF' hF'=>⟨hGl.le hF',hy.le hF',hR.le hF',hA.le hF'⟩)<|QKO<|Qu rfl (vs:=[_,_,_]) rfl λb2=>QJE rfl<|wQ rfl<|QKO<|QA (wI I XA .here)<|QJD rfl<|QI rfl (λw F hF ⟨hGl,hy,hR,hA⟩=>uV (y:=y) hF hGl hy ht he hR hA hta hpe) λc12=>JN _ (λ_ _ f h=>h.2.2.eqT) λe12=>QJD rfl<|QA (QX rfl rfl)<|QA (QX rfl rfl)<|QA (QX rfl rfl)<|Qc Sy λb6=>QR (vs:=[_,_,_,_,_]) rfl rfl rfl Gj rfl .here .h5 wW<|QJE rfl<|wQ rfl<|QG ?_
 refine wA 6 I ?_;refine QO I (λhc=>?_) λhc=>?_
 ·exact absurd hc (wz)
 refine QKr 4 I<|QA (QH I U5 YJ)<|QA (Qf I YJ .here (.skip (.skip (.skip (.skip .h1)))))<|QJD I<|QI I (λ_ _ f k=>kS (N:=y.nm.n+1) f k.1.1 k.2.1 k.2.2.self (by rw[e12];exact hok)) λc22=>JN _ (λ_ _ f h=>au h.2.len h.2.2.2.2.2) λe22=>?_
 obtain⟨e22,l22⟩:=e22;rw[e12]at e22;refine QA (Qg I Vs)<|QKq 6 I ?_
 exact JY (()) I (wO I I) (congrArg (λb=>bV #[.bool b,.int .i64 0]) (decide_eq_decide.2 (by rw[<-List.length_eq_zero_iff,<-e22,l22];omega))) w8
theorem Gl{F:Gs}{a b:List UInt8}(h:Yn y a l b=0):y.e=0/\Jd a=0/\Ym y.nm.n l=0/\Jd b=0:=by
 unfold Yn at h;exact⟨Q8 h _ (.head _),Q8 h _ (.tail _ (.head _)),Q8 h _ (.tail _ (.tail _ (.head _))),Q8 h _ (.tail _ (.tail _ (.tail _ (.head _))))⟩
theorem Xt(h:Ym n l=0):l.length=n/\∀s∈l,Xc s.1 s.2=0:=by
 unfold Ym at h;by_cases g:l.length≠n
 ·rw[if_pos g]at h;cases h
 rw[if_neg g]at h;exact⟨O,λs hs=>Q8 h _ (ak hs)⟩
def lV(l:List (List UInt8×List UInt8)):List (Rat×Rat):=l.map JG
theorem Y9(l:List (List UInt8×List UInt8)):(lV l).length=l.length:=by simp[lV]
theorem Ga.pn{y:j9}{rs:List (List Tm)}{vs:List (Rat×Rat)}(h:Ga F y rs vs)(hk:∀l∈rs,l.length<=k):∀e∈y.ps,e.1.n<=k:=λe he=>by
 have h1:=(h.pls e he).2.2.2.2;have h2:=hk (J3 e.2) (by rw[<-h.val];exact ak (f:=λe:WR=>J3 e.2) he);rw[Yc]at h2;omega
theorem gT.short(h:gT y):∀l∈y.rs,l.length<=64:=λl hl=>by
 unfold ZR.rs at hl;obtain⟨e,he,rfl⟩:=List.mem_map.1 hl;unfold X3;rw[af];exact(h.pl e he).len
theorem J7.nl{r:Sr}{l:List Yr}{vs:List (Rat×Rat)}(h:J7 F r l vs):r.n=vs.length:=h.YI.symm
def kO(y:ZR)(a:List UInt8)(l:List (List UInt8×List UInt8))(b:List UInt8)(lw:List (List UInt8×List UInt8)):Int:=if Yn y a l b=0 then Qp [Ym y.nm.n lw,Vi (Qh a) (Qh b)]else Yn y a l b
structure QIL(rs:List (List Tm))(fr t2:Rat)(x on:List (Rat×Rat)):Prop where
 mv:vj rs fr t2 x on
 sz:∀v∈Zt rs fr t2 x on,Xb v 100000000
theorem QB2(h:Ym n l=0):∀v∈lV l,Xb v 2400:=λv hv=>by
 unfold lV at hv;obtain⟨s,hs,rfl⟩:=List.mem_map.1 hv;have h1:=B6 ((Xt h).2 s hs);exact⟨YM h1.1,YM h1.2.1⟩
theorem kM{a b:List UInt8}{r:Sr}{rz:Sr}{lw:List (List UInt8×List UInt8)}(hF:Fits F w)(hGl:JC F)(hy:ZZ F y)(ht:HM y)(hx:KM F r l)(hc:H8 r l)(ha:a.length<=1000000)(hb:b.length<=1000000)(hxw:KM F rz lw)(hcw:H8 rz lw)(hok:kO y a l b lw=0->QIL y.rs (Qh a) (Qh b) (lV l) (lV lw)):Qe prog 79 [y.v,tx a,r.v,tx b,rz.v] w F (.tuple #[.bool (decide (kO y a l b lw=0)&&T8 (Zt y.rs (Qh a) (Qh b) (lV l) (lV lw)) (lV lw)),.int .i64 (kO y a l b lw)]):=by
 refine QT.intro (G:=λF=>JC F/\ZZ F y/\KM F r l/\KM F rz lw) func79 rfl wy rfl rfl hF (λF' hF'=>⟨hGl.le hF',hy.le hF',hx.le hF',hxw.le hF'⟩)<|QKO<|Qu rfl (vs:=[_,_,_]) rfl λb5=>QJE rfl<|wQ rfl<|QKO<|QA (wI I XA .here)<|QJD rfl<|QJD rfl<|QJD rfl<|QI rfl (λ_ _ f k=>Wz (y:=y) f k.1 k.2.1 ht k.2.2.1 hc ha hb) λ_=>QJE rfl<|QE<|QC ?_
 refine YS [(1,_),(2,_),(3,_),(4,_),(5,_)] [(12,.int .i64 (kO y a l b lw))] wW ?_ ?_
 ·refine wA 6 I ?_;refine QO I (λhc2=>?_) λhc2=>?_
  ·have h20s:Yn y a l b=0:=by simpa using hc2
   have h20:=Gl (F:=F) h20s;refine QB<|QA (wI I XA .here)<|QJD I<|QI I (λ_ _ f k=>KA (y:=y) f k.1.1 k.1.2.1 k.1.2.2.2 hcw) λ_=>wB 2 I<|QI I (λ_ _ f k=>V9 f k.1.1.1 ⟨h20.2.1,ha⟩ ⟨h20.2.2.2,hb⟩) λ_=>Qb I (Qz ZL) YT H5 I I λb27=>QI I (λ_ _ f k=>YO f (Qw.of (cs:=aU Jn [_,_]) k.2 I) wu) λ_=>wB 2 I ?_
   exact Jg ⟨rfl,rfl,rfl,rfl,rfl,(congrArg (λb=>some (ai .i64 b)) (by unfold kO;rw[if_pos h20s])),trivial⟩ QJZ λ_ h=>h.1.1.1.1
  have h20s:¬Yn y a l b=0:=by simpa using hc2
  refine QN ?_;exact Jg ⟨rfl,rfl,rfl,rfl,rfl,(congrArg (λb=>some (ai .i64 b)) (by unfold kO;rw[if_neg h20s])),trivial⟩ QJZ w9
 simp only[aa,ae];refine wA 7 I ?_;refine QO I (λhc2=>?_) λhc2=>?_
 ·have h30:=bne_iff_ne.1 hc2;refine wA 8 I ?_;exact JY (()) I (wO I I) (congrArg (λz=>bV #[.bool z,.int .i64 (kO y a l b lw)]) (by rw[decide_eq_false h30];rfl)) w8
 have h30:=bne_eq_false_iff_eq.1 hc2;have hok:=hok h30;have hs0:Yn y a l b=0:=by
  unfold kO at h30;by_cases g:Yn y a l b=0
  ·exact g
  rw[if_neg g]at h30;exact absurd h30 g
 have hst:=Gl (F:=F) hs0;have hbw:Ym y.nm.n lw=0:=by unfold kO at h30;rw[if_pos hs0]at h30;exact Q8 h30 _ (.head _)
 have ho:=hy.ok hst.1;have hn1:=ho.n1;have hn0:=ho.n0;have hrn:=ho.rn;have hxl:=(Xt hst.2.2.1).1;have hwl:=(Xt hbw).1;have hrs:y.rs.length=y.nm.n:=by unfold ZR.rs;rw[af,hy.VI,hrn]
 refine QN<|QC<|wR rfl<|QI rfl (λ_ _ f k=>BZ f k.1.1 k.1.2.2.2.row k.1.2.2.2.len hcw.n λs hs=>⟨(Xt hbw).2 s hs,hcw.t s hs⟩) λc33=>wQ rfl<|QKO<|QA (wI I XA .here)<|QI rfl (λ_ _ f k=>Zd (y:=y) f k.1.1.1 k.1.1.2.1 ht ho) λc35=>QJD rfl<|QJD rfl<|QJD rfl<|QI rfl (λ_ _ f k=>M6 f k.1.1.1.1 ⟨hst.2.1,ha⟩ ⟨hst.2.2.2,hb⟩ k.1.1.1.2.2.1 hc (Xt hst.2.2.1).2) λc39=>JN _ (λw F hF ⟨⟨⟨⟨⟨hGl,hy,hx,hxw⟩,_⟩,h33⟩,h35⟩,h39⟩=>au h33.nl (au h39.bx.nl (au h35.VI (h35.pn ho.short)))) λhnn=>?_
 obtain⟨hn33,hn39,hn35,hp35⟩:=hnn;rw[af]at hn33 hn39;refine QJD I<|QI I (λ_ _ f k=>MS f k.1.2 k.2 k.1.1.2 O O O (λe he=>wk<|hp35 e he) hok.mv) λc41=>QJD I<|QI I (λ_ _ f k=>Tj f k.2 k.1.1.1.2 (by rw[k.2.nl,Z5,af];omega) (by rw[k.2.nl,Z5,af];omega) hok.sz λv hv=>(QB2 hbw v hv).mono wu) λ_=>QKq 5 I ?_
 exact JY (()) I (wO I I) (by rw[h30];rfl) w8
def Bf(F:Gs)(c:Sr)(vs:List (Rat×Rat)):Prop:=Qw F c.q c.n 2 (vs.flatMap QA9)/\c.n=vs.length/\c.n<=c.cap
theorem Bf.nil(F:Gs):Bf F ⟨none,0,0⟩ []:=⟨Qw.nil F none 2,rfl,aE _⟩
def CR(e:Int)(o:Option (List (Rat×Rat))):Int×List (Rat×Rat):=if e≠0 then(e,[])else match o with
 |none=>(25,[])
 |some v=>(if Jv v=true then 4 else 0,if Jv v=true then[]else v)
theorem TN{e:Int}{o:Option (List (Rat×Rat))}(h:e≠0):CR e o=(e,[]):=by unfold CR;rw[if_pos h]
theorem FW:CR 0 none=(25,[]):=rfl
theorem ES(v:List (Rat×Rat)):CR 0 (some v)=(if Jv v=true then 4 else 0,if Jv v=true then[]else v):=rfl
theorem Dp{a b:List UInt8}{r:Sr}(hF:Fits F w)(hGl:JC F)(ha:Jd a=0/\a.length<=1000000)(hb:Jd b=0/\b.length<=1000000)(hx:KM F r l)(hc:H8 r l)(ho:∀s∈l,Xc s.1 s.2=0):QT prog 185 [tx a,r.v,tx b] w F (λ(c:xB)=>c.v) (λc F=>Mp F c (Qh a) (Qh b) (lV l)):=M6 hF hGl ha hb hx hc ho
theorem BH{r:Sr}(hF:Fits F w)(hGl:JC F)(hx:KM F r l)(hc:H8 r l)(ho:∀s∈l,Xc s.1 s.2=0):We prog 124 [r.v] w F (lV l):=BZ hF hGl hx.row hx.len hc.n λs hs=>⟨ho s hs,hc.t s hs⟩
def MU(y:ZR)(a:List UInt8)(l:List (List UInt8×List UInt8))(b:List UInt8)(bits:Int):Int:=if Qp [Yn y a l b,VU bits]=0 then Vi (Qh a) (Qh b)else Qp [Yn y a l b,VU bits]
theorem R9(h:VU b=0):0<=b/\b<=64:=by
 unfold VU at h;by_cases g:(decide (b<0)||decide (b>64))=true
 ·rw[if_pos g]at h;cases h
 simp only[aY,decide_eq_true_eq]at g;omega
theorem N8(h:Hr b=0):1<=b/\b<=16:=by
 unfold Hr at h;by_cases g:(decide (b<1)||decide (b>16))=true
 ·rw[if_pos g]at h;cases h
 simp only[aY,decide_eq_true_eq]at g;omega
theorem Am{rs:List (List Tm)}(hb:b<=64)(ho:Ol rs fr t2 x):∀k v w,v.length=x.length->DE rs fr t2 x b k v=some w->w.length=x.length/\∀a∈w,Xb a 10000000
 |0,v,w,_,h=>by cases h
 |k+1,v,w,hl,h=>by
  unfold DE at h;by_cases g:Jv v=true
  ·rw[if_pos g]at h;cases h
  rw[if_neg g]at h;have hsm:=Dv g;by_cases g2:T8 (Zt rs fr t2 x v) v=true
  ·rw[if_pos g2]at h;cases h;refine⟨by rw[af,Z5],λa ha=>?_⟩;obtain⟨u,hu,rfl⟩:=List.mem_map.1 ha;exact(ET (ho.s1 v hl hsm u hu) hb).mono wu
  rw[if_neg g2]at h;exact Am hb ho k _ w (by rw[EZ];exact hl) h
theorem RS{rs:List (List Tm)}{w:List (Rat×Rat)}(hb:b<=64)(ho:Ol rs fr t2 x)(h:YX rs fr t2 x b=some w):w.length=x.length/\∀a∈w,Xb a 10000000:=Am hb ho 12 _ w (by rw[EZ]) h
theorem FV{a b:List UInt8}{r:Sr}{bits:Int}(hF:Fits F w)(hGl:JC F)(hy:ZZ F y)(ht:HM y)(hx:KM F r l)(hc:H8 r l)(ha:a.length<=1000000)(hb:b.length<=1000000)(hok:MU y a l b bits=0->Ol y.rs (Qh a) (Qh b) (lV l)):QT prog 78 [y.v,tx a,r.v,tx b,.int .i64 bits] w F (λ(c:Sr)=>.tuple #[c.v,.int .i64 (CR (MU y a l b bits) (YX y.rs (Qh a) (Qh b) (lV l) bits)).1]) (λc F=>Bf F c (CR (MU y a l b bits) (YX y.rs (Qh a) (Qh b) (lV l) bits)).2):=by
 refine QT.intro (G:=λF=>JC F/\ZZ F y/\KM F r l) func78 rfl wy rfl rfl hF (λF' hF'=>⟨hGl.le hF',hy.le hF',hx.le hF'⟩)<|QKO<|Qu rfl (vs:=[_,_,_]) rfl λb5=>QJE rfl<|wQ rfl<|QG<|QKO<|QA (wI I XA .here)<|QJD rfl<|QJD rfl<|QJD rfl<|QI rfl (λ_ _ f k=>Wz (y:=y) f k.1 k.2.1 ht k.2.2 hc ha hb) λ_=>QJD rfl<|QI rfl (λ_ _ f k=>Bc f) λ_=>Qb rfl (Qz ZL) YT H5 rfl rfl λb23=>QI rfl (λ_ _ f k=>YO f (Qw.of (cs:=aU Jn [_,_]) k.2 rfl) wu) λ_=>wQ rfl<|QG<|QB ?_
 refine QKq 4 I ?_;refine QO I (λhc2=>?_) λhc2=>?_
 ·have h26:=bne_iff_ne.1 hc2;have hpe:MU y a l b bits=Qp [Yn y a l b,VU bits]:=by unfold MU;rw[if_neg h26]
  refine wA 8 I ?_;exact JY ((⟨none,0,0⟩:Sr)) I (wO I I) (by rw[hpe,TN h26]) λF h9=>by rw[hpe,TN h26];exact Bf.nil F
 have h26:Qp [Yn y a l b,VU bits]=0:=bne_eq_false_iff_eq.1 hc2;have hpe:MU y a l b bits=Vi (Qh a) (Qh b):=by unfold MU;rw[if_pos h26]
 have hs0:Yn y a l b=0:=Q8 h26 _ (.head _);have hbt:=R9 (Q8 h26 _ (.tail _ (.head _)));have hst:=Gl (F:=F) hs0;have ho:=hy.ok hst.1;have hn1:=ho.n1;have hn0:=ho.n0;have hrn:=ho.rn;have hxl:=(Xt hst.2.2.1).1;have hrs:y.rs.length=y.nm.n:=by unfold ZR.rs;rw[af,hy.VI,hrn]
 refine QKr 7 I<|QI I (λ_ _ f k=>V9 f k.1.1.1.1.1 ⟨hst.2.1,ha⟩ ⟨hst.2.2.2,hb⟩) λ_=>QKq 9 I ?_
 refine QO I (λhc2=>?_) λhc2=>?_
 ·have h32:=bne_iff_ne.1 hc2;refine wA 8 I ?_;exact JY ((⟨none,0,0⟩:Sr)) I (wO I I) (by rw[hpe,TN h32]) λF h9=>by rw[hpe,TN h32];exact Bf.nil F
 have h32:Vi (Qh a) (Qh b)=0:=bne_eq_false_iff_eq.1 hc2;rw[h32]at hpe;have hok:=hok hpe;refine QKr 4 I<|QA (wI I XA .here)<|QI rfl (λ_ _ f k=>Zd (y:=y) f k.1.1.1.1.1.1 k.1.1.1.1.1.2.1 ht ho) λc36=>QJD rfl<|QJD rfl<|QJD rfl<|QI rfl (λ_ _ f k=>Dp f k.1.1.1.1.1.1.1 ⟨hst.2.1,ha⟩ ⟨hst.2.2.2,hb⟩ k.1.1.1.1.1.1.2.2 hc (Xt hst.2.2.1).2) λc40=>JN _ (λw F hF ⟨⟨⟨⟨⟨⟨⟨⟨hGl,hy,hx⟩,_⟩,_⟩,hs23⟩,_⟩,_⟩,h36⟩,h40⟩=>au h40.bx.nl (au h36.VI (h36.pn ho.short))) λhnn=>?_
 obtain⟨hn40,hn36,hp36⟩:=hnn;rw[Y9]at hn40;refine QJD I<|QI I (λ_ _ f k=>Oz f k.1.1.1.1.1.1.1.1 k.1.2 k.2 O O O (λe he=>wk<|hp36 e he) hbt hok) λc42=>QKq 11 I<|QA (XJ I)<|QE<|QC ?_
 refine QO I (λhc2=>?_) λhc2=>?_
 ·have hv:YX y.rs (Qh a) (Qh b) (lV l) bits=none:=by cases hv:YX y.rs (Qh a) (Qh b) (lV l) bits with
   |none=>rfl
   |some v=>rw[hv]at hc2;cases hc2
  refine wA 7 I ?_;exact JY ((⟨none,0,0⟩:Sr)) I (wO I I) (by rw[hpe,hv,FW]) λF h9=>by rw[hpe,hv,FW];exact Bf.nil F
 obtain⟨v,hv⟩:∃v,YX y.rs (Qh a) (Qh b) (lV l) bits=some v:=by cases hv:YX y.rs (Qh a) (Qh b) (lV l) bits with
  |none=>rw[hv]at hc2;cases hc2
  |some v=>exact⟨v,rfl⟩
 have hv2:=RS hbt.2 hok hv;refine XQ _ (λw F hF ⟨⟨⟨⟨⟨⟨⟨⟨⟨hGl,hy,hx⟩,_⟩,_⟩,hs23⟩,_⟩,_⟩,h36⟩,h40⟩,h42⟩=>(show J7 F c42.1 c42.2 v by rw[hv]at h42;exact h42).nl) (λhn42=>?_);rw[Y9]at hv2;refine QKr 5 I<|QI I (λw F hF ⟨⟨⟨⟨⟨⟨⟨⟨⟨hGl,hy,hx⟩,_⟩,_⟩,hs23⟩,_⟩,_⟩,h36⟩,h40⟩,h42⟩=>BY (r:=c42.1) (l:=c42.2) (vs:=v) hF hGl (by rw[hv]at h42;exact h42) O λs hs=>(hv2.2 s hs).mono wu) λc48=>QKq 7 I ?_
 exact JY (c48) rfl (wO I I) (by rw[hpe,hv,ES];rfl) λF h9=>by rw[hpe,hv,ES];exact h9.2
def Nd(y:ZR)(a:List UInt8)(l:List (List UInt8×List UInt8))(b:List UInt8)(lw:List (List UInt8×List UInt8))(o:Int):Int:=if Yn y a l b=0 then Qp [Ym y.nm.n lw,Hr o,Vi (Qh a) (Qh b)]else Yn y a l b
theorem qP{a b:List UInt8}{r:Sr}{rz:Sr}{lw:List (List UInt8×List UInt8)}{o:Int}(hF:Fits F w)(hGl:JC F)(hy:ZZ F y)(ht:HM y)(hx:KM F r l)(hc:H8 r l)(ha:a.length<=1000000)(hb:b.length<=1000000)(hxw:KM F rz lw)(hcw:H8 rz lw)(hok:Nd y a l b lw o=0->vd y.rs (Qh a) (Qh b) (lV l) (lV lw) o.toNat/\∀v∈Zw y.rs (Qh a) (Qh b) (lV l) (lV lw) o.toNat,Xb v 100000000):QT prog 80 [y.v,tx a,r.v,tx b,rz.v,.int .i64 o] w F (λ(c:Sr)=>.tuple #[c.v,.int .i64 (CR (Nd y a l b lw o) (some (Zw y.rs (Qh a) (Qh b) (lV l) (lV lw) o.toNat))).1]) (λc F=>Bf F c (CR (Nd y a l b lw o) (some (Zw y.rs (Qh a) (Qh b) (lV l) (lV lw) o.toNat))).2):=by
 refine QT.intro (G:=λF=>JC F/\ZZ F y/\KM F r l/\KM F rz lw) func80 rfl wy rfl rfl hF (λF' hF'=>⟨hGl.le hF',hy.le hF',hx.le hF',hxw.le hF'⟩)<|QKO<|Qu rfl (vs:=[_,_,_]) rfl λb6=>QJE rfl<|wQ rfl<|QKO<|QA (wI I XA .here)<|QJD rfl<|QJD rfl<|QJD rfl<|QI rfl (λ_ _ f k=>Wz (y:=y) f k.1 k.2.1 ht k.2.2.1 hc ha hb) λ_=>QJE rfl<|QE<|QC ?_
 refine YS [(1,_),(2,_),(3,_),(4,_),(5,_),(6,_)] [(14,.int .i64 (Nd y a l b lw o))] wX ?_ ?_
 ·refine wA 6 I ?_;refine QO I (λhc2=>?_) λhc2=>?_
  ·have h21s:Yn y a l b=0:=by simpa using hc2
   have h21:=Gl (F:=F) h21s;refine QB<|QA (wI I XA .here)<|QJD I<|QI I (λ_ _ f k=>KA (y:=y) f k.1.1 k.1.2.1 k.1.2.2.2 hcw) λ_=>QJD I<|QI I (λ_ _ f k=>V8 f) λ_=>wB 2 I<|QI I (λ_ _ f k=>V9 f k.1.1.1.1 ⟨h21.2.1,ha⟩ ⟨h21.2.2.2,hb⟩) λ_=>Qb I (Qz ZL) YT H5 I I λb30=>QI I (λ_ _ f k=>YO f (Qw.of (cs:=aU Jn [_,_,_]) k.2 I) wu) λ_=>wB 2 I ?_
   exact Jg ⟨rfl,rfl,rfl,rfl,rfl,rfl,(congrArg (λb=>some (ai .i64 b)) (by unfold Nd;rw[if_pos h21s])),trivial⟩ QJZ λ_ h=>h.1.1.1.1.1
  have h21s:¬Yn y a l b=0:=by simpa using hc2
  refine QN ?_;exact Jg ⟨rfl,rfl,rfl,rfl,rfl,rfl,(congrArg (λb=>some (ai .i64 b)) (by unfold Nd;rw[if_neg h21s])),trivial⟩ QJZ w9
 simp only[aa,ae];refine wA 7 I ?_;refine QO I (λhc2=>?_) λhc2=>?_
 ·have h33:=bne_iff_ne.1 hc2;refine wA 8 I ?_;exact JY ((⟨none,0,0⟩:Sr)) I (wO I I) (by rw[TN h33]) λF h9=>by rw[TN h33];exact Bf.nil F
 have h33:Nd y a l b lw o=0:=bne_eq_false_iff_eq.1 hc2;have hok:=hok h33;have hs0:Yn y a l b=0:=by
  unfold Nd at h33;by_cases g:Yn y a l b=0
  ·exact g
  rw[if_neg g]at h33;exact absurd h33 g
 have hz3:Qp [Ym y.nm.n lw,Hr o,Vi (Qh a) (Qh b)]=0:=by unfold Nd at h33;rw[if_pos hs0]at h33;exact h33
 have hbw:Ym y.nm.n lw=0:=Q8 hz3 _ (.head _);have hor:=N8 (Q8 hz3 _ (.tail _ (.head _)));have hwl:=(Xt hbw).1;have hst:=Gl (F:=F) hs0;have ho:=hy.ok hst.1;have hn1:=ho.n1;have hn0:=ho.n0;have hrn:=ho.rn;have hxl:=(Xt hst.2.2.1).1;have hrs:y.rs.length=y.nm.n:=by unfold ZR.rs;rw[af,hy.VI,hrn]
 obtain⟨n,rfl⟩:∃n:Nat,o=(n:Int):=⟨o.toNat,O⟩;rw[aj]at hok;refine QKr 4 I<|QA (wI I XA .here)<|QI rfl (λ_ _ f k=>Zd (y:=y) f k.1.1 k.1.2.1 ht ho) λc36=>QJD rfl<|QJD rfl<|QJD rfl<|QI rfl (λ_ _ f k=>Dp f k.1.1.1 ⟨hst.2.1,ha⟩ ⟨hst.2.2.2,hb⟩ k.1.1.2.2.1 hc (Xt hst.2.2.1).2) λc40=>JN _ (λw F hF ⟨⟨⟨⟨hGl,hy,hx,hxw⟩,_⟩,h36⟩,h40⟩=>au h40.bx.nl (au h36.VI (h36.pn ho.short))) λhnn=>?_
 obtain⟨hn40,hn36,hp36⟩:=hnn;rw[Y9]at hn40;refine QJD I<|QI I (λ_ _ f k=>BH f k.1.1.1.1 k.1.1.1.2.2.2 hcw (Xt hbw).2) λc42=>QJD I<|JN _ (λ_ _ f k=>k.2.nl) λhn42=>?_
 rw[Y9]at hn42;refine QI I (λ_ _ f k=>M5 (n:=n) f k.1.1.2 k.1.2 k.2 O O O O O (λe he=>wk<|hp36 e he) hok.1) (λc44=>JN _ (λ_ _ f h=>h.2.nl) λhn44=>?_);rw[show(Zw y.rs (Qh a) (Qh b) (lV l) (lV lw) n).length=l.length by simp[Zw,lV]]at hn44;refine QI I (λ_ _ f k=>BY (r:=c44.1) (l:=c44.2) (vs:=(Zw y.rs (Qh a) (Qh b) (lV l) (lV lw) n)) f k.1.1.1.1.1.1 k.2 O hok.2) (λc45=>QKq 7 I ?_);exact JY (c45) rfl (wO I I) (by rw[h33,aj,ES];rfl) λF h9=>by rw[h33,aj,ES];exact h9.2
structure vg(rs:List (List Tm))(fr t2:Rat)(x:List (Rat×Rat))(n:Nat)(b:Int):Prop where
 tr:Ol rs fr t2 x
 tb:∀v,YX rs fr t2 x b=some v->vd rs fr t2 x v n/\∀s∈Zw rs fr t2 x v n,Xb s 10000000
abbrev gS:=(Sr×List Yr)×(Sr×List Yr)
def mdV(c:gS):Value:=.agg #[c.1.1.v,c.2.1.v]
def stF(F:Gs)(o:Option (List (Rat×Rat)×List (Rat×Rat)))(c:gS):Prop:=match o with
 |none=>c.1.1=⟨none,0,0⟩/\c.2.1=⟨none,0,0⟩
 |some v=>J7 F c.1.1 c.1.2 v.1/\J7 F c.2.1 c.2.2 v.2
theorem Br{rs:List (List Tm)}(h:YX rs fr t2 x b=none):Y4 rs fr t2 x n b=none:=by unfold Y4;rw[h];rfl
theorem Bp{rs:List (List Tm)}{v:List (Rat×Rat)}(h:YX rs fr t2 x b=some v):Y4 rs fr t2 x n b=some (v,(Zw rs fr t2 x v n).map (Xe · b)):=by unfold Y4;rw[h];rfl
theorem EL{rs:List (List Tm)}{p:List (Rat×Rat)×List (Rat×Rat)}(hb:b<=64)(ho:vg rs fr t2 x n b)(h:Y4 rs fr t2 x n b=some p):(p.1.length=x.length/\p.2.length=x.length)/\(∀a∈p.1,Xb a 100000000)/\∀a∈p.2,Xb a 100000000:=by
 cases hv:YX rs fr t2 x b with
 |none=>rw[Br hv]at h;cases h
 |some v =>
  rw[Bp hv]at h;cases h;have h1:=RS hb ho.tr hv;refine⟨⟨h1.1,by simp[Zw]⟩,λa ha=>(h1.2 a ha).mono wu,λa ha=>?_⟩;obtain⟨u,hu,rfl⟩:=List.mem_map.1 ha;exact(ET ((ho.tb v hv).2 u hu) hb).mono wu
theorem zQ{y:j9}{x:xB}{rs:List (List Tm)}{vs vx:List (Rat×Rat)}{n:Nat}(hF:Fits F w)(hGl:JC F)(hy:Ga F y rs vs)(hx:Mp F x fr t2 vx)(hn:y.rt.n=x.bx.n)(hnx:x.bx.n<=1000)(hn0:0<x.bx.n)(hpn:∀e∈y.ps,e.1.n<=100000)(hor:n<=300)(hb:0<=b/\b<=64)(ho:vg rs fr t2 vx n b):
  QT prog 107 [.pointer (some ⟨y.b,0,none⟩),x.v,.int .i64 (n:Int),.int .i64 b] w F (λc=>.tuple #[mdV c,.bool (Y4 rs fr t2 vx n b).isSome]) (λc F=>stF F (Y4 rs fr t2 vx n b) c):=by
 have hxn:=hx.bx.nl;refine QT.intro (G:=λF=>JC F/\Ga F y rs vs/\Mp F x fr t2 vx) func107 rfl wy rfl rfl hF (λF' hF'=>⟨hGl.le hF',hy.le hF',hx.le hF'⟩)<|QKO<|Qu rfl (vs:=[_,_,_,_,_,_,_,_,_]) rfl λb5=>Qc M4 λb8=>wQ rfl<|wR rfl<|QA (QJ (vs:=[_,_,_,_,_,_,_,_,_]) rfl BA .u1 .h9 rfl)<|QJD rfl<|QI rfl (λ_ _ f k=>Oz f k.1 k.2.1 k.2.2 hn O O (λe he=>wk<|hpn e he) hb ho.tr) λc16=>QKq 11 I ?_
 refine QA (XJ I)<|QE<|QC ?_
 refine QO I (λhc2=>?_) λhc2=>?_
 ·have hv:YX rs fr t2 vx b=none:=by cases hv:YX rs fr t2 vx b with
   |none=>rfl
   |some v=>rw[hv]at hc2;cases hc2
  refine QKO<|QA (Qx I yS M4 .nil)<|QR (vs:=[_,_]) I I I KW I .here .h2 wT<|wQ I<|QW ?_
  exact JY (((⟨none,0,0⟩,[]),(⟨none,0,0⟩,[]))) I (.JZ (c:=[_,_]) I KW .here (wN I)) (by rw[Br hv];rfl) λF h9=>by rw[Br hv];exact⟨rfl,rfl⟩
 obtain⟨v,hv⟩:∃v,YX rs fr t2 vx b=some v:=by cases hv:YX rs fr t2 vx b with
  |none=>rw[hv]at hc2;cases hc2
  |some v=>exact⟨v,rfl⟩
 have hk:=ho.tb v hv;have hv2:=RS hb.2 ho.tr hv;refine XQ _ (λw F hF ⟨⟨hGl,hy,hx⟩,h16⟩=>(show J7 F c16.1 c16.2 v by rw[hv]at h16;exact h16).nl) (λhn16=>QKr 6 I<|QA (QJ (vs:=[_,_,_,_,_,_,_,_,_]) I BA .u1 .h9 rfl)<|wB 2 I<|QI I (λw F hF ⟨⟨hGl,hy,hx⟩,h16⟩=>M5 (ro:=c16.1) (lo:=c16.2) hF hy hx (by rw[hv]at h16;exact h16) O O O O O hpn hk.1) λc27=>JN _ (λ_ _ f h=>h.2.nl) λhn27=>?_);rw[show(Zw rs fr t2 vx v n).length=vx.length by simp[Zw]]at hn27;refine QJD I<|QI I (λ_ _ f k=>qc f k.2 hb O hk.2) λc29=>QA (Qx I yS M4 (wP I I I))<|QR (vs:=[_,_]) I I I KW I .here .h2 wT<|wQ I<|QW ?_
 exact JY ((c16,c29)) I (.JZ (c:=[_,_]) I KW .here (wN I)) (by rw[Bp hv];rfl) λF ⟨⟨⟨⟨hGl,hy,hx⟩,h16⟩,h27⟩,h29⟩=>by rw[Bp hv];exact⟨by rw[hv]at h16;exact h16,h29⟩
def mbL(v:List (Rat×Rat))(bad:Bool):List (Rat×Rat):=if bad=true then[]else v
def mbE(bad:Bool):Int:=if bad=true then 4 else 0
def mbT(s:List UInt8)(bad:Bool):List UInt8:=if bad=true then[]else s
theorem yy{c:gS}{v u:List (Rat×Rat)}(hF:Fits F w)(hGl:JC F)(hv:J7 F c.1.1 c.1.2 v)(hu:J7 F c.2.1 c.2.2 u)(hnv:v.length<=1000000)(hnu:u.length<=1000000)(hzv:∀a∈v,Xb a 100000000)(hzu:∀a∈u,Xb a 100000000):
  QT prog 108 [mdV c,tx s] w F (λ(d:Sr×Sr)=>.tuple #[.agg #[tx (mbT s (Jv v||Jv u)),d.1.v,d.2.v],.int .i64 (mbE (Jv v||Jv u))]) (λd F=>Bf F d.1 (mbL v (Jv v||Jv u))/\Bf F d.2 (mbL u (Jv v||Jv u))):=by
 have hvn:=hv.nl;have hun:=hu.nl;unfold mdV;refine QT.intro (G:=λF=>JC F/\J7 F c.1.1 c.1.2 v/\J7 F c.2.1 c.2.2 u) func108 rfl wy rfl rfl hF (λF' hF'=>⟨hGl.le hF',hv.le hF',hu.le hF'⟩)<|QKO<|Qu rfl (vs:=[_,_]) rfl λb2=>Qc Wh λb4=>wQ rfl<|QKO<|QA (QH rfl uY JF)<|QA (Qf rfl JF .u1 .h1)<|QI rfl (λ_ _ f k=>BY (r:=c.1.1) (l:=c.1.2) (vs:=v) f k.1 k.2.1 O hzv) λc12=>QJD rfl<|QA (QX rfl rfl)<|QA (QX rfl rfl)<|QJE rfl<|wQ rfl<|QG<|wR rfl<|QA (QU rfl rfl rfl) ?_
 refine QE<|QC ?_
 refine QO I (λhc2=>?_) λhc2=>?_
 ·have hL:Jv v=true:=by
   cases e:Jv v with
   |true=>rfl
   |false=>rw[e]at hc2;cases hc2
  have hbad:(Jv v||Jv u)=true:=by rw[hL];rfl
  refine QKO<|QA (Qx I RR Wh .nil)<|QJD I<|QR (vs:=[_,_,_]) I I I Xz I .here .h3 wU<|wQ I<|QW ?_
  exact JY (((⟨none,0,0⟩:Sr),(⟨none,0,0⟩:Sr))) I (.JZ (c:=[_,_,_]) I Xz .here (wN I)) (by rw[hbad,hL];rfl) λF h9=>by rw[hbad];exact⟨Bf.nil F,Bf.nil F⟩
 have hL:Jv v=false:=by
  cases e:Jv v with
  |false=>rfl
  |true=>rw[e]at hc2;cases hc2
 refine QKr 4 I<|QA (QH I Co JF)<|QA (Qf I JF .u1 (.skip .h1))<|QI I (λ_ _ f k=>BY (r:=c.2.1) (l:=c.2.2) (vs:=u) f k.1.1 k.1.2.2 O hzu) λc22=>QKq 14 I ?_
 refine QO I (λhc2=>?_) λhc2=>?_
 ·have hL2:Jv u=true:=by
   cases e:Jv u with
   |true=>rfl
   |false=>rw[e]at hc2;cases hc2
  have hbad:(Jv v||Jv u)=true:=by rw[hL2,Bool.or_true]
  refine QKO<|QA (Qx I RR Wh .nil)<|QJD I<|QR (vs:=[_,_,_]) I I I Xz I .here .h3 wU<|wQ I<|QW ?_
  exact JY (((⟨none,0,0⟩:Sr),(⟨none,0,0⟩:Sr))) I (.JZ (c:=[_,_,_]) I Xz .here (wN I)) (by rw[hbad,hL2];rfl) λF h9=>by rw[hbad];exact⟨Bf.nil F,Bf.nil F⟩
 have hL2:Jv u=false:=by
  cases e:Jv u with
  |false=>rfl
  |true=>rw[e]at hc2;cases hc2
 have hbad:(Jv v||Jv u)=false:=by rw[hL,hL2];rfl
 refine QKr 7 I<|QA (Qx I RR Wh (.cons (vs:=[_]) I I I .h1 (.cons (vs:=[_]) I I I (.skip .h1) (.cons (vs:=[_]) I I I (.skip (.skip .h1)) .nil))))<|QR (vs:=[_,_,_]) I I I Xz I .here .h3 wU<|wQ I<|QW ?_
 exact JY ((c12,c22)) I (.JZ (c:=[_,_,_]) I Xz .here (wN I)) (by rw[hbad];rfl) λF ⟨⟨⟨hGl,hv,hu⟩,h12⟩,h22⟩=>by rw[hbad];rw[hL]at h12;rw[hL2]at h22;exact⟨h12,h22⟩
def gL(e:Int)(o:Option (List (Rat×Rat)×List (Rat×Rat)))(s:List UInt8):(List UInt8×List (Rat×Rat)×List (Rat×Rat))×Int:=if e≠0 then(([],[],[]),e)else match o with
 |none=>(([],[],[]),25)
 |some p=>((mbT s (Jv p.1||Jv p.2),mbL p.1 (Jv p.1||Jv p.2),mbL p.2 (Jv p.1||Jv p.2)),mbE (Jv p.1||Jv p.2))
theorem QAt{e:Int}{o:Option (List (Rat×Rat)×List (Rat×Rat))}(h:e≠0):gL e o s=(([],[],[]),e):=by unfold gL;rw[if_pos h]
theorem Ik:gL 0 none s=(([],[],[]),25):=rfl
theorem Ij(p:List (Rat×Rat)×List (Rat×Rat))(s:List UInt8):gL 0 (some p) s=((mbT s (Jv p.1||Jv p.2),mbL p.1 (Jv p.1||Jv p.2),mbL p.2 (Jv p.1||Jv p.2)),mbE (Jv p.1||Jv p.2)):=rfl
def MP(y:ZR)(a:List UInt8)(l:List (List UInt8×List UInt8))(b:List UInt8)(o bits:Int):Int:=if Qp [Yn y a l b,Hr o,VU bits]=0 then Vi (Qh a) (Qh b)else Qp [Yn y a l b,Hr o,VU bits]
theorem dY{a b:List UInt8}{r:Sr}{o bits:Int}(hF:Fits F w)(hGl:JC F)(hy:ZZ F y)(ht:HM y)(hx:KM F r l)(hc:H8 r l)(ha:a.length<=1000000)(hb:b.length<=1000000)(hok:MP y a l b o bits=0->vg y.rs (Qh a) (Qh b) (lV l) o.toNat bits):QT prog 81 [y.v,tx a,r.v,tx b,.int .i64 o,.int .i64 bits] w F (λ(d:Sr×Sr)=>.tuple #[.agg #[tx (gL (MP y a l b o bits) (Y4 y.rs (Qh a) (Qh b) (lV l) o.toNat bits) b).1.1,d.1.v,d.2.v],.int .i64 (gL (MP y a l b o bits) (Y4 y.rs (Qh a) (Qh b) (lV l) o.toNat bits) b).2]) (λd F=>Bf F d.1 (gL (MP y a l b o bits) (Y4 y.rs (Qh a) (Qh b) (lV l) o.toNat bits) b).1.2.1/\Bf F d.2 (gL (MP y a l b o bits) (Y4 y.rs (Qh a) (Qh b) (lV l) o.toNat bits) b).1.2.2):=by
 refine QT.intro (G:=λF=>JC F/\ZZ F y/\KM F r l) func81 rfl wy rfl rfl hF (λF' hF'=>⟨hGl.le hF',hy.le hF',hx.le hF'⟩)<|QKO<|Qu rfl (vs:=[_,_,_]) rfl λb6=>Qc Wh λb12=>wQ rfl<|QKO<|QA (wI I XA .u1)<|QJD rfl<|QJD rfl<|QJD rfl<|QI rfl (λ_ _ f k=>Wz (y:=y) f k.1 k.2.1 ht k.2.2 hc ha hb) λ_=>QJD rfl<|QI rfl (λ_ _ f k=>V8 f) λ_=>QJD rfl<|QI rfl (λ_ _ f k=>Bc f) λ_=>Qb rfl (Qz ZL) YT H5 rfl rfl λb26=>QI rfl (λ_ _ f k=>YO f (Qw.of (cs:=aU Jn [_,_,_]) k.2 rfl) wu) λ_=>QJE rfl<|QE<|QC ?_
 refine YS [(1,_),(2,_),(3,_),(4,_),(5,_),(6,_),(12,_)] [(14,.int .i64 (MP y a l b o bits))] wY ?_ ?_
 ·refine wA 6 I ?_;refine QO I (λhc2=>?_) λhc2=>?_
  ·have h29s:Qp [Yn y a l b,Hr o,VU bits]=0:=by simpa using hc2
   have h29:=Gl (F:=F) (Q8 h29s (Yn y a l b) (.head _));refine wA 3 I<|QI I (λ_ _ f k=>V9 f k.1.1.1.1.1.1 ⟨h29.2.1,ha⟩ ⟨h29.2.2.2,hb⟩) λ_=>wB 2 I ?_
   exact Jg ⟨rfl,rfl,rfl,rfl,rfl,rfl,rfl,(congrArg (λb=>some (ai .i64 b)) (by unfold MP;rw[if_pos h29s])),trivial⟩ QJZ tA
  have h29s:¬Qp [Yn y a l b,Hr o,VU bits]=0:=by simpa using hc2
  refine QN ?_;exact Jg ⟨rfl,rfl,rfl,rfl,rfl,rfl,rfl,(congrArg (λb=>some (ai .i64 b)) (by unfold MP;rw[if_neg h29s])),trivial⟩ QJZ w9
 simp only[aa,ae];refine wA 7 I ?_;refine QO I (λhc2=>?_) λhc2=>?_
 ·have h34:=bne_iff_ne.1 hc2;refine QKO<|QA (Qx I RR Wh .nil)<|QJD I<|QR (vs:=[_,_,_]) I I I Xz I .here .h3 wU<|wQ I<|QW ?_
  exact JY (((⟨none,0,0⟩:Sr),(⟨none,0,0⟩:Sr))) I (.JZ (c:=[_,_,_]) I Xz .here (wN I)) (by rw[QAt h34];rfl) λF h9=>by rw[QAt h34];exact⟨Bf.nil F,Bf.nil F⟩
 have h34:MP y a l b o bits=0:=bne_eq_false_iff_eq.1 hc2;have hok:=hok h34;have hz3:Qp [Yn y a l b,Hr o,VU bits]=0:=by
  unfold MP at h34;by_cases g:Qp [Yn y a l b,Hr o,VU bits]=0
  ·exact g
  rw[if_neg g]at h34;exact absurd h34 g
 have hs0:Yn y a l b=0:=Q8 hz3 _ (.head _);have hor:=N8 (Q8 hz3 _ (.tail _ (.head _)));have hbt:=R9 (Q8 hz3 _ (.tail _ (.tail _ (.head _))));have hst:=Gl (F:=F) hs0;have ho:=hy.ok hst.1;have hn1:=ho.n1;have hn0:=ho.n0;have hrn:=ho.rn;have hxl:=(Xt hst.2.2.1).1;have hrs:y.rs.length=y.nm.n:=by unfold ZR.rs;rw[af,hy.VI,hrn]
 obtain⟨n,rfl⟩:∃n:Nat,o=(n:Int):=⟨o.toNat,O⟩;rw[aj]at hok;refine QKr 4 I<|QA (wI I XA .u1)<|QI rfl (λ_ _ f k=>Zd (y:=y) f k.1.1.1.1.1.1 k.1.1.1.1.1.2.1 ht ho) λc39=>QJD rfl<|QJD rfl<|QJD rfl<|QI rfl (λ_ _ f k=>Dp f k.1.1.1.1.1.1.1 ⟨hst.2.1,ha⟩ ⟨hst.2.2.2,hb⟩ k.1.1.1.1.1.1.2.2 hc (Xt hst.2.2.1).2) λc43=>JN _ (λw F hF ⟨⟨⟨⟨⟨⟨⟨⟨hGl,hy,hx⟩,_⟩,_⟩,_⟩,hs26⟩,_⟩,h39⟩,h43⟩=>au h43.bx.nl (au h39.VI (h39.pn ho.short))) λhnn=>?_
 obtain⟨hn43,hn39,hp39⟩:=hnn;rw[Y9]at hn43;refine wB 2 I<|QI I (λ_ _ f k=>zQ (n:=n) f k.1.1.1.1.1.1.1.1 k.1.2 k.2 O O O (λe he=>wk<|hp39 e he) O hbt hok) λc46=>wB 3 I<|Qc M4 λb15=>QR (vs:=[_,_]) I I I KW I .here .h2 wT<|QKq 7 I<|QA (XJ I)<|QE<|QC ?_
 refine QO I (λhc2=>?_) λhc2=>?_
 ·have hv:Y4 y.rs (Qh a) (Qh b) (lV l) n bits=none:=by cases hv:Y4 y.rs (Qh a) (Qh b) (lV l) n bits with
   |none=>rfl
   |some v=>rw[hv]at hc2;cases hc2
  refine QKO<|QA (Qx I RR Wh .nil)<|QR (vs:=[_,_,_]) I I I Xz I .u1 .h3 wU<|wQ I<|QW ?_
  exact JY (((⟨none,0,0⟩:Sr),(⟨none,0,0⟩:Sr))) I (.JZ (c:=[_,_,_]) I Xz .u1 (wN I)) (by rw[h34,aj,hv,Ik];rfl) λF h9=>by rw[h34,aj,hv,Ik];exact⟨Bf.nil F,Bf.nil F⟩
 obtain⟨v,hv⟩:∃v,Y4 y.rs (Qh a) (Qh b) (lV l) n bits=some v:=by cases hv:Y4 y.rs (Qh a) (Qh b) (lV l) n bits with
  |none=>rw[hv]at hc2;cases hc2
  |some v=>exact⟨v,rfl⟩
 have hz:=EL hbt.2 hok hv;rw[Y9]at hz;refine QKr 4 I<|QA (wH I KW .here)<|QJD I<|QI I (λw F hF ⟨⟨⟨⟨⟨⟨⟨⟨⟨hGl,hy,hx⟩,_⟩,_⟩,_⟩,hs26⟩,_⟩,h39⟩,h43⟩,h46⟩=>yy (c:=c46) (v:=v.1) (u:=v.2) (s:=b) hF hGl (by rw[hv]at h46;exact h46.1) (by rw[hv]at h46;exact h46.2) O O hz.2.1 hz.2.2) λc54=>wB 2 I<|QR (vs:=[_,_,_]) I I I Xz I .u1 .h3 wU<|wQ I<|QW ?_
 exact JY (c54) rfl (.JZ (c:=[_,_,_]) I Xz .u1 (wN I)) (by rw[h34,aj,hv,Ij];rfl) λF h9=>by rw[h34,aj,hv,Ij];exact h9.2
instance :Inhabited Sr:=⟨⟨none,0,0⟩⟩
def BN(y:ZR)(t:List UInt8×List UInt8)(l:List (List UInt8×List UInt8)):Int:=Qp [y.e,Xc t.1 t.2,Ym y.nm.n l]
def FI(y:ZR)(t:List UInt8×List UInt8)(l:List (List UInt8×List UInt8))(o:Int):Int:=Qp [y.e,Xc t.1 t.2,Ym y.nm.n l,Hr o]
def seR(e:Int)(tt:List (List (Rat×Rat))):Int×List (List (Rat×Rat)):=if e≠0 then(e,[])else(if tt.any Jv=true then 4 else 0,if tt.any Jv=true then[]else tt)
theorem cw{e:Int}(h:e≠0):seR e tt=(e,[]):=by unfold seR;rw[if_pos h]
theorem CC(tt:List (List (Rat×Rat))):seR 0 tt=(if tt.any Jv=true then 4 else 0,if tt.any Jv=true then[]else tt):=rfl
structure Oj(F:Gs)(c:Sr×List Sr)(tt:List (List (Rat×Rat))):Prop where
 row:Qw F c.1.q c.1.n 1 (c.2.map Sr.v)
 len:c.2.length=c.1.n
 QEK:c.1.n=tt.length
 el:∀j,j<tt.length->Bf F (el c.2 j) (el tt j)
theorem Oj.nil(F:Gs):Oj F (⟨none,0,0⟩,[]) []:=⟨Qw.nil F none 1,rfl,rfl,λj h=>absurd h (bh _)⟩
structure SeJ(tt:List (List (Rat×Rat))) where
 i:Nat
 v:Value
 ob:List (Nat×Obj)
 rs:List Sr
 le:i<=tt.length
 len:rs.length=i
 hr:Q7 24 1 v i (rs.map Sr.v) ob
 no:∀j,j<i->Jv (el tt j)=false
theorem uz(h:i<tt.length)(k:Jv (el tt i)=true):tt.any Jv=true:=List.any_eq_true.2 ⟨_,Q3 h,k⟩
theorem any_none(h:∀j,j<tt.length->Jv (el tt j)=false):tt.any Jv=false:=by
 cases e:tt.any Jv with
 |false=>rfl
 |true =>
  obtain⟨x,hx,k⟩:=List.any_eq_true.1 e;obtain⟨j,hj,rfl⟩:=bQ hx;have:=h j hj;rw[Ja hj,k]at this;cases this
theorem QBm{l:List AW}{j:Nat}{v:Value}(h:i<l.length)(hv:[(el l i).1.v][j]?=some v):(l.map λe=>e.1.v)[i*1+j]?=some v:=by
 match j,hv with
 |0,hv=>rw[Nat.add_zero,ee,List.getElem?_map,List.getElem?_eq_getElem h,bC,<-Ja h];exact hv
 |j+1,hv=>simp at hv
theorem U8[Inhabited α]{l:List α}{x:α}{j:Nat}(h:j<l.length):el (l++[x]) j=el l j:=by rw[Ja h,Ja (by rw[aG];omega),List.getElem_append_left h]
theorem Cs[Inhabited α](l:List α)(x:α):el (l++[x]) l.length=x:=by rw[Ja wz];simp
theorem Ex{r:Sr}(hF:Fits F w)(hGl:JC F)(hy:ZZ F y)(ht:HM y)(htl:t.1.length<=1000000/\t.2.length<=1000000)(hx:KM F r l)(hc:H8 r l):Qe prog 189 [y.v,.agg #[tx t.1,tx t.2],r.v] w F (.int .i64 (BN y t l)):=by
 refine QT.intro (G:=λF=>JC F/\ZZ F y/\KM F r l) func189 rfl wy rfl rfl hF (λF' hF'=>⟨hGl.le hF',hy.le hF',hx.le hF'⟩)<|QKO<|Qu rfl (vs:=[_,_,_]) rfl λb3=>Qu rfl (vs:=[_,_]) rfl λb4=>wQ rfl<|QG<|JK QJZ mixed wm<|QK (wI I XA .u1)<|QM rfl (λ_ _ f k=>Zf (y:=y) f k.1 k.2.1 ht) λ_=>QK (wH I J1 .here)<|QM rfl (λ_ _ f k=>W1 f k.1.1 htl) λ_=>QK (wI I XA .u1)<|QK (QD rfl)<|QM rfl (λw F hF ⟨⟨⟨hGl,hy,hx⟩,_⟩,_⟩=>KA (y:=y) hF hGl hy hx hc) λ_=>?_
 refine Qo I (Qz ZL) YT H5 I I (λb14=>?_) (λw h=>h.imp tC λF h=>h.1.1.1);refine QM I (λ_ _ f k=>YO f (Qw.of (cs:=aU Jn [_,_,_]) k.2 I) wu) (λ_=>QK (QF I)<|Q5<|QC<|QW ?_);exact QKx I I (rfl) w8
theorem Rv(hF:Fits F w)(hGl:JC F)(h:Xc t.1 t.2=0)(hl:t.1.length<=1000000/\t.2.length<=1000000):Xn prog 123 [.agg #[tx t.1,tx t.2]] w F (JG t):=Cr hF hGl (B6 h).1 (B6 h).2.1 hl
theorem zg{r:Sr}{o:Int}(hF:Fits F w)(hGl:JC F)(hy:ZZ F y)(ht:HM y)(htl:t.1.length<=1000000/\t.2.length<=1000000)(hx:KM F r l)(hc:H8 r l)(hok:FI y t l o=0->AK y.rs (JG t) (lV l) o.toNat/\∀b∈(Jt y.rs (JG t) (lV l) o.toNat),∀a∈b,Xb a 100000000):
  QT prog 36 [y.v,.agg #[tx t.1,tx t.2],r.v,.int .i64 o] w F (λ(c:Sr×List Sr)=>.tuple #[c.1.v,.int .i64 (seR (FI y t l o) (Jt y.rs (JG t) (lV l) o.toNat)).1]) (λc F=>Oj F c (seR (FI y t l o) (Jt y.rs (JG t) (lV l) o.toNat)).2):=by
 refine QT.intro (G:=λF=>JC F/\ZZ F y/\KM F r l) func36 rfl wy rfl rfl hF (λF' hF'=>⟨hGl.le hF',hy.le hF',hx.le hF'⟩)<|QKO<|Qu rfl (vs:=[_,_,_]) rfl λb4=>Qu rfl (vs:=[_,_]) rfl λb5=>QJE rfl<|wQ rfl<|QG<|QG<|JK QJZ mixed wm<|QK (wI I XA .u1)<|QM rfl (λ_ _ f k=>Zf (y:=y) f k.1 k.2.1 ht) λ_=>QK (wH I J1 .here)<|QM rfl (λ_ _ f k=>W1 f k.1.1 htl) λ_=>QK (wI I XA .u1)<|QK (QD rfl)<|QM rfl (λw F hF ⟨⟨⟨hGl,hy,hx⟩,_⟩,_⟩=>KA (y:=y) hF hGl hy hx hc) λ_=>QK (QD rfl)<|QM rfl (λ_ _ f k=>V8 f) λ_=>?_
 refine Qo I (Qz ZL) YT H5 I I (λb25=>?_) (λw h=>h.imp tF λF h=>h.1.1.1.1);refine QM I (λ_ _ f k=>YO f (Qw.of (cs:=aU Jn [_,_,_,_]) k.2 I) wu) (λ_=>QK (QF I)<|Q5<|QKs 7 I ?_);refine QO I (λhc2=>?_) λhc2=>?_
 ·have h28:FI y t l o≠0:=bne_iff_ne.1 hc2;refine wA 8 I ?_;exact JY (((⟨none,0,0⟩,[]):Sr×List Sr)) I (wO I I) (by rw[cw h28];rfl) λF h9=>by rw[cw h28];exact Oj.nil F
 have h28:FI y t l o=0:=bne_eq_false_iff_eq.1 hc2;have hok:=hok h28;have hye:y.e=0:=Q8 h28 _ (.head _);have hts:=Q8 h28 (Xc t.1 t.2) (.tail _ (.head _));have hbx:Ym y.nm.n l=0:=Q8 h28 _ (.tail _ (.tail _ (.head _)));have hor:=N8 (Q8 h28 (Hr o) (.tail _ (.tail _ (.tail _ (.head _)))));have ho:=hy.ok hye;have hn1:=ho.n1;have hn0:=ho.n0;have hrn:=ho.rn;have hxl:=(Xt hbx).1;have hrs:y.rs.length=y.nm.n:=by unfold ZR.rs;rw[af,hy.VI,hrn]
 obtain⟨n,rfl⟩:∃n:Nat,o=(n:Int):=⟨o.toNat,O⟩;rw[aj]at hok;have htl2:(Jt y.rs (JG t) (lV l) n).length=l.length:=by rw[VQ,Y9]
 refine QKr 4 I<|wQ rfl<|QG<|QG<|JK QJZ mixed wm<|QK (wI I XA .u1)<|QM rfl (λ_ _ f k=>Zd (y:=y) f k.1.1.1.1.1.1.1 k.1.1.1.1.1.1.2.1 ht ho) λc31=>QK (wH I J1 .here)<|QM rfl (λ_ _ f k=>Rv f k.1.1.1.1.1.1.1.1 hts htl) λc33=>QK (QD rfl)<|QM rfl (λ_ _ f k=>BH f k.1.1.1.1.1.1.1.1.1 k.1.1.1.1.1.1.1.1.2.2 hc (Xt hbx).2) λc35=>Yh _ (λw F hF ⟨⟨⟨⟨⟨⟨⟨⟨⟨⟨hGl,hy,hx⟩,_⟩,_⟩,_⟩,_⟩,hs25⟩,_⟩,h31⟩,h33⟩,h35⟩=>au h35.nl (au h31.VI (h31.pn ho.short))) λhnn=>?_
 obtain⟨hn35,hn31,hp31⟩:=hnn;rw[Y9]at hn35;refine QK (QD I)<|QM I (λ_ _ f k=>P8 (n:=n) (x:=c33) f k.1.1.2 k.1.2 k.2 O O O O (λe he=>wk<|hp31 e he) hok.1) λc37=>Yh _ (λ_ _ f h=>au h.2.2.2.1 h.2.2.2.2.1) λh37p=>?_
 obtain⟨hq37,hl37⟩:=h37p;have hn37:c37.1.n=l.length:=by rw[<-hl37,<-Y9 l,<-VQ y.rs (JG t) (lV l) n,<-hq37,af]
 refine QK (Qg I W7)<|QK (QD I)<|Q5<|QC<|QV<|JW (ι:=SeJ (Jt y.rs (JG t) (lV l) n)) [(37,_),(38,_)] (λi=>[(11,i.v),(39,.int .i64 ((i.i:Nat):Int))]) (λi=>i.ob) (λi F=>∀j,j<i.i->Bf F (el i.rs j) (el (Jt y.rs (JG t) (lV l) n) j)) (λi=>l.length-i.i) (⟨0,.slice none 0 0,[],[],aq _,rfl,.nil,λj h=>absurd h (bh _)⟩) wT wT (tD) (λ_ _ j h=>absurd h (bh _)) λi=>?_
 simp only[aa,ae];have hi:=i.le;refine wA 6 I ?_;refine QO I (λhc2=>?_) λhc2=>?_
 ·have hlt:i.i<l.length:=wk<|QKc hc2
  have hil:=i.len;refine XQ _ (λw F hF ⟨⟨⟨⟨⟨⟨⟨⟨⟨⟨⟨⟨hGl,hy,hx⟩,_⟩,_⟩,_⟩,_⟩,hs25⟩,_⟩,h31⟩,h33⟩,h35⟩,h37⟩,hS⟩=>(Vj h37.2.1 hq37 (show i.i<c37.2.length by omega)).nl) (λhnel=>?_);rw[KY _ _ _ _ (by rw[Y9];exact hlt)]at hnel;refine QKr 6 I<|QA (Q6 (n:=c37.1.n) i.i (λF h9=>h9.1.2.1) rfl rfl W7 XF O)<|QA (JX (n:=c37.1.n) (vs:=[(el c37.2 i.i).1.v]) (i.i*1) (λF h9=>h9.1.2.1) O rfl XF I λj v hv=>QBm (show i.i<c37.2.length by omega) hv)<|Qc WS λb13=>QR (vs:=[_]) I I I XF I .here .h1 wS<|QJC<|QKO<|QA (QH I Xg JF)<|QA (Qf I JF .here .h1)<|QI I (λw F hF ⟨⟨⟨⟨⟨⟨⟨⟨⟨⟨⟨⟨hGl,hy,hx⟩,_⟩,_⟩,_⟩,_⟩,hs25⟩,_⟩,h31⟩,h33⟩,h35⟩,h37⟩,hS⟩=>BY (r:=(el c37.2 i.i).1) (l:=(el c37.2 i.i).2) (vs:=el (Jt y.rs (JG t) (lV l) n) i.i) hF hGl (Vj h37.2.1 hq37 O) (by rw[hnel];omega) (hok.2 _ (Q3 (by rw[VQ,Y9];omega)))) λc46=>QKq 8 I ?_
  refine wA 6 I ?_;refine QO I (λhc2=>?_) λhc2=>?_
  ·have hL:Jv (el (Jt y.rs (JG t) (lV l) n) i.i)=true:=by
    cases e:Jv (el (Jt y.rs (JG t) (lV l) n) i.i)with
    |true=>rfl
    |false=>rw[e]at hc2;cases hc2
   have hany:=uz (show i.i<(Jt y.rs (JG t) (lV l) n).length by omega) hL;refine wA 8 I ?_
   repeat first|refine Q4 ?_|refine Qy ?_
   exact JY (((⟨none,0,0⟩,[]):Sr×List Sr)) I (wO I I) (by rw[h28,CC,aj,if_pos hany,hL];rfl) λF h9=>by rw[h28,CC,aj,if_pos hany,if_pos hany];exact Oj.nil F
  have hL:Jv (el (Jt y.rs (JG t) (lV l) n) i.i)=false:=by
   cases e:Jv (el (Jt y.rs (JG t) (lV l) n) i.i)with
   |false=>rfl
   |true=>rw[e]at hc2;cases hc2
  refine QKr 5 I<|Qb I (Qz TB) J4 QEA I I λb54=>?_
  refine Ys (bs1:=[_]) (ob:=i.ob) (n:=i.i) (k:=1) (sz:=1) (news:=[c46.v]) I I TB J4 QEA I QFT i.hr (Src.row (off:=0) tB (λj q hq=>by rw[aA];rw[ah];exact hq) rfl) O O (λv hv=>by rw[List.mem_singleton.1 hv];rfl) (λv55 ob55 hr55=>?_);refine wB 2 I<|Qk<|QC<|QB<|QA (Qv I I O)<|wB 2 I ?_
  exact Ql (⟨i.i+1,v55,ob55,i.rs++[c46],O,by rw[aG,i.len];rfl,by rw[ao];exact hr55,λj hj=>by
      rcases Nat.lt_succ_iff_lt_or_eq.1 hj with h | rfl
      ·exact i.no j h
      ·exact hL⟩) (by show l.length-(i.i+1)<l.length-i.i;omega) wV ((.cons _ QJZ)) (λF ⟨⟨⟨⟨⟨⟨⟨⟨⟨⟨⟨⟨⟨⟨hGl,hy,hx⟩,_⟩,_⟩,_⟩,_⟩,hs25⟩,_⟩,h31⟩,h33⟩,h35⟩,h37⟩,hS⟩,h46⟩,hs54⟩=>⟨⟨⟨⟨⟨⟨⟨⟨⟨⟨⟨⟨hGl,hy,hx⟩,trivial⟩,trivial⟩,trivial⟩,trivial⟩,hs25⟩,trivial⟩,h31⟩,h33⟩,h35⟩,h37⟩,λj hj=>by
      rcases Nat.lt_succ_iff_lt_or_eq.1 hj with h | rfl
      ·show Bf F (el (i.rs++[c46]) j) _;rw[U8 O];exact hS j h
      show Bf F (el (i.rs++[c46]) i.i) _;rw[show el (i.rs++[c46]) i.i=c46 by conv=>{ lhs;rw[<-hil] };exact Cs _ _];rw[hL]at h46;exact h46⟩)
 have hge:i.i=l.length:=by have:=QKd hc2;have:=i.le;omega
 have hno:(Jt y.rs (JG t) (lV l) n).any Jv=false:=any_none λj hj=>i.no j O;refine Q2 ?_
 repeat first|refine QY ?_|refine QP wy ?_
 refine QZ<|QKs 3 I ?_
 have hxl:=i.len;obtain⟨⟨rq,rn,rc⟩,hv2,hrn,hrc,hfix⟩:=Q7.fix (w0:=w) (F0:=F) (bs1:=[]) (G:=_) i.hr;dsimp only at hrn hrc hfix;subst hrn;refine YB hfix ?_;rw[hv2];dsimp only[Sr.v];refine QKq 6 I ?_;exact JY (((⟨rq,i.i,rc⟩,i.rs):Sr×List Sr)) I (wO I I) (by rw[h28,CC,aj,hno];rfl) λF h9=>by rw[h28,CC,aj,hno];show Oj F (⟨rq,i.i,rc⟩,i.rs) (Jt y.rs (JG t) (lV l) n);exact⟨h9.2,hxl,by show i.i=_;rw[htl2];exact hge,λj hj=>h9.1.2 j (by rw[htl2]at hj;omega)⟩
structure NtJ(n:Nat) where
 i:Nat
 le:i<=n
def zo(xs:List (Fr×Rat)):List (List UInt8):=xs.map λp=>Jh p.2
theorem zk(h:i<xs.length):(zo (xs.take (i+1))).map tx=(zo (xs.take i)).map tx++[tx (Jh (el xs i).2)]:=by rw[XV h];simp[zo]
theorem di(h:i<=xs.length):((zo (xs.take i)).map tx).length=i:=by simp[zo];omega
theorem pC{vs:List Value}{z v:Value}(h:vs.length=i)(hi:i<n):VF (vs++XY [z] (n-i)) (0+i*1) [v] ((vs++[v])++XY [z] (n-(i+1))):=yI h hi
theorem Ub{q:Option Addr}{c:Nat}(hF:Fits F w)(hGl:JC F)(hR:Qw F q n 4 (IJ xs))(hX:Ny F xs)(hn:xs.length=n)(hl:n<=1000000)(hz:∀p∈xs,JQ p.2<=100000000):
  QT prog 97 [.slice q n c] w F (λ(c:Sr)=>c.v) (λc F=>Qw F c.q c.n 1 ((zo xs).map tx)/\c.n=n/\c.n<=c.cap):=by
 refine QT.intro (G:=λF=>JC F/\Qw F q n 4 (IJ xs)/\Ny F xs) func97 rfl wy rfl rfl hF (λF' hF'=>⟨hGl.le hF',hR.le hF',hX.le hF'⟩)<|QKO<|wQ rfl<|wR rfl<|QA (Qg rfl XT)<|M3 (n:=n) (bytes:=16) rfl rfl Z6 JR Ow rfl QFS O O λbk=>YB (E':=⟨w,F,[(bk,.cells ((zo (xs.take 0)).map tx++XY [tx []] (n-0)).toArray 41 (0,0))],λF=>JC F/\Qw F q n 4 (IJ xs)/\Ny F xs⟩) w9<|wQ rfl<|QG<|wR rfl<|QA (Qg rfl XT)<|QJD rfl<|QJC<|QV<|JW (ι:=NtJ xs.length) [(3,_),(9,_),(10,_)] (λi=>[(11,.int .i64 ((i.i:Nat):Int))]) (λi=>[(bk,.cells ((zo (xs.take i.i)).map tx++XY [tx []] (n-i.i)).toArray 41 (0,0))]) (λi F=>True) (λi=>xs.length-i.i) (⟨0,aq _⟩) wU wS QJZ w8 λi=>?_
 simp only[aa,ae];have hi:=i.le;refine wA 6 I ?_;refine QO I (λhc2=>?_) λhc2=>?_
 ·have hlt:i.i<xs.length:=wk<|QKc hc2
  have hem:=Q3 hlt;refine QKr 7 I<|QA (Q6 (n:=n) i.i (λF h9=>h9.1.2.1) rfl rfl XT Qa O)<|QA (JX (n:=n) (vs:=[.int .i64 (el xs i.i).1.n.s,.slice (el xs i.i).1.n.q (el xs i.i).1.n.n (el xs i.i).1.n.cap,.int .i64 (el xs i.i).1.d.s,.slice (el xs i.i).1.d.q (el xs i.i).1.d.n (el xs i.i).1.d.cap]) ((i.i)*4) (λF h9=>h9.1.2.1) O rfl Qa I λj v hv=>Jc (f:=(λe=>KV e.1)) (l:=xs) (λ_=>rfl) O hv)<|Qc XZ λb5=>QJE I<|QR (vs:=[_,_,_,_]) I I I Qa I .here .h4 wV<|QKq 5 I<|QA (wJ I Qa .here)<|QI I (λ_ _ f k=>PF f k.1.1 (k.1.2.2 _ hem) (hz _ hem)) λ_=>QA (JL (i:=i.i) rfl rfl Z6 JR O)<|QR (vs:=[tx (Jh (el xs i.i).2)]) I I I JR I .u1 (pC (di O) O) wS<|QE<|Qk<|QC<|QB ?_
  refine QA (Qv I I O)<|wB 2 I ?_
  exact Ql (⟨i.i+1,hlt⟩) (by show xs.length-(i.i+1)<xs.length-i.i;omega) wV ((by rw[zk hlt];exact .cons _ QJZ)) λF h=>⟨h.1.1,trivial⟩
 have hge:i.i=xs.length:=by have:=QKd hc2;have:=i.le;omega
 refine Q2 ?_
 repeat first|refine QY ?_|refine QP wy ?_
 refine QZ<|QKs 3 I ?_
 have hzz:XY [tx []] (n-i.i)=[]:=by rw[show n-i.i=0 from by omega];rfl
 rw[hzz,aL,hge,aQ];refine Ku (b:=bk) .here<|QKq 5 I ?_
 exact QQ ((⟨some ⟨bk,0,none⟩,n,n⟩:Sr)) I (wN I) (rfl) λF h9=>⟨Qw.of h9.2 (by simp[zo];omega),rfl,aE _⟩
end Go.Proofs.YtpmehagnedbkhaaGreatDoor
