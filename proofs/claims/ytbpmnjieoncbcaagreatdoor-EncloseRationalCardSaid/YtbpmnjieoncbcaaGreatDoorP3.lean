/- Steps of the proof of the theorem in the last file. -/
import Derived.Test.YtbpmnjieoncbcaaGreatDoorP2
import Derived.Lib.AppendZeros
import Derived.Scope
import Derived.Control
set_option linter.all false
set_option maxHeartbeats 4000000
open Go.Proofs.Tryz
open List renaming cons_append → aa,nil_append → ab,length_map → ae,perm_append_comm → af,getElem?_toArray → ag,mem_map_of_mem → aj,map_append → ak,length_range → au,take_succ_cons → aA,drop_succ_cons → aB,append_assoc → aC,range → aE,length_append → aF,take_zero → aG,flatMap_append → aI,drop_zero → aJ,append_nil → aK,getElem_map → aL,range_succ → aM,perm_append_comm_assoc → aN,foldl_append → aO,take_length → aP,map_cons → aR,take_of_length_le → aS,map → aT,mem_cons_of_mem → aW,map_map → aY,length_set → aZ,getElem?_eq_none → bc,length → bh,length_take → bB,length_cons → bC,getElem?_append_left → bD,mem_cons → bG,map_set → bH,map_nil → bI,take_append_drop → bL,singleton_append → bM,getElem_of_mem → bO,ext_getElem → bP,map_id → bU
open Go.Value renaming int → ah,bool → av,tuple → bT
open Int renaming toNat_natCast → ai
open Nat renaming zero_le → ao,zero_add → ay,le_refl → aD,mul_le_mul → aU,le_trans → aV,not_lt_zero → ba,lt_or_ge → bw,mul_one → bY
open Bool renaming eq_iff_iff → aq,or_eq_true → aX
open And renaming intro → ar
open Rat renaming divInt → ax,le_refl → bj,le_trans → bJ,le_of_lt → bK,mul_one → bN,mul_assoc → bS,div_def → bX
open Go.Builtin renaming zeroCells → aH
open List.Sublist renaming refl → aQ,cons → bZ
open Go.Fence renaming wide → bm
open List.Perm renaming refl → bz
open Option renaming map_some → bA
open Option.some renaming injEq → bF
open Go.Region renaming wanted → bQ
open Go.Obj renaming cells → bR
open Go.Exit renaming noGoto → bV
open Array renaming ext' → bW
namespace Go.Proofs.YtbpmnjieoncbcaaGreatDoor
variable{F F' F0:Gs}{l:List (List UInt8×List UInt8)}{bb c i k n:Nat}{f:Nat->Rat×Rat}{va vb x:List (Rat×Rat)}{α ι:Type}{bs:List (Nat×Obj)}{b:Int}{T:TypeId}{w w0:World}{ra rb:Sr}{c1 c2 rest:List Value}{G G0:Gs->Prop}{a:Rat×Rat}{fr t2:Rat}{d0:Df}{s:List UInt8}{tt:List (List (Rat×Rat))}{xs:List (Fr×Rat)}
open Go.RowKit Ig
abbrev Ys:Type:=Sp×Rat×Rat
variable{la lb:List Ys}
instance :Inhabited Sp:=⟨⟨⟨⟨0,none,0,0⟩,⟨0,none,0,0⟩⟩,⟨⟨0,none,0,0⟩,⟨0,none,0,0⟩⟩⟩⟩
def Xi(l:List Ys):List Value:=l.flatMap λe=>Xp e.1
structure J7(F:Gs)(r:Sr)(l:List Ys)(vs:List (Rat×Rat)):Prop where
 row:Qx F r.q r.n 8 (Xi l)
 sp:∀e∈l,Ji F e.1 e.2
 val:l.map (·.2)=vs
 len:l.length=r.n
 cap:r.n<=r.cap
theorem J7.le{r:Sr}{l:List Ys}{vs:List (Rat×Rat)}(h:J7 F r l vs)(k:Gs.le F F'):J7 F' r l vs:=⟨h.row.le k,λe he=>(h.sp e he).le k,h.val,h.len,h.cap⟩
theorem J7.YH{r:Sr}{l:List Ys}{vs:List (Rat×Rat)}(h:J7 F r l vs):vs.length=r.n:=by rw[<-h.val,ae,h.len]
theorem J7.el{r:Sr}{l:List Ys}{vs:List (Rat×Rat)}(h:J7 F r l vs){i:Nat}(hi:i<r.n):(el l i).2=YtbpmnjieoncbcaaGreatDoor.el vs i:=by
 have h2:=h.len;rw[<-h.val,JW (show i<l.length by omega),JW (by rw[ae];omega),aL]
theorem J7.at{r:Sr}{l:List Ys}{vs:List (Rat×Rat)}(h:J7 F r l vs){i:Nat}(hi:i<r.n):Ji F (YtbpmnjieoncbcaaGreatDoor.el l i).1 (YtbpmnjieoncbcaaGreatDoor.el vs i):=by
 rw[<-h.el hi];exact h.sp _ (Qv (by rw[h.len];exact hi))
abbrev WT(P:Program)(f:FuncId)(args:List Value)(w:World)(F:Gs)(vs:List (Rat×Rat)):Prop:=QV P f args w F (λ(c:Sr×List Ys)=>c.1.v) λc F=>J7 F c.1 c.2 vs
theorem GI(l:List Ys):(Xi l).length=l.length*8:=MW (f:=λe:Ys=>Xp e.1) (λ_=>rfl) l
theorem KY(x:Sp):∀v∈Xp x,v.oneCell'=true:=yw x.lo x.hi
theorem MF(l:List Ys)(e:Ys):Xi (l++[e])=Xi l++Xp e.1:=by unfold Xi;rw[aI];simp
structure Wb(n:Nat)(f:Nat->Rat×Rat) where
 i:Nat
 v:Value
 ob:List (Nat×Obj)
 l:List Ys
 le:i<=n
 hr:Q9 120 8 v i (Xi l) ob
 hl:l.map (·.2)=(aE i).map f
def Wb.start(n:Nat)(f:Nat->Rat×Rat):Wb n f:=⟨0,.slice none 0 0,[],[],ao _,.nil,rfl⟩
def Wb.next{n:Nat}{f:Nat->Rat×Rat}(s:Wb n f)(h:s.i<n){v:Value}{ob:List (Nat×Obj)}(c:Sp)(x:Rat×Rat)(hr:Q9 120 8 v (s.i+1) (Xi s.l++Xp c) ob)(hx:x=f s.i):Wb n f :=
 ⟨s.i+1,v,ob,s.l++[(c,x)],h,by rw[MF];exact hr,by rw[ak,aM,ak,s.hl,hx];rfl⟩
theorem Wb.len(s:Wb n f):s.l.length=s.i:=by
 have:=congrArg bh s.hl;simpa using this
def Z9(F:Gs)(l:List Ys):Prop:=∀e∈l,Ji F e.1 e.2
theorem Z9.nil(F:Gs):Z9 F []:=λ_ h=>by cases h
theorem Z9.snoc{l:List Ys}{c:Sp}{x:Rat×Rat}(h:Z9 F l)(k:Ji F c x):Z9 F (l++[(c,x)]):=λe he=>by
 rcases List.mem_append.1 he with he | he
 ·exact h e he
 rw[List.mem_singleton.1 he];exact k
theorem Wb.box(s:Wb n f)(h:s.i=n){F:Gs}{r:Sr}(hr:Qx F r.q r.n 8 (Xi s.l))(hn:r.n=s.i)(hc:s.i<=r.cap)(hs:Z9 F s.l):J7 F r s.l ((aE n).map f) :=
 ⟨hr,hs,by rw[s.hl,h],by rw[s.len,hn],by rw[hn];exact hc⟩
theorem EL{β:Type}[Inhabited α]{f:α->β}{l:List α}{n:Nat}(h:l.length=n):(aE n).map (λi=>f (el l i))=l.map f:=by
 apply bP
 ·simp[h]
 intro i h1 h2;have:i<l.length:=by simpa using h2
 simp[JW this]
theorem CA{b:Nat}{o:Obj}(h:(b,o)∈bs):∃f,Own bs b o f:=by
 induction bs with
 |nil=>cases h
 |cons x l ih =>
  rcases List.mem_cons.1 h with rfl | h
  ·exact⟨_,.here⟩
  obtain⟨f,hf⟩:=ih h;exact⟨_,.there hf⟩
section
variable[Dr][df:Df]{P:Program}{Q:Exit->Act->World->Prop}{N:Nat}{m:Sl}{E E0:Env}{ops:Array Oper}{l:List Oper}{w0:World}{F0:Gs}{bs:List (Nat×Obj)}{G:Gs->Prop}{d:Nat}{ty:TypeId}{pos:String}{aft:Array Edge}
theorem vF{x:Operand}{v:Value}(hx:ev m x=some v)(hr:∀w,(Instr.makeInterface T v).run P w = .ok (.iface T v) w)(k:JD P ops Q E0 l N ((d,.iface T v)::m) E)(hd:J5 N (some d)=true:=by rfl):
  JD P ops Q E0 (⟨some d,.makeInterface T x,ty,pos,aft,none⟩::l) N m E:=λhE a w ha hw=>by
 refine .inr ⟨rfl,?_⟩;rw[if_pos (by simp[bQ])];refine upon_value (w':=w) (v:=.iface T v) ?_ ⟨hE w hw,k hE _ w (ha.put hd _) hw⟩;simp[execOp,ha.ev hx,hr]
theorem vG{γ:Type}{val:γ->Value}{fact:γ->Gs->Prop}{f:FuncId}{x:Operand}{name:String}{args:Array Operand}{tys:Array TypeId}{v:Value}{vs:List Value}(hx:ev m x=some (.iface T v))(hv:E3 m args.toList=some vs)
  (hi:∀w,(invoke (.fn (.method name) #[]) (#[.iface T v]++vs.toArray)).run P w = .ok (.enter f (v::vs).toArray) w) (hc:∀w F,Fits F w->G F->QV P f (v::vs) w F val fact)
  (k:∀c,JD P ops Q E0 l N ((d,val c)::m) ⟨w0,F0,bs,λF=>G F/\fact c F⟩) (hd:J5 N (some d)=true:=by rfl):JD P ops Q E0 (⟨some d,.call ⟨.invoke x name,args,tys⟩,ty,pos,aft,none⟩::l) N m ⟨w0,F0,bs,G⟩:=by
 intro hE a w ha hw;obtain⟨F,hF⟩:=hw;have hcg:=hc w F hF.fits hF.hG;refine .inr ⟨rfl,?_⟩;rw[if_pos (by simp[bQ])];unfold Oper.wp;have e2:args.map a.eval=vs.toArray:=by rw[<-ha.E3 hv];apply bW;simp
 have hrun:(execOp a.eval ⟨some d,.call ⟨.invoke x name,args,tys⟩,ty,pos,aft,none⟩).run P w = .ok (.enter f (v::vs).toArray) w:=by
  simp only[execOp,resolve,ha.ev hx,Sem.run_bind,Sem.run_pure,Result.andThen_ok,e2];exact hi w
 rw[hrun];simp only[Oper.upon];refine hcg.2.mono ?_;rintro e w' ⟨c,F',rfl,h1,h2,h3,h4,h5⟩;have hS:St ⟨w0,F0,bs,λF=>G F/\fact c F⟩ w':=⟨F',hF.call h1 h2 h3 h4 h5⟩;exact⟨hE w' (hS.B3 λ_ h=>h.1),k c (λw h=>hE w (h.B3 λ_ h=>h.1)) _ w' (ha.put hd (val c)) hS⟩
end
theorem BN{q:Option Addr}{ss:List (List UInt8×List UInt8)}(hF:Fits F w)(hGl:JE F)(hR:Qx F q n 2 (ss.flatMap Pc))(hn:ss.length=n)(hb:n<=1000000)(hc:∀s∈ss,XX s.1 s.2=0/\s.1.length<=1000000/\s.2.length<=1000000):
  WT prog 68 [.slice q n c] w F (ss.map Q8):=by
 refine QV.intro (G:=λF=>JE F/\Qx F q n 2 (ss.flatMap Pc)) func68 rfl wy rfl rfl hF (λF' hF'=>⟨hGl.le hF',hR.le hF'⟩)<|QI7<|wQ rfl<|QI7<|wQ rfl<|QG<|wR rfl<|QA (Qh rfl J9)<|QH0 rfl<|QHz<|QW<|JV (ι:=Wb (n) λi=>Q8 (el ss i)) [(6,_),(7,_)] (λi=>[(3,i.v),(8,.int .i64 ((i.i:Nat):Int))]) (λi=>i.ob) (λi F=>Z9 F i.l) (λi=>(n)-i.i) (Wb.start _ _) wT wT QIM (λ_ _=>Z9.nil _) λi=>?_
 simp only[aa,ab];have hi:=i.le;refine wA 6 I ?_;refine QR I (λhc2=>?_) λhc2=>?_
 ·have hlt:i.i<n:=wk<|QJG hc2
  have hem:=Qv (show i.i<ss.length by omega);have hcl:=hc _ hem;have hck:=Bs hcl.1;refine QJL 6 I<|QA (Q3 (n:=n) i.i (λF h9=>h9.1.2) rfl rfl J9 Jq O)<|QA (JK (n:=n) (vs:=[tx (el ss i.i).1,tx (el ss i.i).2]) ((i.i)*2) (λF h9=>h9.1.2) O rfl Jq I λj v hv=>JQ (f:=Pc) (l:=ss) KZ O hv)<|Qc Xe λb5=>QU (vs:=[_,_]) I I I Jq I .here .h2 wT<|QJK 4 I<|QA (wH I Jq .here)<|QI I (λ_ _ f k=>CV (lo:=(el ss i.i).1) (hi:=(el ss i.i).2) f k.1.1 hck.1 hck.2.1 hcl.2) λc14=>Qb I (Q4 JL) Qj Jh I I λb15=>?_
  refine KB (bs1:=[_]) (ob:=i.ob) (n:=i.i) (k:=1) (sz:=8) (news:=(Xp c14)) I I JL Qj Jh I WS i.hr (Src.row (off:=0) tB (λj q hq=>by rw[ay];rw[ag];exact hq) rfl) O O (KY _) (λv16 ob16 hr16=>?_);refine wB 2 I<|Qk<|QC<|QB<|QA (Qw I I O)<|wB 2 I ?_
  exact Qm (i.next hlt c14 (Q8 (el ss i.i)) hr16 rfl) (by show n-(i.i+1)<n-i.i;omega) wV (.cons _ QIM) λF h9=>⟨h9.1.1.1,h9.1.1.2.snoc h9.1.2⟩
 have hge:i.i=n:=wk<|QJH hc2
 refine Qz ?_
 repeat first|refine QZ ?_|refine QQ wy ?_
 refine Qa<|QJM 3 I ?_
 have hxl:=i.len;obtain⟨⟨rq,rn,rc⟩,hv2,hrn,hrc,hfix⟩:=Q9.fix (w0:=w) (F0:=F) (bs1:=[]) (G:=_) i.hr;dsimp only at hrn hrc hfix;subst hrn;refine YS hfix ?_;rw[hv2];dsimp only[Sr.v];refine QJK 5 I ?_;exact QS ((⟨rq,i.i,rc⟩,i.l)) I (wN I) (rfl) λF h9=>by have:=i.box hge (r:=⟨rq,i.i,rc⟩) h9.2 I hrc h9.1.2;rw[EL O (f:=Q8)]at this;exact this
structure TxJ(vs:List (Rat×Rat)) where
 i:Nat
 v:Value
 ob:List (Nat×Obj)
 le:i<=vs.length
 hr:Q9 38 2 v i ((vs.take i).flatMap λa=>[tx (Js a.1),tx (Js a.2)]) ob
 no:∀a∈vs.take i,(Jt a.1||Jt a.2)=false
theorem di{vs:List (Rat×Rat)}(h:i<vs.length)(k:(Jt (el vs i).1||Jt (el vs i).2)=true):Jv vs=true:=by
 unfold Jv;rw[List.any_eq_true];exact⟨_,Qv h,k⟩
theorem j0{vs:List (Rat×Rat)}(h:∀a∈vs,(Jt a.1||Jt a.2)=false):Jv vs=false:=by
 unfold Jv;cases e:vs.any λs=>Jt s.1||Jt s.2 with
 |false=>rfl
 |true =>
  obtain⟨a,ha,k⟩:=List.any_eq_true.1 e;rw[h a ha]at k;cases k
def QAT(a:Rat×Rat):List Value:=[tx (Js a.1),tx (Js a.2)]
theorem BM{r:Sr}{l:List Ys}{vs:List (Rat×Rat)}(hF:Fits F w)(hGl:JE F)(hB:J7 F r l vs)(hb:r.n<=1000000)(hz:∀a∈vs,XN a 100000000):
  QV prog 69 [r.v] w F (λ(c:Sr)=>.tuple #[c.v,.int .i64 (if Jv vs=true then 4 else 0)]) (λc F=>Qx F c.q c.n 2 ((if Jv vs=true then[]else vs).flatMap QAT)/\c.n=(if Jv vs=true then[]else vs).length/\c.n<=c.cap):=by
 obtain⟨q,n,c⟩:=r;have hvl:=hB.YH;have hll:=hB.len;have hcap:=hB.cap;have hel:=λi hi=>hB.el (i:=i) hi;dsimp only[Sr.v]at *
 refine QV.intro (G:=λF=>JE F/\J7 F ⟨q,n,c⟩ l vs) func69 rfl wy rfl rfl hF (λF' hF'=>⟨hGl.le hF',hB.le hF'⟩)<|QI7<|QH1 rfl<|wQ rfl<|QI7<|wQ rfl<|QG<|wR rfl<|QA (Qh rfl JL)<|QH0 rfl<|QHz<|QW<|JV (ι:=TxJ vs) [(7,_),(8,_)] (λi=>[(4,i.v),(9,.int .i64 ((i.i:Nat):Int))]) (λi=>i.ob) (λi F=>True) (λi=>n-i.i) (⟨0,_,[],ao _,.nil,λ_ h=>by cases h⟩) wT wT QIM w8 λi=>?_
 simp only[aa,ab];have hi:=i.le;refine wA 6 I ?_;refine QR I (λhc2=>?_) λhc2=>?_
 ·have hlt:i.i<n:=wk<|QJG hc2
  have hem:=Qv (show i.i<vs.length by omega);have hze:=hz _ hem;refine QJL 6 I<|QA (Q3 (n:=n) i.i (λF h9=>h9.1.2.row) rfl rfl JL Qj O)<|QA (JK (n:=n) (vs:=[.int .i64 (el l i.i).1.lo.n.s,.slice (el l i.i).1.lo.n.q (el l i.i).1.lo.n.n (el l i.i).1.lo.n.cap,.int .i64 (el l i.i).1.lo.d.s,.slice (el l i.i).1.lo.d.q (el l i.i).1.lo.d.n (el l i.i).1.lo.d.cap,.int .i64 (el l i.i).1.hi.n.s,.slice (el l i.i).1.hi.n.q (el l i.i).1.hi.n.n (el l i.i).1.hi.n.cap,.int .i64 (el l i.i).1.hi.d.s,.slice (el l i.i).1.hi.d.q (el l i.i).1.hi.d.n (el l i.i).1.hi.d.cap]) ((i.i)*8) (λF h9=>h9.1.2.row) O rfl Qj I λj v hv=>JQ (f:=(λe=>Xp e.1)) (l:=l) (λ_=>rfl) O hv)<|Qc Jh λb6=>QU (vs:=[_,_,_,_,_,_,_,_]) I I I Qj I .here .h8 wZ<|QJK 5 I<|QA (wK I Qj .here)<|QI I (λ_ _ f k=>Fy (x:=(el l i.i).1) (a:=el vs i.i) f k.1.1 (k.1.2.at hlt) hze) λ_=>QE<|QC ?_
  refine QR I (λhc2=>?_) λhc2=>?_
  ·have hl:=di (show i.i<vs.length by omega) hc2;refine wA 7 I ?_
   repeat first|refine Q6 ?_|refine Qy ?_
   exact Jd (⟨none,0,0⟩) I (wO I I) (by rw[if_pos hl]) λF _=>by rw[if_pos hl];exact⟨Qx.nil F _ _,rfl,aD _⟩
  have hc14:=hc2;refine QJL 4 I<|QA (wK I Qj .here)<|QI I (λ_ _ f k=>p4 (x:=(el l i.i).1) (a:=el vs i.i) f k.1.1.1 (k.1.1.2.at hlt) hze) λ_=>Qb I (Q4 J9) Jq Xe I I λb18=>?_
  refine KB (bs1:=[_]) (ob:=i.ob) (n:=i.i) (k:=1) (sz:=2) (news:=[tx (Js (el vs i.i).1),tx (Js (el vs i.i).2)]) I I J9 Jq Xe I QCi i.hr (Src.row (off:=0) tB (λj q hq=>by rw[ay];rw[ag];exact hq) rfl) O O (Ke wT) (λv19 ob19 hr19=>?_);refine wB 2 I<|Qk<|QC<|QB<|QA (Qw I I O)<|wB 2 I ?_
  exact Qm (⟨i.i+1,v19,ob19,O,by rw[XU O,aI];simpa using hr19,λa ha=>by
  rw[XU O]at ha;rcases List.mem_append.1 ha with ha | ha
  ·exact i.no a ha
  rw[List.mem_singleton.1 ha];exact hc14⟩) (by show n-(i.i+1)<n-i.i;omega) wV (.cons _ QIM) λF h=>⟨h.1.1.1.1,trivial⟩
 have hge:i.i=n:=wk<|QJH hc2
 refine Qz ?_
 repeat first|refine QZ ?_|refine QQ wy ?_
 refine Qa<|QJM 3 I ?_
 have hno:Jv vs=false:=j0 λa ha=>i.no a (by rw[hge,<-hvl,aP];exact ha);obtain⟨⟨rq,rn,rc⟩,hv2,hrn,hrc,hfix⟩:=Q9.fix (w0:=w) (F0:=F) (bs1:=[]) (G:=_) i.hr;dsimp only at hrn hrc hfix;subst hrn;refine YS hfix ?_;rw[hv2];dsimp only[Sr.v];refine QJK 6 I ?_;exact Jd (⟨rq,i.i,rc⟩) I (wO I I) (by rw[if_neg (by rw[hno];decide)]) λF ⟨⟨⟨hGl,hB⟩,_⟩,hrow⟩=>by rw[if_neg (by rw[hno];decide)];rw[hge,<-hvl,aP]at hrow;exact⟨by dsimp only;rw[hge,<-hvl];exact hrow,hge.trans hvl.symm,hrc⟩
theorem FH{f:Rat×Rat->Rat×Rat}{v:List (Rat×Rat)}:DK (λa _=>f a) v v=v.map f:=by
 unfold DK;exact EL I
theorem TT(hF:Fits F w)(ha:J7 F ra la va)(hb:J7 F rb lb vb)(hn:ra.n<=rb.n)(hbn:ra.n<=1000000)(hza:∀x∈va,XN x 100000000)(hzb:∀x∈vb,XN x 100000000):
  Qg prog 74 [ra.v,rb.v] w F (.bool (U7 va vb)):=by
 obtain⟨qa,na,ca⟩:=ra;have hvla:=ha.YH;have hlla:=ha.len;have hcapa:=ha.cap;have hela:=λi hi=>ha.el (i:=i) hi;obtain⟨qb,nb,cb⟩:=rb;have hvlb:=hb.YH;have hllb:=hb.len;have hcapb:=hb.cap;have helb:=λi hi=>hb.el (i:=i) hi;dsimp only[Sr.v]at *
 refine QV.intro (G:=λF=>J7 F ⟨qa,na,ca⟩ la va/\J7 F ⟨qb,nb,cb⟩ lb vb) func74 rfl wy rfl rfl hF (λF' hF'=>⟨ha.le hF',hb.le hF'⟩)<|QI7<|wQ rfl<|QG<|wR rfl<|QA (Qh rfl JL)<|QH0 rfl<|QHz<|QW<|XK (ι:=W9 (aE va.length) λi=>L0 (el va i) (el vb i)) [(0,_),(1,_),(7,_)] (λi=>[(8,.int .i64 ((i.i:Nat):Int))]) (λi=>na-i.i) (W9.start _ _) wU wS λi=>?_
 simp only[aa,ab];have hi:=i.le;rw[au]at hi;refine wA 6 I ?_;refine QR I (λhc2=>?_) λhc2=>?_
 ·have hlt:i.i<na:=wk<|QJG hc2
  have hma:=Qv (show i.i<va.length by omega);have hmb:=Qv (show i.i<vb.length by omega);have hel:el (aE va.length) i.i=i.i:=by rw[JW (by rw[au];omega)];simp
  refine QJL 11 I<|JH QIM mixed wm<|QK (QD I)<|QK (QD I)<|QK (Q3 (n:=na) i.i (λF h9=>h9.1.row) rfl rfl JL Qj O)<|QK (JK (n:=na) (vs:=[.int .i64 (el la i.i).1.lo.n.s,.slice (el la i.i).1.lo.n.q (el la i.i).1.lo.n.n (el la i.i).1.lo.n.cap,.int .i64 (el la i.i).1.lo.d.s,.slice (el la i.i).1.lo.d.q (el la i.i).1.lo.d.n (el la i.i).1.lo.d.cap,.int .i64 (el la i.i).1.hi.n.s,.slice (el la i.i).1.hi.n.q (el la i.i).1.hi.n.n (el la i.i).1.hi.n.cap,.int .i64 (el la i.i).1.hi.d.s,.slice (el la i.i).1.hi.d.q (el la i.i).1.hi.d.n (el la i.i).1.hi.d.cap]) ((i.i)*8) (λF h9=>h9.1.row) O rfl Qj I λj v hv=>JQ (f:=(λe=>Xp e.1)) (l:=la) (λ_=>rfl) O hv)<|QK (QD I)<|QK (QD I)<|QK (Q3 (n:=nb) i.i (λF h9=>h9.2.row) rfl rfl JL Qj O)<|QK (JK (n:=nb) (vs:=[.int .i64 (el lb i.i).1.lo.n.s,.slice (el lb i.i).1.lo.n.q (el lb i.i).1.lo.n.n (el lb i.i).1.lo.n.cap,.int .i64 (el lb i.i).1.lo.d.s,.slice (el lb i.i).1.lo.d.q (el lb i.i).1.lo.d.n (el lb i.i).1.lo.d.cap,.int .i64 (el lb i.i).1.hi.n.s,.slice (el lb i.i).1.hi.n.q (el lb i.i).1.hi.n.n (el lb i.i).1.hi.n.cap,.int .i64 (el lb i.i).1.hi.d.s,.slice (el lb i.i).1.hi.d.q (el lb i.i).1.hi.d.n (el lb i.i).1.hi.d.cap]) ((i.i)*8) (λF h9=>h9.2.row) O rfl Qj I λj v hv=>JQ (f:=(λe=>Xp e.1)) (l:=lb) (λ_=>rfl) O hv)<|QP I (λ_ _ f k=>qk (x:=(el la i.i).1) (y:=(el lb i.i).1) (a:=el va i.i) (b:=el vb i.i) f (k.1.at hlt) (k.2.at (show i.i<nb by omega)) (hza _ hma) (hzb _ hmb)) λ_=>QK (XB I)<|Q7<|QC ?_
  refine QR I (λhc2=>?_) λhc2=>?_
  ·have hc20:=hc2;refine wA 6 I ?_
   repeat first|refine Q6 ?_|refine Qy ?_
   exact QJO I I (congrArg av (by unfold U7;rw[i.hit (by rw[au];omega) (by rw[hel];simpa using hc20)])) w8
  have hc20:=hc2;refine QO<|Qk<|QC<|QB<|QA (Qw I I O)<|wB 2 I ?_
  exact Qm (i.next (by rw[au];omega) (by rw[hel];simpa using hc20)) (by show na-(i.i+1)<na-i.i;omega) wV QIM tA
 have hge:i.i=na:=wk<|QJH hc2
 refine Qz ?_
 repeat first|refine QZ ?_|refine QQ wy ?_
 refine Qa<|QJM 7 I ?_
 exact QJO I I (congrArg av (by unfold U7;rw[i.stop (by rw[au];omega)])) w8
theorem EK{f:Nat}{g:Rat×Rat->Rat×Rat->Rat×Rat}(hF:Fits F w)(hg:∀F F',Gs.le F F'->G0 F->G0 F')(h0:G0 F)(ha:J7 F ra la va)(hb:J7 F rb lb vb)(hn:ra.n<=rb.n)(hbn:ra.n<=1000000)
  (hc:∀i,i<ra.n->∀(x y:Sp) w F,Fits F w->G0 F->Ji F x (el va i)->Ji F y (el vb i)->Xn prog f (c1++[x.v,y.v]++c2) w F (g (el va i) (el vb i))) :
  WT prog 167 [ra.v,rb.v,.func (.func f) c1.toArray c2.toArray] w F (DK g va vb):=by
 obtain⟨qa,na,ca⟩:=ra;have hvla:=ha.YH;have hlla:=ha.len;have hcapa:=ha.cap;have hela:=λi hi=>ha.el (i:=i) hi;obtain⟨qb,nb,cb⟩:=rb;have hvlb:=hb.YH;have hllb:=hb.len;have hcapb:=hb.cap;have helb:=λi hi=>hb.el (i:=i) hi;dsimp only[Sr.v]at *
 refine QV.intro (G:=λF=>G0 F/\J7 F ⟨qa,na,ca⟩ la va/\J7 F ⟨qb,nb,cb⟩ lb vb) func167 rfl wy rfl rfl hF (λF' hF'=>⟨hg F F' hF' h0,ha.le hF',hb.le hF'⟩)<|QI7<|wQ rfl<|QI7<|wQ rfl<|QG<|wR rfl<|QA (Qh rfl JL)<|QH0 rfl<|QHz<|QW<|JV (ι:=Wb (na) λi=>g (el va i) (el vb i)) [(0,_),(1,_),(2,_),(10,_)] (λi=>[(7,i.v),(11,.int .i64 ((i.i:Nat):Int))]) (λi=>i.ob) (λi F=>Z9 F i.l) (λi=>(na)-i.i) (Wb.start _ _) wV wT QIM (λ_ _=>Z9.nil _) λi=>?_
 simp only[aa,ab];have hi:=i.le;refine wA 6 I ?_;refine QR I (λhc2=>?_) λhc2=>?_
 ·have hlt:i.i<na:=wk<|QJG hc2
  refine QJL 10 I<|JH tD mixed wm<|QK (QD I)<|QK (QD I)<|QK (QD I)<|QK (QD I)<|QK (Q3 (n:=na) i.i (λF h9=>h9.1.2.1.row) rfl rfl JL Qj O)<|QK (JK (n:=na) (vs:=[.int .i64 (el la i.i).1.lo.n.s,.slice (el la i.i).1.lo.n.q (el la i.i).1.lo.n.n (el la i.i).1.lo.n.cap,.int .i64 (el la i.i).1.lo.d.s,.slice (el la i.i).1.lo.d.q (el la i.i).1.lo.d.n (el la i.i).1.lo.d.cap,.int .i64 (el la i.i).1.hi.n.s,.slice (el la i.i).1.hi.n.q (el la i.i).1.hi.n.n (el la i.i).1.hi.n.cap,.int .i64 (el la i.i).1.hi.d.s,.slice (el la i.i).1.hi.d.q (el la i.i).1.hi.d.n (el la i.i).1.hi.d.cap]) ((i.i)*8) (λF h9=>h9.1.2.1.row) O rfl Qj I λj v hv=>JQ (f:=(λe=>Xp e.1)) (l:=la) (λ_=>rfl) O hv)<|QK (QD I)<|QK (QD I)<|QK (Q3 (n:=nb) i.i (λF h9=>h9.1.2.2.row) rfl rfl JL Qj O)<|QK (JK (n:=nb) (vs:=[.int .i64 (el lb i.i).1.lo.n.s,.slice (el lb i.i).1.lo.n.q (el lb i.i).1.lo.n.n (el lb i.i).1.lo.n.cap,.int .i64 (el lb i.i).1.lo.d.s,.slice (el lb i.i).1.lo.d.q (el lb i.i).1.lo.d.n (el lb i.i).1.lo.d.cap,.int .i64 (el lb i.i).1.hi.n.s,.slice (el lb i.i).1.hi.n.q (el lb i.i).1.hi.n.n (el lb i.i).1.hi.n.cap,.int .i64 (el lb i.i).1.hi.d.s,.slice (el lb i.i).1.hi.d.q (el lb i.i).1.hi.d.n (el lb i.i).1.hi.d.cap]) ((i.i)*8) (λF h9=>h9.1.2.2.row) O rfl Qj I λj v hv=>JQ (f:=(λe=>Xp e.1)) (l:=lb) (λ_=>rfl) O hv)<|Ib (c1:=c1) (c2:=c2) rfl rfl (λw F f k=>hc i.i hlt (el la i.i).1 (el lb i.i).1 w F f k.1.1 (k.1.2.1.at hlt) (k.1.2.2.at (show i.i<nb by omega))) λc24=>?_
  refine Qp I (Q4 JL) Qj Jh I I (λb25=>?_) (λw h=>h.imp tD tA);rw[<-aK i.ob];refine KM (n:=i.i) (k:=1) (sz:=8) (news:=Xp c24) rfl rfl JL Qj Jh I WS i.hr (Src.row (off:=0) tB (λj q hq=>by rw[ay];rw[ag];exact hq) rfl) O O (KY _) QIM (λ_ h=>h.1.1) (λv26 ob26 hr26=>?_);rw[aK];refine QK (QF I)<|Q7<|Qk<|QC<|QB<|QA (Qw I I O)<|wB 2 I ?_
  exact Qm (i.next hlt c24 (g (el va i.i) (el vb i.i)) hr26 rfl) (by show na-(i.i+1)<na-i.i;omega) wX QIM λF h9=>⟨h9.1.1.1,h9.1.1.2.snoc h9.1.2⟩
 have hge:i.i=na:=wk<|QJH hc2
 refine Qz ?_
 repeat first|refine QZ ?_|refine QQ wy ?_
 refine Qa<|QJM 3 I ?_
 have hxl:=i.len;obtain⟨⟨rq,rn,rc⟩,hv2,hrn,hrc,hfix⟩:=Q9.fix (w0:=w) (F0:=F) (bs1:=[]) (G:=_) i.hr;dsimp only at hrn hrc hfix;subst hrn;refine YS hfix ?_;rw[hv2];dsimp only[Sr.v];refine QJK 5 I ?_;exact QS ((⟨rq,i.i,rc⟩,i.l)) I (wN I) (rfl) λF h9=>by have:=i.box hge (r:=⟨rq,i.i,rc⟩) h9.2 I hrc h9.1.2;unfold DK;rw[hvla];exact this
theorem QAs{x y:Sp}(hF:Fits F w)(h:Ji F x a)(hB:F bb=some (#[.int .i64 b],3))(hb:0<=b/\b<=64)(hz:XN a 10000000):Xn prog 215 [x.v,y.v,.pointer (some ⟨bb,0,none⟩)] w F (Z7 a b):=by
 refine QV.intro (G:=λF=>Ji F x a/\F bb=some (#[.int .i64 b],3)) func215 rfl wy rfl rfl hF (λF' hF'=>⟨h.le hF',hF' _ _ hB⟩)<|QI7<|Qs rfl (vs:=[_,_,_,_,_,_,_,_]) rfl λb3=>Qs rfl (vs:=[_,_,_,_,_,_,_,_]) rfl λb4=>Qc Jh λb5=>QHz<|QI7<|QA (wK I Qj .u2)<|QA (Zr (c:=#[.int .i64 b]) (T':=3) rfl JO tB rfl)<|QI rfl (λ_ _ f k=>Gx (x:=x) (a:=a) (b:=b) f k.1 hb hz) λc8=>QU (vs:=[_,_,_,_,_,_,_,_]) rfl rfl rfl Qj rfl .here .h8 wZ<|QHz<|QY ?_
 exact QS (c8) rfl (.JX (c:=[_,_,_,_,_,_,_,_]) I Qj .here .nil) (rfl) tB
theorem QAb{x y:Sp}(hF:Fits F w)(h:Ji F x a)(hB:F bb=some (#[.int .i64 b],3))(hb:0<=b/\b<=64)(hz:XN a 10000000):Xn prog 177 [x.v,y.v,.pointer (some ⟨bb,0,none⟩)] w F (Z7 a b):=by
 refine QV.intro (G:=λF=>Ji F x a/\F bb=some (#[.int .i64 b],3)) func177 rfl wy rfl rfl hF (λF' hF'=>⟨h.le hF',hF' _ _ hB⟩)<|QI7<|Qs rfl (vs:=[_,_,_,_,_,_,_,_]) rfl λb3=>Qs rfl (vs:=[_,_,_,_,_,_,_,_]) rfl λb4=>Qc Jh λb5=>QHz<|QI7<|QA (wK I Qj .u2)<|QA (Zr (c:=#[.int .i64 b]) (T':=3) rfl JO tB rfl)<|QI rfl (λ_ _ f k=>Gx (x:=x) (a:=a) (b:=b) f k.1 hb hz) λc8=>QU (vs:=[_,_,_,_,_,_,_,_]) rfl rfl rfl Qj rfl .here .h8 wZ<|QHz<|QY ?_
 exact QS (c8) rfl (.JX (c:=[_,_,_,_,_,_,_,_]) I Qj .here .nil) (rfl) tB
theorem QAd{x y:Sp}{c:Rat×Rat}(hF:Fits F w)(h:Ji F x a)(h':Ji F y c)(hB:F bb=some (#[.int .i64 b],3))(hb:0<=b/\b<=64)(hz:XN a 10000000)(hz2:XN c 10000000):Xn prog 172 [x.v,y.v,.pointer (some ⟨bb,0,none⟩)] w F (Z7 (XA a c) b):=by
 have hzz:XN (XA a c) 10000000:=⟨Px hz.1 hz2.1,Py hz.2 hz2.2⟩;refine QV.intro (G:=λF=>Ji F x a/\Ji F y c/\F bb=some (#[.int .i64 b],3)) func172 rfl wy rfl rfl hF (λF' hF'=>⟨h.le hF',h'.le hF',hF' _ _ hB⟩)<|QI7<|Qs rfl (vs:=[_,_,_,_,_,_,_,_]) rfl λb3=>Qs rfl (vs:=[_,_,_,_,_,_,_,_]) rfl λb4=>Qc Jh λb5=>QHz<|QG<|JH (.cons _ tC) mixed wm<|QK (wK I Qj .u1)<|QK (wK I Qj .here)<|QP rfl (λ_ _ f k=>CY (x:=x) (y:=y) (a:=a) (b:=c) f k.1 k.2.1 (hz.mono wu) (hz2.mono wu)) λc8=>QK (Zr (c:=#[.int .i64 b]) (T':=3) rfl JO (λF h9=>h9.2.2) rfl)<|QP rfl (λ_ _ f k=>Gx (x:=c8) (a:=XA a c) (b:=b) f k.2 hb hzz) λc10=>JR (vs:=[_,_,_,_,_,_,_,_]) rfl rfl rfl Qj rfl .here tC (λ_ h=>h.1.1) .h8 wZ<|Q7<|QC<|QY ?_
 exact QS (c10) rfl (.JX (c:=[_,_,_,_,_,_,_,_]) I Qj .here .nil) (rfl) tB
theorem QAc{x y:Sp}{gr:Fr}{c:Rat×Rat}{b:Int}{bg:Nat}(hF:Fits F w)(h:Ji F x a)(h':Ji F y c)(hG:F bg=some ((Kl gr).toArray,118))(hGr:JN F gr (((two b:Int):Rat))⁻¹)(hB:F bb=some (#[.int .i64 b],3))(hb:0<=b/\b<=64)(hz:XN a 2000000)(hz2:XN c 2000000):Xn prog 175 [x.v,y.v,.pointer (some ⟨bg,0,none⟩),.pointer (some ⟨bb,0,none⟩)] w F (SU b a c):=by
 have hzz:XN (XA a c) 2000000:=⟨Px hz.1 hz2.1,Py hz.2 hz2.2⟩;have z1:=hzz.1;have z2:=hzz.2;have s1:=Hp (XA a c).2 (XA a c).1;have s2:=Yt ((XA a c).2-(XA a c).1) (ax 1 4);have s3:JU (ax 1 4)<=4:=wu;have s4:JU (((two b:Int):Rat))⁻¹<=200:=by
  have h0:((two b:Int):Rat).num≠0:=To b;refine aV (Nn h0) ?_;rw[<-BX];have h1:=Wj (((2:Int):Rat)) b.toNat;have h2:JU (((2:Int):Rat))<=2:=wu;have h3:b.toNat*JU (((2:Int):Rat))<=64*2:=aU O h2;omega
 have s5:=KW (((XA a c).2-(XA a c).1)*ax 1 4) (((two b:Int):Rat))⁻¹;have s6:=Hp (XA a c).1 (((XA a c).2-(XA a c).1)*ax 1 4+(((two b:Int):Rat))⁻¹);have s7:=KW (XA a c).2 (((XA a c).2-(XA a c).1)*ax 1 4+(((two b:Int):Rat))⁻¹);refine QV.intro (G:=λF=>Ji F x a/\Ji F y c/\F bg=some ((Kl gr).toArray,118)/\JN F gr (((two b:Int):Rat))⁻¹/\F bb=some (#[.int .i64 b],3)) func175 rfl wy rfl rfl hF (λF' hF'=>⟨h.le hF',h'.le hF',hF' _ _ hG,hGr.le hF',hF' _ _ hB⟩)<|QI7<|Qs rfl (vs:=[_,_,_,_,_,_,_,_]) rfl λb4=>Qs rfl (vs:=[_,_,_,_,_,_,_,_]) rfl λb5=>Qc Jh λb6=>QHz<|QI7<|QA (wK I Qj .u2)<|QA (wK I Qj .u1)<|QI rfl (λ_ _ f k=>CY (x:=x) (y:=y) (a:=a) (b:=c) f k.1 k.2.1 (hz.mono wu) (hz2.mono wu)) λc11=>Qc Jh λb7=>QU (vs:=[_,_,_,_,_,_,_,_]) rfl rfl rfl Qj rfl .here .h8 wZ<|QHz<|QG<|Kr (r:=[0,1,2,3,4,5,6,7,8,9,10,11,12]) tC mixed wm rfl<|Jl 0 wm rfl rfl<|QK (QH rfl Xq QN)<|JB<|Jl 1 wm rfl rfl<|QK (wL I QN .here)<|JB ?_
 refine Jl 2 wm rfl rfl<|QK (QH I Xr QN)<|JB<|Jl 3 wm rfl rfl<|QK (wJ I QN .here)<|JB<|Jl 9 wm rfl rfl ?_
 refine QK (Al (c:=(Kl gr).toArray) (T':=118) (vs:=Kl gr) rfl QN (λF h9=>h9.1.2.2.1) rfl λj v hv=>by rw[ay];rw[ag];exact hv) ?_;refine JB<|Kq (A:=[11]) (r:=[4,5,6,7,8,10,12]) wm<|XJ 4 wm wm wy tC w9 rfl rfl rfl (λ_=>rfl) (λ_ _ f k=>Ua (x:=c11.hi) (y:=c11.lo) (r:=(XA a c).2) (s:=(XA a c).1) f k.2.2 k.2.1 O O) λc16=>XJ 5 wm wm wy tC tA rfl rfl rfl (λ_=>rfl) (λ_ _ f k=>Av (n:=1) f wu wu) λc17=>XJ 6 wm wm wy tC (λ_ h=>h.1.1) rfl rfl rfl (λ_=>rfl) (λ_ _ f k=>Av (n:=4) f wu wu) λc18=>XJ 7 wm wm wy tC (λ_ h=>h.1.1.1) rfl rfl rfl (λ_=>rfl) (λ_ _ f k=>UM (a:=1) (b:=4) f k.1.2 k.2 wu wu wu) λc19=>XJ 8 wm wm wy tC (λ_ h=>h.1.1.1.1) rfl rfl rfl (λ_=>rfl) (λ_ _ f k=>W5 (x:=c16) (y:=c19) (r:=((XA a c).2-(XA a c).1)) (s:=ax 1 4) f k.1.1.1.2 k.2 O O) λc20=>XJ 10 wm wm wy tC (λ_ h=>h.1.1.1.1.1) rfl rfl rfl (λ_=>rfl) (λ_ _ f k=>Dd (x:=c20) (y:=gr) (r:=((XA a c).2-(XA a c).1)*ax 1 4) (s:=(((two b:Int):Rat))⁻¹) f k.2 k.1.1.1.1.1.1.2.2.2.1 O O) λc22=>K9 11 (d:=8) (T:=118) wm wm wy tC (λ_ h=>h.1.1.1.1.1.1) wm wm Jy λb8=>Zw (vs:=[_,_,_,_]) 12 wm wm wy (.cons _ tC) (λ_ h=>h.1.1.1.1.1.1) rfl rfl (λ_=>rfl) (λ_=>rfl) rfl QN I .here tC .h4 wV ?_
 refine V4 ?_ wm;refine QC<|QG<|JH (.cons_cons _ (.cons_cons _ (.cons _ tC))) mixed wm<|QK (QH I Xr QN)<|QK (wJ I QN .u1)<|QK (wJ I QN .here)<|QP I (λ_ _ f k=>Ua (x:=c11.lo) (y:=c22) (r:=(XA a c).1) (s:=(((XA a c).2-(XA a c).1)*ax 1 4+(((two b:Int):Rat))⁻¹)) f k.1.1.1.1.1.1.2.1 k.2 O O) λc26=>QK (QH I Xq QN)<|QK (wL I QN .u1)<|QK (wJ I QN .here)<|QP I (λ_ _ f k=>Dd (x:=c11.hi) (y:=c22) (r:=(XA a c).2) (s:=(((XA a c).2-(XA a c).1)*ax 1 4+(((two b:Int):Rat))⁻¹)) f k.1.1.1.1.1.1.1.2.2 k.1.2 O O) λc30=>QK (Q2 I Z2 Jh (.cons (vs:=[_,_,_,_]) I I I .h4 (.cons (vs:=[_,_,_,_]) I I I (.skip (.skip (.skip (.skip .h4)))) .nil)))<|QK (Zr (c:=#[.int .i64 b]) (T':=3) rfl JO (λF h9=>h9.1.1.1.1.1.1.1.2.2.2.2) rfl)<|QP I (λ_ _ f k=>Gx (x:=⟨c26,c30⟩) (a:=((XA a c).1-(((XA a c).2-(XA a c).1)*ax 1 4+(((two b:Int):Rat))⁻¹),(XA a c).2+(((XA a c).2-(XA a c).1)*ax 1 4+(((two b:Int):Rat))⁻¹))) (b:=b) f ⟨k.1.2,k.2⟩ hb ⟨by show JU ((XA a c).1-(((XA a c).2-(XA a c).1)*ax 1 4+(((two b:Int):Rat))⁻¹))<=_;omega,by show JU ((XA a c).2+(((XA a c).2-(XA a c).1)*ax 1 4+(((two b:Int):Rat))⁻¹))<=_;omega⟩) λc33=>JR (vs:=[_,_,_,_,_,_,_,_]) I I I Qj I .u2 tC (λ_ h=>h.1.1.1) .h8 wZ<|Q7<|QC<|QY ?_
 exact QS (c33) rfl (.JX (c:=[_,_,_,_,_,_,_,_]) I Qj .u2 .nil) (rfl) tB
theorem C9(hF:Fits F w)(ha:J7 F ra la va)(hb:0<=b/\b<=64)(hbn:ra.n<=1000000)(hz:∀x∈va,XN x 10000000):WT prog 165 [ra.v,.int .i64 b] w F (va.map λa=>Z7 a b):=by
 have hvl:=ha.YH;dsimp only[Sr.v];refine QV.intro (G:=λF=>J7 F ra la va) func165 rfl wy rfl rfl hF (λF' hF'=>ha.le hF')<|QI7<|Qs rfl (vs:=[_]) rfl λb3=>wQ rfl<|wR rfl<|QH0 rfl<|Yw (b:=b3) .here<|QA (K5 rfl)<|QI rfl (λw F hF ⟨hA,hB⟩=>EK (f:=215) (c1:=[]) (c2:=[.pointer (some ⟨b3,0,none⟩)]) (g:=λa _=>Z7 a b) (G0:=λF=>F b3=some (#[.int .i64 b],3)) hF (λF F' hle h=>hle _ _ h) hB hA hA (aD _) hbn λi hi x y w F hF hG hx hy=>QAs hF hx hG hb (hz _ (Qv O))) λc8=>wQ rfl<|QY ?_
 exact QS (c8) rfl (wN I) (rfl) λF h9=>by have h:=h9.2;rw[FH]at h;exact h
section
variable[Dr][df:Df]{P:Program}{Q:Exit->Act->World->Prop}{N:Nat}{m:Sl}{E E0:Env}{ops:Array Oper}{l:List Oper}{w0:World}{F0:Gs}{bs:List (Nat×Obj)}{G:Gs->Prop}{d:Nat}{ty:TypeId}{pos:String}{aft:Array Edge}{Y:World->Prop}
theorem O8{e:TypeId}{x:Operand}{q:Option Addr}(hx:ev m x=some (.slice q n c))(hT:G9 P T=some e):Qt P N m Y (.call ⟨.builtin .cap,#[x],#[T]⟩) ty (.int .i64 c):=λa w _ _ _ _ ha _=>by
 rw[YF];simp[builtin,Builtin.cap_,ha.ev hx,run_underlying (Q4 hT),goInt]
theorem uX{t tn e:TypeId}{kn:IntKind}{sz bytes n:Nat}{z:List Value}{g:Bool}{X X2:Operand}(hx:ev m X=some (.slice none 0 0))(hy:ev m X2=some (.int .i64 (n:Int)))(ht:G9 P t=some e)(htn:Nk P tn=some kn)(hs:Z5 P e=some (g,sz))(hz:XE P e=some z)(hzl:z.length=sz)(hby:ZM P e=some bytes)(h0:0<n)(hs0:0<sz)(h63:n<=1000000000)(h47:n*bytes<=140737488355328)
  (kk:∀(b cap:Nat) (rest:List Value),n<=cap->rest.length=cap*sz->cap<=maxLen->JS P ops Q l N ((d,.slice (some ⟨b,0,none⟩) n cap)::m) ⟨w0,F0,(b,.cells rest.toArray e (0,0))::bs,G⟩) (hu:Hk e=true:=by rfl) (hd:J5 N (some d)=true:=by rfl) :
  JS P ops Q (⟨some d,.call ⟨.builtin .append,#[X,X2],#[t,tn]⟩,ty,pos,aft,none⟩::l) N m ⟨w0,F0,bs,G⟩:=λa w ha hw =>
 wpList_plain rfl λK hK=>by
  have hi:∃i,P.info? e=some i/\i.size=sz/\i.bytes=bytes/\∃zv,i.zero=some zv/\zv.cells.toList=z:=by
   unfold Z5 at hs;unfold XE at hz;unfold ZM at hby;cases h:P.info? e with
   |none=>rw[h]at hz;cases hz
   |some i =>
    rw[h]at hs hz hby;dsimp only at hz hs;simp only[bA,bF]at hby;refine⟨i,rfl,?_,hby,?_⟩
    ·split at hs
     ·rename_i h1 h2;cases h2;cases hs;rfl
     cases hs
    cases hzz:i.zero with
    |none=>rw[hzz]at hz;cases hz
    |some zv=>rw[hzz]at hz;simp only[bA,bF]at hz;exact⟨zv,rfl,hz⟩
  obtain⟨i,hi1,hi2,hi3,zv,hi4,hi5⟩:=hi;subst hi2 hi3;have hkn:P.underlying tn=some (.int kn):=by
   unfold Nk at htn;cases h:P.underlying tn with
   |none=>rw[h]at htn;cases htn
   |some u=>rw[h]at htn;cases u<;>simp at htn;rw[htn]
  have hzc:∀q,(aH zv.cells q).toList.length=q*i.size:=λq=>by
   have:=hzl;rw[<-hi5]at this;simp[aH]at this ⊢;rw[this]
  have hrun:=Go.Lib.run_append_nil_zeros (P:=P) w t tn ty e i zv .i64 kn (Q4 ht) hkn hi1 hi4 n h0 hs0 O O;have hge:=grownCap_ge w n 0 e;have e1:(aH zv.cells n++aH zv.cells (grownCap w n 0 e-n))=((aH zv.cells n).toList++(aH zv.cells (grownCap w n 0 e-n)).toList).toArray:=by apply bW;simp
  rw[e1]at hrun;refine upon_value (w':=_) (v:=_) ?_ (hK _ _ (kk w.heap.size (grownCap w n 0 e) ((aH zv.cells n).toList++(aH zv.cells (grownCap w n 0 e-n)).toList) hge (by rw[aF,hzc,hzc,<-Nat.add_mul];congr 1;omega) (grownCap_le_maxLen w n 0 e (by simp only[maxLen];omega)) _ _ (ha.put hd _) (hw.drew.alloc _ (ZL hu))));rw[YF];simp[builtin,ha.ev hx,ha.ev hy,hrun]
end
theorem QBr{n:Nat}(h0:0<n)(hn:n<=100000000):XI prog 220 [.slice none 0 0,.int .i64 (n:Int)] ⟨w0,F0,bs,G⟩ (λ(c:{ c:Value×List (Nat×Obj) // Q9 120 8 c.1 0 [] c.2 })=>c.1.1) (λc=>⟨w0,F0,c.1.2++bs,G⟩):=by
 refine XI.intro func220 rfl wy rfl rfl<|QI7<|wQ rfl<|QG<|wR rfl<|QA (QT rfl rfl rfl)<|QE<|QC ?_
 refine QR I (λhc2=>?_) λhc2=>?_
 ·exact absurd hc2 wz
 refine QJL 7 I<|QA (O8 I JL)<|QH0 I<|QA (Qh I JL)<|QA (X3 I I O)<|QA (X3 I I O) ?_
 rw[show((n:Int)-(((0:Nat):Int)-((0:Nat):Int)))=(n:Int) by omega];refine QJK 9 I ?_;refine QR I (λhc2=>?_) λhc2=>?_
 ·refine wA 3 I<|QA (O8 I JL)<|QA (NV 0 rfl rfl rfl JL Qj (aD _))<|QH0 I<|uX (sz:=8) (bytes:=128) rfl rfl JL k_3 Qj Jh I WS h0 wu O O λb22 cap22 rest22 hc22 hr22 hm22=>QH0 I<|QA (Qh I JL)<|QA (NV 0 rfl rfl rfl JL Qj (ao _))<|QJK 10 I ?_
  exact Y1 (⟨(.slice (some ⟨b22,0,none⟩) 0 cap22,[(b22,_)]),.some (l:=[]) (rest:=rest22) rfl (by simpa using hr22) (ao _) hm22⟩) I (wN I) (rfl) w9
 exact absurd hc2 w6
abbrev U6:Type:=Sr×List Ys
variable{ls:List U6}
instance :Inhabited U6:=⟨(⟨none,0,0⟩,[])⟩
def Ih(F:Gs)(ls:List U6):Prop:=∀e∈ls,J7 F e.1 e.2 (e.2.map (·.2))
theorem Ih.le(h:Ih F ls)(k:Gs.le F F'):Ih F' ls:=λe he=>(h e he).le k
def NY(ls:List U6):List Ys:=ls.flatMap (·.2)
def H7(ls:List U6):Nat:=(NY ls).length
theorem MB(h:i<ls.length):H7 (ls.take (i+1))=H7 (ls.take i)+(el ls i).2.length:=by
 unfold H7 NY;rw[XU h,aI,aF];simp
theorem Oc(i:Nat):H7 (ls.take i)<=H7 ls:=by
 unfold H7 NY;rw[<-bL i ls,aI,aF,bL];omega
theorem q9(h:i<ls.length):Xi (NY (ls.take (i+1)))=Xi (NY (ls.take i))++Xi (el ls i).2:=by
 unfold NY;rw[XU h,aI];unfold Xi;rw[aI];simp
theorem xh(l:List Ys):∀v∈Xi l,v.oneCell'=true:=λv hv=>by
 obtain⟨e,_,h⟩:=List.mem_flatMap.1 hv;exact KY e.1 v h
theorem J7.q0{r:Sr}{l:List Ys}{vs:List (Rat×Rat)}(h:J7 F r l vs):r.q=none->r.n=0:=λe=>by
 rcases Nat.eq_zero_or_pos r.n with h0 | h0
 ·exact h0
 obtain⟨b,off,h1⟩:=h.row.ptr h0;rw[e]at h1;cases h1
structure CcI(ls:List U6) where
 i:Nat
 le:i<=ls.length
structure CcJ(ls:List U6) where
 i:Nat
 v:Value
 ob:List (Nat×Obj)
 le:i<=ls.length
 hr:Q9 120 8 v (H7 (ls.take i)) (Xi (NY (ls.take i))) ob
theorem kQ{q:Option Addr}{cap:Nat}(hF:Fits F w)(hR:Qx F q n 1 (ls.map λe=>e.1.v))(hn:ls.length=n)(hB:Ih F ls)(hnb:n<=1000000)(h0:0<H7 ls)(ht:H7 ls<=1000000):
  WT prog 178 [.slice q n cap] w F ((NY ls).map (·.2)):=by
 have hlen:∀e∈ls,e.2.length=e.1.n:=λe he=>(hB e he).len;refine QV.intro (G:=λF=>Qx F q n 1 (ls.map λe=>e.1.v)/\Ih F ls) func178 rfl wy rfl rfl hF (λF' hF'=>⟨hR.le hF',hB.le hF'⟩)<|QI7<|wQ rfl<|QI7<|wQ rfl<|QG<|wR rfl<|QA (Qh rfl P4)<|QH0 rfl<|QHz<|QW<|XK (ι:=CcI ls) [(0,_),(9,_),(10,_)] (λi=>[(3,.int .i64 (((H7 (ls.take i.i)):Nat):Int)),(11,.int .i64 ((i.i:Nat):Int))]) (λi=>n-i.i) (⟨0,ao _⟩) wU wT λi=>?_
 simp only[aa,ab];have hi:=i.le;refine wA 6 I ?_;refine QR I (λhc2=>?_) λhc2=>?_
 ·have hlt:i.i<ls.length:=wk<|QJG hc2
  have hem:=Qv hlt;have htk:=MB hlt;have htl:=Oc (ls:=ls) (i.i+1);refine QJL 6 I<|QA (Q3 (n:=n) i.i tA rfl rfl P4 JF O)<|QA (Q5 (n:=n) ((i.i)*1) tA O rfl JF (XL (f:=λe:U6=>e.1.v) (l:=ls) O))<|QJK 7 I<|QA (Qh I JL) ?_
  rw[<-hlen _ hem];refine QA (Qw I I O) ?_;rw[show(((H7 (ls.take i.i):Nat):Int)+(((el ls i.i).2.length:Nat):Int))=((H7 (ls.take (i.i+1)):Nat):Int) by rw[htk];omega];refine QJK 9 I ?_;refine QR I (λhc2=>?_) λhc2=>?_
  ·exact absurd hc2 wz
  refine QO<|Qk<|QC<|QB<|QA (Qw I I O)<|wB 2 I ?_
  exact Qm (⟨i.i+1,hlt⟩) (by show n-(i.i+1)<n-i.i;omega) wW QIM w9
 have hge:i.i=ls.length:=wk<|QJH hc2
 refine Qz ?_
 repeat first|refine QZ ?_|refine QQ wy ?_
 refine Qa<|QJM 4 I ?_
 rw[show H7 (ls.take i.i)=H7 ls by rw[hge,aP]];refine XW I (bz _) (QBr h0 O) (λc24=>?_);rw[aK];refine QJK 7 I<|QA (Qh I P4)<|QJK 4 I<|JV (ι:=CcJ ls) [(25,_),(26,_)] (λi2=>[(6,i2.v),(27,.int .i64 ((i2.i:Nat):Int))]) (λi2=>i2.ob) (λi2 F=>True) (λi2=>n-i2.i) (⟨0,c24.1.1,c24.1.2,ao _,c24.2⟩) wT wT QIM w8 λi2=>?_
 simp only[aa,ab];have hi2:=i2.le;refine wA 6 I ?_;refine QR I (λhc2=>?_) λhc2=>?_
 ·have hlt2:i2.i<ls.length:=wk<|QJG hc2
  have hem2:=Qv hlt2;have htk2:=MB hlt2;have htl2:=Oc (ls:=ls) (i2.i+1);refine QJL 6 I<|QA (Q3 (n:=n) (i2.i) (λF h9=>h9.1.1) rfl rfl P4 JF O)<|QA (Q5 (n:=n) ((i2.i)*1) (λF h9=>h9.1.1) O rfl JF (XL (f:=λe:U6=>e.1.v) (l:=ls) O))<|QJK 6 I<|KB (bs1:=[]) (ob:=i2.ob) (n:=H7 (ls.take i2.i)) (k:=(el ls i2.i).2.length) (sz:=8) (news:=Xi (el ls i2.i).2) rfl rfl JL Qj Jh I WS i2.hr (by rw[hlen _ hem2];exact Src.QGX (hB _ hem2).q0 (λF h9=>(h9.1.2 _ hem2).row) (by rw[GI,hlen _ hem2])) O O (xh _) λv33 ob33 hr33=>wB 2 I<|Qk<|QC<|QB<|QA (Qw I I O)<|wB 2 I ?_
  exact Qm (⟨i2.i+1,v33,ob33,hlt2,by rw[MB hlt2,q9 hlt2];exact hr33⟩) (by show n-(i2.i+1)<n-i2.i;omega) wV QIM λF h=>⟨h.1,trivial⟩
 have hge2:i2.i=ls.length:=wk<|QJH hc2
 refine Qz ?_
 repeat first|refine QZ ?_|refine QQ wy ?_
 refine Qa<|QJM 3 I ?_
 obtain⟨⟨rq,rn,rc⟩,hv2,hrn,hrc,hfix⟩:=Q9.fix (w0:=w) (F0:=F) (bs1:=[]) (G:=_) i2.hr;dsimp only at hrn hrc hfix;refine YS hfix ?_;rw[hv2];dsimp only[Sr.v];refine QJK 5 I ?_;exact QS ((⟨rq,rn,rc⟩,NY ls)) I (wN I) (rfl) λF ⟨⟨⟨hR,hB⟩,_⟩,hrow⟩=>by rw[hge2,aP]at hrow hrn hrc;exact⟨by dsimp only;rw[hrn];exact hrow,λe he=>by obtain⟨x,hx,h⟩:=List.mem_flatMap.1 he;exact(hB x hx).sp e h,rfl,hrn.symm,by dsimp only;rw[hrn];exact hrc⟩
theorem M7:∀(l:List Rat) (r:Rat),l.foldl UP r<=r
 |[],r=>bj
 |x::l,r=>by
  refine bJ (M7 l (UP r x)) ?_;unfold UP;split
  ·rename_i h;exact bK ((Wp x r).1 h)
  exact bj
theorem M8:∀(l:List Rat) (r:Rat),r<=l.foldl N2 r
 |[],r=>bj
 |x::l,r=>by
  refine bJ ?_ (M8 l (N2 r x));unfold N2;split
  ·rename_i h;exact bK ((WV x r).1 h)
  exact bj
theorem Cv(a b:Rat×Rat):(Jg a b).1<=(Jg a b).2:=by
 unfold Jg;rw[ZN];exact bJ (M7 _ _) (M8 _ _)
theorem LH(h:a.1<=a.2):Jg a (1,1)=a:=by
 unfold Jg;rw[ZN];simp only[bN,List.foldl_cons,List.foldl_nil];have l1:UP a.1 a.1=a.1:=by unfold UP;split<;>rfl
 have l2:UP a.1 a.2=a.1:=by unfold UP;rw[if_neg (by rw[Wp];exact Rat.not_lt.2 h)]
 have g1:N2 a.1 a.1=a.1:=by unfold N2;split<;>rfl
 have g3:N2 a.2 a.2=a.2:=by unfold N2;split<;>rfl
 have g2:N2 a.1 a.2=a.2:=by
  unfold N2;by_cases e:a.1<a.2
  ·rw[if_pos ((WV a.2 a.1).2 e)]
  rw[if_neg (by rw[WV];exact e)];exact Rat.le_antisymm h (Rat.not_lt.1 e)
 rw[l1,l2,l2,g1,g2,g3]
theorem qJ(a:Rat×Rat):Vm a 0=(1,1):=by
 unfold Vm;rw[ZN];simp[UP,N2,Rat.pow_zero]
theorem OZ{c:Rat×Rat}(hc:c.1<=c.2)(bs:List (Rat×Rat))(ks:List Int):∀i,(WX c bs ks i).1<=(WX c bs ks i).2
 |0=>hc
 |i+1=>by
  rw[GF];split
  ·exact Cv _ _
  exact OZ hc bs ks i
theorem xL{c:Rat×Rat}(hc:c.1<=c.2){bs:List (Rat×Rat)}{ks:List Int}{i:Nat}(hk:0<=Qn ks i):Jg (WX c bs ks i) (Vm (el bs i) (Qn ks i))=WX c bs ks (i+1):=by
 rw[GF];by_cases h:Qn ks i>0
 ·rw[if_pos h]
 rw[if_neg h,show Qn ks i=0 by omega,qJ,LH (OZ hc bs ks i)]
structure OX(bs:List (Rat×Rat))(l:List Tm):Prop where
 base:∀x∈bs,XN x 1000000
 Dt:∀t∈l,JU t.1<=1000000
 pw:∀t∈l,t.2.length<=bs.length/\t.2.length<=1000/\∀k∈t.2,0<=k/\k<=12
 val:∀t∈l,∀i,i<=t.2.length->XN (WX (t.1,t.1) bs t.2 i) 20000000
 pow:∀t∈l,∀i,i<t.2.length->XN (Vm (el bs i) (Qn t.2 i)) 20000000
 sum:∀k,XN (XM bs (l.take k)) 100000000
structure VaI(n:Nat) where
 i:Nat
 x:Sp
 le:i<=n
theorem Rm{bs:List (Rat×Rat)}{l:List Tm}(h:i<l.length):XM bs (l.take (i+1))=Vv (XM bs (l.take i)) (WX ((el l i).1,(el l i).1) bs (el l i).2 (el l i).2.length):=by
 rw[XU h];unfold XM;rw[aO];rfl
theorem Dy{pa:WA}{x:Sp}{t:Rat×Rat}(hF:Fits F w)(hP:XR F pa.1 pa.2 (J4 pa.2))(hT:Ji F x t)(hB:J7 F rb lb vb)(hbn:rb.n<=100000)(hpn:pa.1.n<=1000000)(ho:OX (t::vb) (J4 pa.2)):
  Xn prog 108 [pa.1.v,x.v,rb.v] w F (XM (t::vb) (J4 pa.2)):=by
 obtain⟨⟨q,n,c⟩,ts⟩:=pa;have hln:ts.length=n:=hP.2.2.2.2;have hvl:=hB.YH;dsimp only[Sr.v]at *
 have hlm:(J4 ts).length=n:=by rw[Ye];exact hln
 refine QV.intro (G:=λF=>(Qx F q n 5 (ts.flatMap V8)/\W8 F ts)/\Ji F x t/\J7 F rb lb vb) func108 rfl wy rfl rfl hF (λF' hF'=>⟨⟨hP.1.le hF',hP.2.1.le hF'⟩,hT.le hF',hB.le hF'⟩)<|QI7<|Qs rfl (vs:=[_,_,_,_,_,_,_,_]) rfl λb4=>Qc Jh λb6=>QHz<|QI7<|QA (wK I Qj .u1)<|Qb rfl (Q4 JL) Qj Jh rfl rfl λb15=>QH0 rfl<|Qb rfl (Q4 P4) JF QDW rfl rfl λb17=>?_
 have hcat:(NY [((⟨some ⟨b15,0,none⟩,1,1⟩:Sr),[(x,t)]),(rb,lb)]).map (·.2)=t::vb:=by unfold NY;simp[hB.val]
 have htot:H7 [((⟨some ⟨b15,0,none⟩,1,1⟩:Sr),[(x,t)]),(rb,lb)]=1+rb.n:=by unfold H7 NY;simp[hB.len];omega
 refine QI I (λw F hF ⟨⟨⟨⟨hR,hN⟩,hT,hB⟩,hs15⟩,hs17⟩=>kQ (ls:=[((⟨some ⟨b15,0,none⟩,1,1⟩:Sr),[(x,t)]),(rb,lb)]) hF (Qx.of (n:=2) (sz:=1) hs17 rfl) rfl (λe he=>by
  simp only[bG,List.not_mem_nil,or_false]at he;rcases he with rfl | rfl
  ·exact⟨Qx.of (n:=1) (sz:=8) hs15 rfl,λe he=>by rw[List.mem_singleton.1 he];exact hT,rfl,rfl,aD _⟩
  exact⟨hB.row,hB.sp,rfl,hB.len,hB.cap⟩) wu O O) λc18=>?_
 rw[hcat];refine JM _ (λ_ _ f h=>ar h.2.len (ar h.2.YH h.2.cap)) (λh18p=>?_);obtain⟨l18,v18,_⟩:=h18p;rw[bC]at v18;refine QJK 5 I<|QI I (λ_ _ f k=>TO (n:=0) f wu wu) λc19=>QI I (λ_ _ f k=>Kd (x:=c19) (r:=((0:Int):Rat)) f k.2) λc20=>Qc Jh λb8=>QU (vs:=[_,_,_,_,_,_,_,_]) I I I Qj I .here .h8 wZ<|QJK 6 I<|QA (Qh I Yp)<|QJK 4 I<|JV (ι:=VaI ts.length) [(6,_),(7,_),(8,_),(21,_),(22,_)] (λi=>[(23,.int .i64 ((i.i:Nat):Int))]) (λi=>[(b8,.cells (Xp i.x).toArray 120 (0,0)),(b6,.cells [.int .i64 0,.slice none 0 0,.int .i64 0,.slice none 0 0,.int .i64 0,.slice none 0 0,.int .i64 0,.slice none 0 0].toArray 120 (0,0)),(b4,.cells (Xp x).toArray 120 (0,0))]) (λi F=>Ji F i.x (XM (t::vb) ((J4 ts).take i.i))) (λi=>ts.length-i.i) (⟨0,c20,ao _⟩) wW wS QIM tB λi=>?_
 simp only[aa,ab];have hi:=i.le;refine wA 6 I ?_;refine QR I (λhc2=>?_) λhc2=>?_
 ·have hlt:i.i<ts.length:=wk<|QJG hc2
  have htm:=Qv hlt;have htA:(el ts i.i).t∈J4 ts:=aj htm;have hpw:=ho.pw _ htA;refine XS _ (λ_ _ f h=>(h.1.1.1.1.1.1.1.2 _ htm).2.2.1) (λhrl=>QJL 6 I<|QA (Q3 (n:=n) i.i (λF h9=>h9.1.1.1.1.1.1.1.1) rfl rfl Yp Xu O)<|QA (JK (n:=n) (vs:=[.int .i64 (el ts i.i).x.n.s,.slice (el ts i.i).x.n.q (el ts i.i).x.n.n (el ts i.i).x.n.cap,.int .i64 (el ts i.i).x.d.s,.slice (el ts i.i).x.d.q (el ts i.i).x.d.n (el ts i.i).x.d.cap,.slice (el ts i.i).r.q (el ts i.i).r.n (el ts i.i).r.cap]) ((i.i)*5) (λF h9=>h9.1.1.1.1.1.1.1.1) O rfl Xu I λj v hv=>JQ (f:=V8) (l:=ts) Bf O hv)<|Qc GD λb10=>QU (vs:=[_,_,_,_,_]) I I I Xu I .here .h5 wW<|QHz<|QI7<|QA (QH I Wn QN)<|QA (wJ I QN .here)<|QI I (λ_ _ f k=>Kd (x:=(el ts i.i).x) (r:=(el ts i.i).t.1) f (k.1.1.1.1.1.1.1.2 _ htm).1) λc29=>Qc Jh λb11=>QU (vs:=[_,_,_,_,_,_,_,_]) I I I Qj I .here .h8 wZ<|QJK 5 I ?_);refine QA (QH I Vp Jz)<|QA (Qf I Jz .u1 (.skip (.skip (.skip (.skip .h1)))))<|QA (Qh I JC)<|QJK 4 I<|JV (ι:=VaI (el ts i.i).t.2.length) [(6,_),(7,_),(8,_),(11,_),(21,_),(22,_),(23,_),(31,_),(32,_)] (λi2=>[(33,.int .i64 ((i2.i:Nat):Int))]) (λi2=>[(b11,.cells (Xp i2.x).toArray 120 (0,0)),(b10,.cells (V8 (el ts i.i)).toArray 227 (0,0)),(b8,.cells (Xp i.x).toArray 120 (0,0)),(b6,.cells [.int .i64 0,.slice none 0 0,.int .i64 0,.slice none 0 0,.int .i64 0,.slice none 0 0,.int .i64 0,.slice none 0 0].toArray 120 (0,0)),(b4,.cells (Xp x).toArray 120 (0,0))]) (λi2 F=>Ji F i2.x (WX ((el ts i.i).t.1,(el ts i.i).t.1) (t::vb) (el ts i.i).t.2 i2.i)) (λi2=>(el ts i.i).t.2.length-i2.i) (⟨0,c29,ao _⟩) we wS QIM tB λi2=>?_
  simp only[aa,ab];have hj:=i2.le;refine wA 6 I ?_;refine QR I (λhc2=>?_) λhc2=>?_
  ·have hlt2:i2.i<(el ts i.i).t.2.length:=wk<|QJG hc2
   have hk12:0<=Qn (el ts i.i).t.2 i2.i/\Qn (el ts i.i).t.2 i2.i<=12:=by rw[Yr hlt2];exact hpw.2.2 _ (Qv hlt2)
   have hbl:(t::vb).length=vb.length+1:=bC;have hbz:=ho.base _ (Qv (show i2.i<(t::vb).length by omega));refine QJL 7 I<|QA (Q3 (n:=(el ts i.i).r.n) (i2.i) (λF h9=>((h9.1.1.1.1.1.1.1.1.1.2 _ htm).2).1) rfl rfl JC JO O)<|QA (Q5 (n:=(el ts i.i).r.n) ((i2.i)*1) (λF h9=>((h9.1.1.1.1.1.1.1.1.1.2 _ htm).2).1) O rfl JO (J6 (o:=(el ts i.i).t.2) O))<|QJK 4 I<|Jp 8 QIM mixed wm wm ?_
   simp only[aA,aG,aB,aJ];refine QK (wK I Qj .here)<|QK (QD I)<|QK (QD I)<|QK (Q3 (n:=c18.1.n) (i2.i) (λF h9=>h9.1.1.1.1.1.2.row) rfl rfl JL Qj O)<|QK (JK (n:=c18.1.n) (vs:=[.int .i64 (el c18.2 (i2.i)).1.lo.n.s,.slice (el c18.2 (i2.i)).1.lo.n.q (el c18.2 (i2.i)).1.lo.n.n (el c18.2 (i2.i)).1.lo.n.cap,.int .i64 (el c18.2 (i2.i)).1.lo.d.s,.slice (el c18.2 (i2.i)).1.lo.d.q (el c18.2 (i2.i)).1.lo.d.n (el c18.2 (i2.i)).1.lo.d.cap,.int .i64 (el c18.2 (i2.i)).1.hi.n.s,.slice (el c18.2 (i2.i)).1.hi.n.q (el c18.2 (i2.i)).1.hi.n.n (el c18.2 (i2.i)).1.hi.n.cap,.int .i64 (el c18.2 (i2.i)).1.hi.d.s,.slice (el c18.2 (i2.i)).1.hi.d.q (el c18.2 (i2.i)).1.hi.d.n (el c18.2 (i2.i)).1.hi.d.cap]) ((i2.i)*8) (λF h9=>h9.1.1.1.1.1.2.row) O rfl Qj I λj v hv=>JQ (f:=(λe=>Xp e.1)) (l:=c18.2) (λ_=>rfl) O hv)<|QK (QD I)<|QP I (λ_ _ f k=>y9 (x:=(el c18.2 i2.i).1) (a:=el (t::vb) i2.i) (n:=Qn (el ts i.i).t.2 i2.i) f (k.1.1.1.1.1.2.at (show i2.i<c18.1.n by omega)) hk12 hbz) λc44=>QP I (λ_ _ f k=>Ui (x:=i2.x) (y:=c44) (a:=WX ((el ts i.i).t.1,(el ts i.i).t.1) (t::vb) (el ts i.i).t.2 i2.i) (b:=Vm (el (t::vb) i2.i) (Qn (el ts i.i).t.2 i2.i)) f k.1.2 k.2 (ho.val _ htA _ O) (ho.pow _ htA _ hlt2)) λc45=>ZV<|QU (vs:=[_,_,_,_,_,_,_,_]) I I I Qj I .here .h8 wZ<|QE<|Qk<|QC<|QB<|QA (Qw I I O)<|wB 2 I ?_
   exact Qm (⟨i2.i+1,c45,hlt2⟩) (by show(el ts i.i).t.2.length-(i2.i+1)<(el ts i.i).t.2.length-i2.i;omega) wg QIM λF ⟨⟨⟨⟨⟨⟨⟨⟨⟨⟨⟨⟨hR,hN⟩,hT,hB⟩,hs15⟩,hs17⟩,h18⟩,TM⟩,h20⟩,hS⟩,h29⟩,hY⟩,h44⟩,h45⟩=>⟨⟨⟨⟨⟨⟨⟨⟨⟨⟨hR,hN⟩,hT,hB⟩,hs15⟩,hs17⟩,h18⟩,TM⟩,h20⟩,hS⟩,h29⟩,by show Ji F c45 (WX _ _ _ (i2.i+1));rw[<-xL bj hk12.1];exact h45⟩
  have hge2:i2.i=(el ts i.i).t.2.length:=wk<|QJH hc2
  refine Qz ?_
  repeat first|refine QZ ?_|refine QQ wy ?_
  refine Qa<|QC<|QB<|QA (wK I Qj .u2)<|QA (wK I Qj .here)<|QI I (λ_ _ f k=>MZ (x:=i.x) (y:=i2.x) (a:=XM (t::vb) ((J4 ts).take i.i)) (b:=WX ((el ts i.i).t.1,(el ts i.i).t.1) (t::vb) (el ts i.i).t.2 i2.i) f k.1.1.2 k.2 (ho.sum _) ((ho.val _ htA _ O).mono wu)) λc49=>QU (vs:=[_,_,_,_,_,_,_,_]) I I I Qj I .u2 .h8 wZ<|QE<|Qk<|QC<|QB<|QA (Qw I I O)<|wB 2 I ?_
  exact Qm (⟨i.i+1,c49,hlt⟩) (by show ts.length-(i.i+1)<ts.length-i.i;omega) wX (.cons _ (.cons _ QIM)) λF ⟨⟨⟨⟨⟨⟨⟨⟨⟨⟨⟨hR,hN⟩,hT,hB⟩,hs15⟩,hs17⟩,h18⟩,TM⟩,h20⟩,hS⟩,h29⟩,hY⟩,h49⟩=>⟨⟨⟨⟨⟨⟨⟨⟨hR,hN⟩,hT,hB⟩,hs15⟩,hs17⟩,h18⟩,TM⟩,h20⟩,by show Ji F c49 (XM _ ((J4 ts).take (i.i+1)));rw[Rm O,<-xP hlt,<-hge2];exact h49⟩
 have hge:i.i=ts.length:=wk<|QJH hc2
 refine Qz ?_
 repeat first|refine QZ ?_|refine QQ wy ?_
 refine Qa<|QC<|QI7<|QA (wK I Qj .here)<|QU (vs:=[_,_,_,_,_,_,_,_]) I I I Qj I .u1 .h8 wZ<|QHz<|QY ?_
 exact QS (i.x) rfl (.JX (c:=[_,_,_,_,_,_,_,_]) I Qj .u1 .nil) (rfl) λF h=>by have h1:=h.2;rw[aS (by rw[Ye];omega)]at h1;exact h1
structure jq where
 b:Nat
 rt:Sr
 ps:List WA
 st:Sr
 sl:List Ys
structure GX(F:Gs)(y:jq)(rs:List (List Tm))(vs:List (Rat×Rat)):Prop where
 Hy:F y.b=some (#[y.rt.v,y.st.v],151)
 row:Qx F y.rt.q y.rt.n 1 (y.ps.map λe=>e.1.v)
 pls:Nj F y.ps
 val:jd y.ps=rs
 len:y.ps.length=y.rt.n
 box:J7 F y.st y.sl vs
theorem GX.le{y:jq}{rs:List (List Tm)}{vs:List (Rat×Rat)}(h:GX F y rs vs)(k:Gs.le F F'):GX F' y rs vs:=⟨k _ _ h.Hy,h.row.le k,λe he=>(h.pls e he).le k,h.val,h.len,h.box.le k⟩
theorem GX.Kx{y:jq}{rs:List (List Tm)}{vs:List (Rat×Rat)}(h:GX F y rs vs):rs.length=y.rt.n:=by rw[<-h.val,<-h.len];simp[jd]
theorem GX.at{y:jq}{rs:List (List Tm)}{vs:List (Rat×Rat)}(h:GX F y rs vs){i:Nat}(hi:i<y.rt.n):XR F (el y.ps i).1 (el y.ps i).2 (J4 (el y.ps i).2)/\J4 (el y.ps i).2=el rs i:=by
 have h1:=h.len;refine⟨h.pls _ (Qv O),?_⟩;rw[<-h.val,JW (show i<y.ps.length by omega),JW (by simp[jd];omega)];simp[jd]
structure js where
 fr:Fr
 Sk:Fr
 bx:Sr
 bl:List Ys
def gk(x:js):List Value:=Kl x.fr++Kl x.Sk++[x.bx.v]
@[reducible] def js.v (x:js):Value:=.agg #[.int .i64 x.fr.n.s,.slice x.fr.n.q x.fr.n.n x.fr.n.cap,.int .i64 x.fr.d.s,.slice x.fr.d.q x.fr.d.n x.fr.d.cap,.int .i64 x.Sk.n.s,.slice x.Sk.n.q x.Sk.n.n x.Sk.n.cap,.int .i64 x.Sk.d.s,.slice x.Sk.d.q x.Sk.d.n x.Sk.d.cap,x.bx.v]
structure Mg(F:Gs)(x:js)(a b:Rat)(vs:List (Rat×Rat)):Prop where
 fr:JN F x.fr a
 Sk:JN F x.Sk b
 bx:J7 F x.bx x.bl vs
theorem Mg.le{x:js}{a b:Rat}{vs:List (Rat×Rat)}(h:Mg F x a b vs)(k:Gs.le F F'):Mg F' x a b vs:=⟨h.fr.le k,h.Sk.le k,h.bx.le k⟩
structure jv(rs:List (List Tm))(fr t2:Rat)(x on:List (Rat×Rat)):Prop where
 ev:∀i,i<rs.length->OX ((fr,t2)::on) (el rs i)
 sz:∀i,i<rs.length->XN (XM ((fr,t2)::on) (el rs i)) 10000000
 tm:JU fr<=1000000/\JU t2<=1000000
 bx:∀a∈x,XN a 10000000
theorem MI{y:jq}{x:js}{rs:List (List Tm)}{vs vx von:List (Rat×Rat)}{ro:Sr}{lo:List Ys}(hF:Fits F w)(hy:GX F y rs vs)(hx:Mg F x fr t2 vx)(ho:J7 F ro lo von)(hn:y.rt.n=x.bx.n)(hno:ro.n<=100000)(hnx:x.bx.n<=1000000)(hpn:∀e∈y.ps,e.1.n<=1000000)(hk:jv rs fr t2 vx von):
  WT prog 75 [.pointer (some ⟨y.b,0,none⟩),x.v,ro.v] w F (Z4 rs fr t2 vx von):=by
 have hrl:=hy.Kx;have hxl2:=hx.bx.YH;have hpl:=hy.len;have hbl2:=hx.bx.len;have zfr:=hk.tm.1;have zto:=hk.tm.2;have zs:=Hp t2 fr;dsimp only[Sr.v]at *
 refine QV.intro (G:=λF=>GX F y rs vs/\Mg F x fr t2 vx/\J7 F ro lo von) func75 rfl wy rfl rfl hF (λF' hF'=>⟨hy.le hF',hx.le hF',ho.le hF'⟩)<|QI7<|Qs rfl (vs:=[_,_,_,_,_,_,_,_,_]) rfl λb4=>wQ rfl<|QG<|Kr (r:=[0,1,2,3,4,5,6,7,8]) tE mixed wm rfl<|Jl 1 wm rfl rfl<|QK (QH rfl Bk QN)<|JB<|Jl 2 wm rfl rfl<|QK (wL I QN .here)<|JB<|Jl 3 wm rfl rfl<|QK (QH rfl Bl QN)<|JB<|Jl 4 wm rfl rfl<|QK (wJ I QN .here)<|JB<|Kq (A:=[7]) (r:=[0,5,6,8]) wm<|XJ 0 wm wm wy tE w9 rfl rfl rfl (λ_=>rfl) (λ_ _ f k=>TO (n:=0) f wu wu) λc11=>XJ 5 wm wm wy tE tA rfl rfl rfl (λ_=>rfl) (λ_ _ f k=>Ua (x:=x.Sk) (y:=x.fr) (r:=t2) (s:=fr) f k.1.2.1.Sk k.1.2.1.fr O O) λc16=>jO 6 wm wm wy tE (λ_ h=>h.1.1) rfl wy (λ_=>Q2 rfl Z2 Jh (.cons (vs:=[_,_,_,_]) rfl rfl rfl .h4 (.cons (vs:=[_,_,_,_]) rfl rfl rfl (.skip (.skip (.skip (.skip .h4)))) .nil))) ?_
 refine K9 7 (d:=7) (T:=120) wm wm wy tE (λ_ h=>h.1.1) wm wm Jh (λb7=>Zw (vs:=[_,_,_,_,_,_,_,_]) 8 wm wm wy (.cons _ tE) (λ_ h=>h.1.1) rfl rfl (λ_=>rfl) (λ_=>rfl) rfl Qj I .here tE .h8 wZ ?_);refine V4 ?_ wm;refine QJM 10 I<|QA (ZY I)<|QA (QH I Bi YJ)<|QA (Zr (c:=#[y.rt.v,y.st.v]) (T':=151) rfl YJ (λF h9=>h9.1.1.1.Hy) rfl)<|QA (Qh I YW)<|QJK 4 I<|JV (ι:=Wb (y.rt.n) λi=>Vv (el vx i) (Jg (0,t2-fr) (XM ((fr,t2)::von) (el rs i)))) [(2,_),(4,_),(7,_),(21,_),(22,_)] (λi=>[(8,i.v),(23,.int .i64 ((i.i:Nat):Int))]) (λi=>(b7,.cells (Xp ⟨c11,c16⟩).toArray 120 (0,0))::(b4,.cells (gk x).toArray 131 (0,0))::i.ob) (λi F=>Z9 F i.l) (λi=>(y.rt.n)-i.i) (Wb.start _ _) wW wT QIM (λ_ _=>Z9.nil _) λi=>?_
 simp only[aa,ab];have hi:=i.le;refine wA 6 I ?_;refine QR I (λhc=>?_) λhc=>?_
 ·have hlt:i.i<y.rt.n:=wk<|QJG hc
  have hltx:i.i<x.bx.n:=O;have hem:=Qv (show i.i<y.ps.length by omega);refine XS _ (λ_ _ f h=>(h.1.1.1.1.at hlt).2) (λheq=>QJL 7 I<|QA (Q3 (n:=y.rt.n) i.i (λF h9=>h9.1.1.1.1.row) rfl rfl YW YI O)<|QA (Q5 (n:=y.rt.n) ((i.i)*1) (λF h9=>h9.1.1.1.1.row) O rfl YI (XL (f:=λe:WA=>e.1.v) (l:=y.ps) O))<|QJK 4 I<|JH tF mixed wm<|QK (QD I)<|QK (QH I Bj JF)<|QK (Qf I JF .u1 (.skip (.skip (.skip (.skip (.skip (.skip (.skip (.skip .h1)))))))))<|QK (QD I)<|QK (Q3 (n:=x.bx.n) i.i (λF h9=>h9.1.1.1.2.1.bx.row) rfl rfl JL Qj O)<|QK (JK (n:=x.bx.n) (vs:=[.int .i64 (el x.bl i.i).1.lo.n.s,.slice (el x.bl i.i).1.lo.n.q (el x.bl i.i).1.lo.n.n (el x.bl i.i).1.lo.n.cap,.int .i64 (el x.bl i.i).1.lo.d.s,.slice (el x.bl i.i).1.lo.d.q (el x.bl i.i).1.lo.d.n (el x.bl i.i).1.lo.d.cap,.int .i64 (el x.bl i.i).1.hi.n.s,.slice (el x.bl i.i).1.hi.n.q (el x.bl i.i).1.hi.n.n (el x.bl i.i).1.hi.n.cap,.int .i64 (el x.bl i.i).1.hi.d.s,.slice (el x.bl i.i).1.hi.d.q (el x.bl i.i).1.hi.d.n (el x.bl i.i).1.hi.d.cap]) ((i.i)*8) (λF h9=>h9.1.1.1.2.1.bx.row) O rfl Qj I λj v hv=>JQ (f:=(λe=>Xp e.1)) (l:=x.bl) (λ_=>rfl) O hv)<|QK (wK I Qj .here)<|QK (QD I)<|QK (QH I Bl QN)<|QK (wJ I QN .u1) ?_);refine QK (QH I Bk QN)<|QK (wL I QN .u1)<|QK (Q2 I Z2 Jh (.cons (vs:=[_,_,_,_]) I I I .h4 (.cons (vs:=[_,_,_,_]) I I I (.skip (.skip (.skip (.skip .h4)))) .nil)))<|QK (QD I)<|QP I (λw F hF ⟨⟨⟨⟨hY,hX,hO⟩,h11⟩,h16⟩,hS⟩=>Dy (pa:=el y.ps i.i) (x:=⟨x.fr,x.Sk⟩) (t:=(fr,t2)) hF (hY.at hlt).1 ⟨hX.fr,hX.Sk⟩ hO hno (hpn _ hem) (by rw[heq];exact hk.ev _ O)) λc42=>?_
  rw[heq];refine QP I (λ_ _ f k=>Ui (x:=⟨c11,c16⟩) (y:=c42) (a:=(0,t2-fr)) (b:=(XM ((fr,t2)::von) (el rs i.i))) f ⟨k.1.1.1.2,k.1.1.2⟩ k.2 ⟨by show JU 0<=_;decide,by show JU (t2-fr)<=_;omega⟩ ((hk.sz _ O).mono wu)) (λc43=>QP I (λ_ _ f k=>MZ (x:=(el x.bl i.i).1) (y:=c43) (a:=el vx i.i) (b:=Jg (0,t2-fr) (XM ((fr,t2)::von) (el rs i.i))) f (k.1.1.1.1.1.2.1.bx.at hltx) k.2 ((hk.bx _ (Qv O)).mono wu) ((KV (m:=3000000) (n:=10000000) ⟨by show JU 0<=_;decide,by show JU (t2-fr)<=_;omega⟩ (hk.sz _ O)).mono wu)) λc44=>?_);refine Qp I (Q4 JL) Qj Jh I I (λb45=>?_) (λw h=>h.imp tF λF h=>h.1.1.1);refine Y4 (af (l₁:=[_,_])) ?_;refine KM (n:=i.i) (k:=1) (sz:=8) (news:=Xp c44) rfl rfl JL Qj Jh I WS i.hr (Src.row (off:=0) tB (λj q hq=>by rw[ay];rw[ag];exact hq) rfl) O O (KY _) QIM (λ_ h=>h.1.1.1.1) (λv46 ob46 hr46=>?_);refine Y4 (af (l₂:=[_,_]))<|QK (QF I)<|Q7<|Qk<|QC<|QB<|QA (Qw I I O)<|wB 2 I ?_
  exact Qm (i.next hlt c44 _ hr46 rfl) (by show y.rt.n-(i.i+1)<y.rt.n-i.i;omega) wY QIM λF ⟨⟨⟨⟨⟨⟨⟨⟨hY,hX,hO⟩,h11⟩,h16⟩,hS⟩,h42⟩,h43⟩,h44⟩,hs45⟩=>⟨⟨⟨⟨hY,hX,hO⟩,h11⟩,h16⟩,hS.snoc h44⟩
 have hge:i.i=y.rt.n:=wk<|QJH hc
 refine Qz ?_
 repeat first|refine QZ ?_|refine QQ wy ?_
 refine Qa<|QJM 3 I ?_
 have hxl:=i.len;obtain⟨⟨rq,rn,rc⟩,hv2,hrn,hrc,hfix⟩:=Q9.fix (w0:=w) (F0:=F) (bs1:=[_,_]) (G:=_) i.hr;dsimp only at hrn hrc hfix;subst hrn;refine YS hfix ?_;rw[hv2];dsimp only[Sr.v];refine QJK 5 I ?_;exact QS ((⟨rq,i.i,rc⟩,i.l)) I (wN I) (rfl) λF h9=>by have:=i.box hge (r:=⟨rq,i.i,rc⟩) h9.2 I hrc h9.1.2;unfold Z4;rw[hxl2,<-hn];exact this
structure QHE(f:Nat->Rat×Rat)(n:Nat) where
 v:Value
 ob:List (Nat×Obj)
 l:List Ys
 hr:Q9 120 8 v n (Xi l) ob
 hl:l.map (·.2)=(aE n).map f
def OG(a:Rat)(k:Nat):Rat×Rat:=if k=0 then(a,a)else(0,0)
theorem Ul(a:Rat)(n:Nat):(aE (n+1)).map (OG a)=Hx a n:=by
 unfold Hx;rw[List.range_succ_eq_map,aR,aY];congr 1;apply bP
 ·simp
 intro i h1 h2;simp[OG]
structure CsJ(n:Nat)(a:Rat) where
 s:Wb (n+1) (OG a)
 j:Nat
 hj:s.i=j+1
structure QAI(va vb:List (Rat×Rat)):Prop where
 el:∀k,k<va.length->XN (el va k) 20000000/\XN (el vb k) 20000000
 cv:∀k,k<va.length->∀i,i<=k+1->XN (Gc va vb k i) 50000000
theorem Mb(a b:List (Rat×Rat))(k j:Nat):Gc a b k (j+1)=Vv (Gc a b k j) (Jg (el a j) (el b (k-j))):=by
 unfold Gc;rw[aM,aO];rfl
theorem zf(a b:List (Rat×Rat)):(aE a.length).map (λk=>Vv (el a k) (el b k))=Hq a b:=rfl
structure QE4(bs:List (Nat×Obj))(b n c:Nat)(l:List Ys) where
 rest:List Value
 hm:(b,bR (Xi l++rest).toArray 120 (0,0))∈bs
 hl:l.length=n
theorem z7{l:List Ys}{j:Nat}{v:Value}(h:k<l.length)(hv:(Xp (el l k).1)[j]?=some v):(Xi l++rest)[0+k*8+j]?=some v:=by
 have h1:(Xi l)[k*8+j]?=some v:=JQ (f:=λe:Ys=>Xp e.1) (k:=8) (λ_=>rfl) h hv;have hlt:k*8+j<(Xi l).length:=by
  rcases bw (k*8+j) (Xi l).length with g | g
  ·exact g
  rw[bc g]at h1;cases h1
 rw[ay,bD hlt];exact h1
theorem Rv{x:Fr}{a:Rat}{n:Nat}(hA:∀F,G F->JN F x a)(hn:n<=1000):XI prog 136 [x.v,.int .i64 (n:Int)] ⟨w0,F0,bs,G⟩ (λ(c:QHE (OG a) (n+1))=>.agg #[c.v]) (λc=>⟨w0,F0,c.ob++bs,λF=>G F/\Z9 F c.l⟩):=by
 refine XI.intro func136 rfl wy rfl rfl<|QI7<|Qs rfl (vs:=[_,_,_,_]) rfl λb2=>Qc WB λb4=>QHz<|QI7<|QA (wJ I QN .u1)<|QI rfl (λ_ _ f k=>Kd (x:=x) (r:=a) f (hA _ k)) λc7=>VF rfl (Q4 JL) Qj Jh rfl rfl λb8=>QA (Q2 rfl zj WB (.cons (vs:=[_]) rfl rfl rfl .h1 .nil))<|Qc WB λb5=>QU (vs:=[_]) rfl rfl rfl XG rfl .here .h1 wS<|QJK 4 I<|vC (.cons _ (List.perm_middle (l₁:=[_,_])).symm)<|QB<|QH0 rfl<|QH0 rfl<|QE<|QC ?_
 refine QW<|JV (ι:=CsJ n a) [(4,_),(5,_),(10,_)] (λi=>[(11,.int .i64 ((i.j:Nat):Int))]) (λi=>(b5,.cells [i.s.v].toArray 125 (0,0))::(b4,.cells [.slice none 0 0].toArray 125 (0,0))::(b2,.cells (Kl x).toArray 118 (0,0))::(i.s.ob++bs)) (λi F=>Z9 F i.s.l) (λi=>n-i.j) (⟨⟨1,_,_,[(c7,(a,a))],O,.some (n:=1) (l:=Xi [(c7,(a,a))]) (rest:=[]) rfl rfl (aD _) wu,rfl⟩,0,rfl⟩) wU wS QIM (λ_ h=>by intro e he;rw[List.mem_singleton.1 he];exact h.2) λi=>?_
 simp only[aa,ab];have hi:=i.s.le;have hij:=i.hj;refine wA 6 I ?_;refine QR I (λhc=>?_) λhc=>?_
 ·have hlt:i.j<n:=wk<|QJG hc
  refine QJL 4 I<|Jp 7 tG mixed wm wm ?_
  simp only[aA,aG,aB,aJ];refine QK (QH I Xh JF)<|QK (Qf I JF .here .h1)<|QP I (λ_ _ f k=>TO (n:=0) f wu wu) λc15=>QP I (λ_ _ f k=>Kd (x:=c15) (r:=((0:Int):Rat)) f k.2) λc16=>?_
  refine Qp I (Q4 JL) Qj Jh I I (λb17=>?_) (λw h=>h.imp tG λF h=>h.1.1);refine Y4 (aN [_,_,_] i.s.ob bs) ?_;refine KM (n:=i.s.i) (k:=1) (sz:=8) (news:=Xp c16) rfl rfl JL Qj Jh I WS i.s.hr (Src.row (off:=0) tB (λj q hq=>by rw[ay];rw[ag];exact hq) rfl) O O (KY _) tG (λ_ h=>h.1.1.1) (λv18 ob18 hr18=>?_);refine Y4 (aN ob18 [_,_,_] bs)<|QK (QH I Xh JF)<|ZV<|QU (vs:=[v18]) I I hr18.one.2 JF I .here .h1 ⟨hr18.one.1,trivial⟩<|QE<|Qk<|QC<|QB<|QA (Qw I I O)<|wB 2 I ?_
  exact Qm (⟨i.s.next O c16 (OG a i.s.i) hr18 rfl,i.j+1,by show i.s.i+1=_;omega⟩) (by show n-(i.j+1)<n-i.j;omega) wV QIM λF h9=>⟨⟨h9.1.1.1.1.1,h9.1.1.1.1.2⟩,h9.1.1.1.2.snoc (by rw[show OG a i.s.i=(((0:Int):Rat),((0:Int):Rat)) by unfold OG;rw[if_neg O];rfl];exact h9.1.2)⟩
 have hge:i.j=n:=wk<|QJH hc
 refine Qz ?_
 repeat first|refine QZ ?_|refine QQ wy ?_
 refine Qa<|QC<|QI7<|QA (QJ (vs:=[_]) I XG .here .h1 rfl)<|QU (vs:=[i.s.v]) I I I XG I .u1 .h1 ⟨i.s.hr.one.1,trivial⟩<|QHz<|QY ?_
 exact Y1 (⟨i.s.v,i.s.ob,i.s.l,by have e:i.s.i=n+1:=O;have h:=i.s.hr;rw[e]at h;exact h,by rw[i.s.hl,show i.s.i=n+1 by omega]⟩) I (.JX (c:=[_]) I XG .u1 .nil) (rfl) λw h=>h.imp (.cons _ (.cons _ (.cons _ QIM))) λF h9=>⟨h9.1.1,h9.2⟩
theorem Ru{x:Fr}{a:Rat}{n:Nat}(hF:Fits F w)(hA:JN F x a)(hn:n<=1000):QV prog 136 [x.v,.int .i64 (n:Int)] w F (λ(c:Sr×List Ys)=>.agg #[c.1.v]) (λc F=>J7 F c.1 c.2 (Hx a n)):=by
 have h:=Rv (w0:=w) (F0:=F) (bs:=[]) (G:=λF'=>Gs.le F F') (x:=x) (a:=a) (λF' h=>hA.le h) hn;refine⟨h.1,(h.2 w (St.start hF λ_ h=>h)).mono ?_⟩;rintro e w' ⟨c,rfl,hw⟩;dsimp only at hw;rw[aK]at hw;obtain⟨s,hv,hsn,hsc,hfix⟩:=Q9.fix (w0:=w) (F0:=F) (bs1:=[]) c.hr;obtain⟨F',h'⟩:=hfix w' hw;exact⟨(s,c.l),F',by show Ending.returned (.agg #[c.v])=_;rw[hv],h'.ext,h'.le,h'.old,h'.fits,λF'' hle=>⟨by rw[hsn];exact(h'.g F'' hle).2,(h'.g F'' hle).1.2,by rw[c.hl,Ul],by rw[hsn,<-ae (f:=λe:Ys=>e.2),c.hl];simp,by rw[hsn];exact hsc⟩⟩
theorem QA4(hF:Fits F w)(ha:J7 F ra la va)(hb:J7 F rb lb vb)(hn:ra.n<=rb.n)(hbn:ra.n<=1000000)(hza:∀x∈va,XN x 100000000)(hzb:∀x∈vb,XN x 100000000):
  QV prog 138 [.agg #[ra.v],.agg #[rb.v]] w F (λ(c:Sr×List Ys)=>.agg #[c.1.v]) (λc F=>J7 F c.1 c.2 (Hq va vb)):=by
 have hva:=ha.YH;have hvb:=hb.YH;have hla:=ha.len;have hlb:=hb.len;dsimp only[Sr.v];refine QV.intro (G:=λF=>J7 F ra la va/\J7 F rb lb vb) func138 rfl wy rfl rfl hF (λF' hF'=>⟨ha.le hF',hb.le hF'⟩)<|QI7<|Qs rfl (vs:=[_]) rfl λb2=>Qs rfl (vs:=[_]) rfl λb3=>Qc WB λb4=>QHz<|QI7<|Qc WB λb5=>QJK 5 I<|QA (QH rfl Xh JF)<|QA (Qf rfl JF .u3 .h1)<|QA (Qh rfl JL)<|QH0 rfl<|QHz<|QW<|JV (ι:=Wb (ra.n) λk=>Vv (el va k) (el vb k)) [(2,_),(3,_),(4,_),(5,_),(9,_)] (λi=>[(10,.int .i64 ((i.i:Nat):Int))]) (λi=>(b5,.cells [i.v].toArray 125 (0,0))::(b4,.cells [.slice none 0 0].toArray 125 (0,0))::(b3,.cells [.slice rb.q rb.n rb.cap].toArray 125 (0,0))::(b2,.cells [.slice ra.q ra.n ra.cap].toArray 125 (0,0))::i.ob) (λi F=>Z9 F i.l) (λi=>(ra.n)-i.i) (Wb.start _ _) wW wS QIM (λ_ _=>Z9.nil _) λi=>?_
 simp only[aa,ab];have hi:=i.le;refine wA 6 I ?_;refine QR I (λhc=>?_) λhc=>?_
 ·have hlt:i.i<ra.n:=wk<|QJG hc
  refine QJL 10 I<|Jp 17 (.cons_cons _ (.cons_cons _ (.cons_cons _ (.cons_cons _ tD)))) mixed wm wm ?_
  simp only[aA,aG,aB,aJ];refine QK (QH I Xh JF)<|QK (Qf I JF .here .h1)<|QK (QH I Xh JF)<|QK (Qf I JF .u3 .h1)<|QK (QD I)<|QK (Q3 (n:=ra.n) i.i (λF h9=>h9.1.1.row) rfl rfl JL Qj O)<|QK (JK (n:=ra.n) (vs:=[.int .i64 (el la i.i).1.lo.n.s,.slice (el la i.i).1.lo.n.q (el la i.i).1.lo.n.n (el la i.i).1.lo.n.cap,.int .i64 (el la i.i).1.lo.d.s,.slice (el la i.i).1.lo.d.q (el la i.i).1.lo.d.n (el la i.i).1.lo.d.cap,.int .i64 (el la i.i).1.hi.n.s,.slice (el la i.i).1.hi.n.q (el la i.i).1.hi.n.n (el la i.i).1.hi.n.cap,.int .i64 (el la i.i).1.hi.d.s,.slice (el la i.i).1.hi.d.q (el la i.i).1.hi.d.n (el la i.i).1.hi.d.cap]) ((i.i)*8) (λF h9=>h9.1.1.row) O rfl Qj I λj v hv=>JQ (f:=(λe=>Xp e.1)) (l:=la) (λ_=>rfl) O hv)<|vF (v:=(el la i.i).1.v) rfl (λ_=>wm)<|QK (QH I Xh JF)<|QK (Qf I JF .u2 .h1)<|QK (QD I)<|QK (Q3 (n:=rb.n) i.i (λF h9=>h9.1.2.row) rfl rfl JL Qj O)<|QK (JK (n:=rb.n) (vs:=[.int .i64 (el lb i.i).1.lo.n.s,.slice (el lb i.i).1.lo.n.q (el lb i.i).1.lo.n.n (el lb i.i).1.lo.n.cap,.int .i64 (el lb i.i).1.lo.d.s,.slice (el lb i.i).1.lo.d.q (el lb i.i).1.lo.d.n (el lb i.i).1.lo.d.cap,.int .i64 (el lb i.i).1.hi.n.s,.slice (el lb i.i).1.hi.n.q (el lb i.i).1.hi.n.n (el lb i.i).1.hi.n.cap,.int .i64 (el lb i.i).1.hi.d.s,.slice (el lb i.i).1.hi.d.q (el lb i.i).1.hi.d.n (el lb i.i).1.hi.d.cap]) ((i.i)*8) (λF h9=>h9.1.2.row) O rfl Qj I λj v hv=>JQ (f:=(λe=>Xp e.1)) (l:=lb) (λ_=>rfl) O hv)<|vG (v:=(el la i.i).1.v) (vs:=[(el lb i.i).1.v]) I I (λ_=>wm) (λ_ _ f k=>MZ (x:=(el la i.i).1) (y:=(el lb i.i).1) (a:=el va i.i) (b:=el vb i.i) f (k.1.1.at hlt) (k.1.2.at (show i.i<rb.n by omega)) (hza _ (Qv O)) (hzb _ (Qv O))) λc26=>?_
  refine Qp I (Q4 JL) Qj Jh I I (λb27=>?_) (λw h=>h.imp (.cons_cons _ (.cons_cons _ (.cons_cons _ (.cons_cons _ tD)))) tA);refine Y4 (af (l₁:=[_,_,_,_])) ?_;refine KM (n:=i.i) (k:=1) (sz:=8) (news:=Xp c26) rfl rfl JL Qj Jh I WS i.hr (Src.row (off:=0) tB (λj q hq=>by rw[ay];rw[ag];exact hq) rfl) O O (KY _) QIM (λ_ h=>h.1.1) (λv28 ob28 hr28=>?_);refine Y4 (af (l₂:=[_,_,_,_]))<|QK (QH I Xh JF)<|ZV<|QU (vs:=[v28]) I I hr28.one.2 JF I .here .h1 ⟨hr28.one.1,trivial⟩<|QE<|Qk<|QC<|QB<|QA (Qw I I O)<|wB 2 I ?_
  exact Qm (i.next hlt c26 _ hr28 rfl) (by show ra.n-(i.i+1)<ra.n-i.i;omega) wX QIM λF h9=>⟨⟨h9.1.1.1.1,h9.1.1.1.2⟩,h9.1.1.2.snoc h9.1.2⟩
 have hge:i.i=ra.n:=wk<|QJH hc
 refine Qz ?_
 repeat first|refine QZ ?_|refine QQ wy ?_
 refine Qa<|QJM 3 I ?_
 have hxl:=i.len;obtain⟨⟨rq,rn,rc⟩,hv2,hrn,hrc,hfix⟩:=Q9.fix (w0:=w) (F0:=F) (bs1:=[_,_,_,_]) (G:=_) i.hr;dsimp only at hrn hrc hfix;subst hrn;refine YS hfix ?_;rw[hv2];dsimp only[Sr.v];refine QA (QJ (vs:=[_]) I XG .here .h1 rfl)<|QU (vs:=[_]) I I I XG I .u1 .h1 wS<|QHz<|QY ?_
 exact QS ((⟨rq,i.i,rc⟩,i.l)) I (.JX (c:=[_]) I XG .u1 .nil) (rfl) λF h9=>by have:=i.box hge (r:=⟨rq,i.i,rc⟩) h9.2 I hrc h9.1.2;rw[<-zf,hva];exact this
theorem gR{nb cb:Nat}(ha:∀F,G F->J7 F ra la va)(hin:QE4 bs bb nb cb lb)(hvb:lb.map (·.2)=vb)(hsb:∀F,G F->Z9 F lb)(hla:la.length=ra.n)(hva:va.length=ra.n)(hn:ra.n<=nb)(hbn:ra.n<=1000000)(ho:QAI va vb):
  XI prog 197 [.agg #[ra.v],.agg #[.slice (some ⟨bb,0,none⟩) nb cb]] ⟨w0,F0,bs,G⟩ (λ(c:Sr×List Ys)=>.agg #[c.1.v]) (λc=>⟨w0,F0,bs,λF=>G F/\J7 F c.1 c.2 (WD va vb)⟩):=by
 obtain⟨rest,hm,hll⟩:=hin;obtain⟨fo,hfo⟩:=CA hm;have hbel:∀k,k<nb->(el lb k).2=el vb k:=λk hk=>by rw[<-hvb,JW (show k<lb.length by omega),JW (by rw[ae];omega),aL]
 dsimp only[Sr.v];refine XI.intro func197 rfl wy rfl rfl<|QI7<|Qs rfl (vs:=[_]) rfl λb2=>Qs rfl (vs:=[_]) rfl λb3=>Qc WB λb4=>QHz<|QI7<|Qc WB λb5=>QJK 5 I<|QA (QH rfl Xh JF)<|QA (Qf rfl JF .u3 .h1)<|QA (Qh rfl JL)<|QH0 rfl<|QHz<|QW<|JV (ι:=Wb (ra.n) λk=>Gc va vb k (k+1)) [(2,_),(3,_),(4,_),(5,_),(11,_)] (λi=>[(12,.int .i64 ((i.i:Nat):Int))]) (λi=>(b5,.cells [i.v].toArray 125 (0,0))::(b4,.cells [.slice none 0 0].toArray 125 (0,0))::(b3,.cells [.slice (some ⟨bb,0,none⟩) nb cb].toArray 125 (0,0))::(b2,.cells [.slice ra.q ra.n ra.cap].toArray 125 (0,0))::(i.ob++bs)) (λi F=>Z9 F i.l) (λi=>(ra.n)-i.i) (Wb.start _ _) wW wS QIM (λ_ _=>Z9.nil _) λi=>?_
 simp only[aa,ab];have hi:=i.le;refine wA 6 I ?_;refine QR I (λhc=>?_) λhc=>?_
 ·have hlt:i.i<ra.n:=wk<|QJG hc
  refine QJL 12 I<|QI I (λ_ _ f k=>TO (n:=0) f wu wu) λc15=>QI I (λ_ _ f k=>Kd (x:=c15) (r:=((0:Int):Rat)) f k.2) λc16=>Qc Jh λb7=>QU (vs:=[_,_,_,_,_,_,_,_]) I I I Qj I .here .h8 wZ<|QJK 6 I<|QA (Qw I I O)<|wB 2 I ?_
  refine QC<|QW<|JV (ι:=VaI (i.i+1)) [(2,_),(3,_),(4,_),(5,_),(6,_),(7,_),(11,_),(12,_),(18,_)] (λi2=>[(19,.int .i64 ((i2.i:Nat):Int))]) (λi2=>(b7,.cells (Xp i2.x).toArray 120 (0,0))::(b5,.cells [i.v].toArray 125 (0,0))::(b4,.cells [.slice none 0 0].toArray 125 (0,0))::(b3,.cells [.slice (some ⟨bb,0,none⟩) nb cb].toArray 125 (0,0))::(b2,.cells [.slice ra.q ra.n ra.cap].toArray 125 (0,0))::(i.ob++bs)) (λi2 F=>Ji F i2.x (Gc va vb i.i i2.i)) (λi2=>i.i+1-i2.i) (⟨0,c16,ao _⟩) we wS QIM tB λi2=>?_
  simp only[aa,ab];have hj:=i2.le;refine wA 6 I ?_;refine QR I (λhc=>?_) λhc=>?_
  ·have hlt2:i2.i<i.i+1:=wk<|QJG hc
   refine QJL 10 I<|Jp 15 QIM mixed wm wm ?_
   simp only[aA,aG,aB,aJ];refine QK (wK I Qj .here)<|QK (QH I Xh JF)<|QK (Qf I JF .u4 .h1)<|QK (QD I)<|QK (Q3 (n:=ra.n) (i2.i) (λF h9=>(ha _ h9.1.1.1.1).row) rfl rfl JL Qj O)<|QK (JK (n:=ra.n) (vs:=[.int .i64 (el la (i2.i)).1.lo.n.s,.slice (el la (i2.i)).1.lo.n.q (el la (i2.i)).1.lo.n.n (el la (i2.i)).1.lo.n.cap,.int .i64 (el la (i2.i)).1.lo.d.s,.slice (el la (i2.i)).1.lo.d.q (el la (i2.i)).1.lo.d.n (el la (i2.i)).1.lo.d.cap,.int .i64 (el la (i2.i)).1.hi.n.s,.slice (el la (i2.i)).1.hi.n.q (el la (i2.i)).1.hi.n.n (el la (i2.i)).1.hi.n.cap,.int .i64 (el la (i2.i)).1.hi.d.s,.slice (el la (i2.i)).1.hi.d.q (el la (i2.i)).1.hi.d.n (el la (i2.i)).1.hi.d.cap]) ((i2.i)*8) (λF h9=>(ha _ h9.1.1.1.1).row) O rfl Qj I λj v hv=>JQ (f:=(λe=>Xp e.1)) (l:=la) (λ_=>rfl) O hv)<|QK (QH I Xh JF)<|QK (Qf I JF .u3 .h1)<|QK (QD I)<|QK (QD I)<|QK (X3 I I O)<|QK (JJ (i:=i.i-i2.i) rfl wM JL Qj O)<|QK (Am (vs:=Xp (el lb (i.i-i2.i)).1) rfl Qj (.there (.there (.there (.there (.there (hfo.skip i.ob)))))) I λj v hv=>z7 O hv)<|QP I (λ_ _ f k=>Ui (x:=(el la i2.i).1) (y:=(el lb (i.i-i2.i)).1) (a:=el va i2.i) (b:=el vb (i.i-i2.i)) f ((ha _ k.1.1.1.1).at (show i2.i<ra.n by omega)) (by rw[<-hbel _ (show i.i-i2.i<nb by omega)];exact hsb _ k.1.1.1.1 _ (Qv O)) (ho.el i2.i O).1 (ho.el (i.i-i2.i) O).2) λc35=>QP I (λ_ _ f k=>MZ (x:=i2.x) (y:=c35) (a:=Gc va vb i.i i2.i) (b:=Jg (el va i2.i) (el vb (i.i-i2.i))) f k.1.2 k.2 ((ho.cv _ O _ O).mono wu) ((KV (ho.el i2.i O).1 (ho.el (i.i-i2.i) O).2).mono wu)) λc36=>ZV<|QU (vs:=[_,_,_,_,_,_,_,_]) I I I Qj I .here .h8 wZ<|QE<|Qk<|QC<|QB<|QA (Qw I I O)<|wB 2 I ?_
   exact Qm (⟨i2.i+1,c36,hlt2⟩) (by show i.i+1-(i2.i+1)<i.i+1-i2.i;omega) wg QIM λF ⟨⟨⟨⟨⟨⟨hG,hS⟩,h15⟩,h16⟩,hY⟩,h35⟩,h36⟩=>⟨⟨⟨⟨hG,hS⟩,h15⟩,h16⟩,by show Ji F c36 (Gc va vb i.i (i2.i+1));rw[Mb];exact h36⟩
  have hge2:i2.i=i.i+1:=wk<|QJH hc
  refine Qz ?_
  repeat first|refine QZ ?_|refine QQ wy ?_
  refine Qa<|QC<|QB<|QA (QH I Xh JF)<|QA (Qf I JF .u1 .h1)<|QA (wK I Qj .here)<|Qb I (Q4 JL) Qj Jh I I λb41=>Ze (aN [_,_,_,_,_] i.ob bs) ?_
  refine Mj (bs:=[_,_,_,_,_]++bs) (n:=i.i) (k:=1) (sz:=8) (news:=Xp i2.x) rfl rfl JL Qj Jh I WS i.hr (Src.row (off:=0) tB (λj q hq=>by rw[ay];rw[ag];exact hq) rfl) O O (KY _) (λv42 ob42 hr42=>?_);refine Ze (aN ob42 [_,_,_,_,_] bs)<|QA (QH I Xh JF)<|QU (vs:=[v42]) I I hr42.one.2 JF I .u1 .h1 ⟨hr42.one.1,trivial⟩<|QE<|Qk<|QC<|QB<|QA (Qw I I O)<|wB 2 I ?_
  exact Qm (i.next hlt i2.x _ hr42 rfl) (by show ra.n-(i.i+1)<ra.n-i.i;omega) wX (.cons _ QIM) λF h9=>⟨h9.1.1.1.1.1,h9.1.1.1.1.2.snoc (by have e:=h9.1.2;rw[hge2]at e;exact e)⟩
 have hge:i.i=ra.n:=wk<|QJH hc
 refine Qz ?_
 repeat first|refine QZ ?_|refine QQ wy ?_
 refine Qa<|QC<|QI7<|Ze (.cons _ (.cons _ (.cons _ (.cons _ af)))) ?_
 have hxl:=i.len;obtain⟨⟨rq,rn,rc⟩,hv2,hrn,hrc,hfix⟩:=Q9.fix (w0:=w0) (F0:=F0) (bs1:=_::_::_::_::bs) (G:=_) i.hr;dsimp only at hrn hrc hfix;subst hrn;refine YS hfix ?_;rw[hv2];dsimp only[Sr.v];refine QA (QJ (vs:=[_]) I XG .here .h1 rfl)<|QU (vs:=[_]) I I I XG I .u1 .h1 wS<|QHz<|QY ?_
 exact Y1 ((⟨rq,i.i,rc⟩,i.l)) I (.JX (c:=[_]) I XG .u1 .nil) (rfl) λw h=>h.imp (.cons _ (.cons _ (.cons _ (.cons _ QIM)))) λF h9=>⟨h9.1.1,by have:=i.box hge (r:=⟨rq,i.i,rc⟩) h9.2 I hrc h9.1.2;unfold WD;rw[hva];exact this⟩
section
variable[Dr][df:Df]{P:Program}{Q:Exit->Act->World->Prop}{N:Nat}{m:Sl}{E:Env}{ops:Array Oper}{l:List Oper}{d:Nat}{ty:TypeId}{pos:String}{aft:Array Edge}
theorem QAL{o:Op}{v:Value}(h:Qt P N m (St E) o ty v)(k:JSI P ops Q l N ((d,v)::m) E)(hnd:(match o with | .defer _=>false | _=>true)=true:=by rfl)(hd:J5 N (some d)=true:=by rfl):JSI P ops Q (⟨some d,o,ty,pos,aft,none⟩::l) N m E:=by
 intro a w ha hw;refine wpListIn_plain rfl λK hK=>?_;refine⟨λf _=>trivial,?_⟩;rw[Oper.semAt_plain bm a.eval _ (λc e=>by have e':o = .defer c:=e;subst e';cases hnd),h a w (some d) pos aft none ha hw];exact hK _ _ (k _ w (ha.put hd v) hw)
theorem jP{id:Nat}(h:JSI P l.toArray Q l N m E):J P (.region id l.toArray false) Q N m E:=λa w ha hw=>wpIn_wide.1 (wpIn_region_lit (h a w ha hw))
end
structure VL where
 b:Nat
 c:Nat
 l:List Ys
instance :Inhabited VL:=⟨⟨0,0,[]⟩⟩
def VL.q(e:VL):List (Rat×Rat):=e.l.map (·.2)
structure VL.In(bs:List (Nat×Obj))(n:Nat)(e:VL):Prop where
 hm:∃rest,(e.b,bR (Xi e.l++rest).toArray 120 (0,0))∈bs
 hl:e.l.length=n
 hc:n<=e.c
def QEy(l:List Tm)(all:List (List (Rat×Rat)))(n:Nat):Prop:=∀t∈l,(t.2.length=all.length/\∀k∈t.2,0<=k/\k<=1000)/\∀v,v<t.2.length->∀i,i<(Qn t.2 v).toNat->QAI (DE (Wl t.1 t.2 all n v) (el all v) i) (el all v)
theorem Pf(c:Rat)(ks:List Int)(all:List (List (Rat×Rat)))(n i:Nat):Wl c ks all n (i+1)=DE (Wl c ks all n i) (el all i) (Qn ks i).toNat:=by
 unfold Wl;rw[aM,aO];rfl
theorem Pd(y b:List (Rat×Rat))(n:Nat):DE y b (n+1)=WD (DE y b n) b:=by
 unfold DE;rw[aM,aO];rfl
structure TsI{ι:Type}(pos:ι->Nat)(n:Nat) where
 i:Nat
 s:ι
 le:i<=n
 hp:pos s=i
structure TsJ(n:Nat) where
 i:Nat
 y:Sr×List Ys
 le:i<=n
theorem xR{B:ι->List (Nat×Obj)}{H:ι->Gs->Prop}{pos:ι->Nat}{p:WA}{b1 b2 b3 b4 L n bv cv:Nat}{e0:VL}{ls:List VL} 
  (hH:∀s F,H s F->(F b1=some (#[p.1.v],172)/\F b2=some (#[.int .i64 (n:Int)],3)/\F b3=some (#[.slice (some ⟨e0.b,0,none⟩) (n+1) e0.c],125)/\F b4=some (#[.slice (some ⟨bv,0,none⟩) ls.length cv],110))/\XR F p.1 p.2 (J4 p.2)/\∀e∈e0::ls,Z9 F e.l) (hPn:p.2.length=p.1.n) (hpl:p.2.length<=1000000) (hn:n<=1000) (hls:ls.length<=1000)
  (hB:∀s,∀e∈e0::ls,e.In (B s) (n+1)) (hV:∀s,(bv,bR (ls.map λe=>.slice (some ⟨e.b,0,none⟩) (n+1) e.c).toArray 125 (0,0))∈B s) (ho:QEy (J4 p.2) ((e0::ls).map VL.q) n)
  (hround:∀(G:Gs->Prop) (C:List (Nat×Obj)) (s:ι) (i:Nat) (y:Sr×List Ys) (W:World),i<p.2.length->pos s=i ->
   St ⟨w0,F0,B s++C,λF=>(G F/\H s F)/\J7 F y.1 y.2 (Wl (el p.2 i).t.1 (el p.2 i).t.2 ((e0::ls).map VL.q) n ((e0::ls).map VL.q).length)⟩ W->YieldAt bm 0 prog L #[.agg #[y.1.v]] W λe W'=>e = .returned (.bool true)/\∃s',pos s'=pos s+1/\St ⟨w0,F0,B s'++C,λF=>G F/\H s' F⟩ W')
  (s0:ι) (h0:pos s0=0) :
  XI prog 196 [.func (.yield L) #[] #[],.pointer (some ⟨b1,0,none⟩),.pointer (some ⟨b2,0,none⟩),.pointer (some ⟨b3,0,none⟩),.pointer (some ⟨b4,0,none⟩)] ⟨w0,F0,B s0,H s0⟩ (λ(_:{ s:ι // pos s=p.2.length })=>.tuple #[]) (λs=>⟨w0,F0,B s.1,H s.1⟩):=by
 have hal:((e0::ls).map VL.q).length=ls.length+1:=wz;refine XI.intro func196 rfl wy rfl rfl<|QI7<|QA (Zr (c:=#[p.1.v]) (T':=172) rfl YI (λF hs0=>(hH _ _ hs0).1.1) rfl)<|QA (Qh rfl Yp)<|QH0 rfl<|QHz<|QW<|JV (ι:=TsI pos p.2.length) [(0,_),(2,_),(3,_),(4,_),(12,_),(13,_)] (λi=>[(14,.int .i64 ((i.i:Nat):Int))]) (λi=>B i.s) (λi F=>H i.s F) (λi=>p.2.length-i.i) (⟨0,s0,ao _,h0⟩) wX wS QIM w9 λi=>?_
 simp only[aa,ab];have hi:=i.le;refine wA 6 I ?_;refine QR I (λhc=>?_) λhc=>?_
 ·have hlt:i.i<p.2.length:=wk<|QJG hc
  have htm:=Qv hlt;have htA:(el p.2 i.i).t∈J4 p.2:=aj htm;have ho:=ho _ htA;have hol:=ho.1.1;refine XS _ (λ_ _ f h=>((hH _ _ h.1).2.1.2.1 _ htm).2.2.1) (λhrl=>QJL 6 I<|QA (Q3 (n:=p.1.n) i.i (λF h9=>(hH _ _ h9.1).2.1.1) rfl rfl Yp Xu O)<|QA (JK (n:=p.1.n) (vs:=[.int .i64 (el p.2 i.i).x.n.s,.slice (el p.2 i.i).x.n.q (el p.2 i.i).x.n.n (el p.2 i.i).x.n.cap,.int .i64 (el p.2 i.i).x.d.s,.slice (el p.2 i.i).x.d.q (el p.2 i.i).x.d.n (el p.2 i.i).x.d.cap,.slice (el p.2 i.i).r.q (el p.2 i.i).r.n (el p.2 i.i).r.cap]) ((i.i)*5) (λF h9=>(hH _ _ h9.1).2.1.1) O rfl Xu I λj v hv=>JQ (f:=V8) (l:=p.2) Bf O hv)<|Qc GD λb7=>QU (vs:=[_,_,_,_,_]) I I I Xu I .here .h5 wW<|QHz<|QI7<|QA (QH I Wn QN)<|QA (wJ I QN .here)<|QA (Zr (c:=#[.int .i64 (n:Int)]) (T':=3) rfl JO (λF h9=>(hH _ _ h9.1).1.2.1) rfl)<|QI I (λ_ _ f k=>Ru (x:=(el p.2 i.i).x) (a:=(el p.2 i.i).t.1) (n:=n) f ((hH _ _ k.1).2.1.2.1 _ htm).1 hn) λc21=>Qc WB λb8=>QU (vs:=[_]) I I I XG I .here .h1 wS<|QJK 4 I ?_);refine QB<|QA (QH I Vp Jz)<|QA (Qf I Jz .u1 (.skip (.skip (.skip (.skip .h1)))))<|QA (Qh I JC)<|QJK 4 I<|JV (ι:=TsJ (el p.2 i.i).t.2.length) [(0,_),(2,_),(3,_),(4,_),(8,_),(12,_),(13,_),(14,_),(23,_),(24,_)] (λi2=>[(25,.int .i64 ((i2.i:Nat):Int))]) (λi2=>(b8,.cells [.slice i2.y.1.q i2.y.1.n i2.y.1.cap].toArray 125 (0,0))::(b7,.cells (V8 (el p.2 i.i)).toArray 227 (0,0))::B i.s) (λi2 F=>J7 F i2.y.1 i2.y.2 (Wl (el p.2 i.i).t.1 (el p.2 i.i).t.2 ((e0::ls).map VL.q) n i2.i)) (λi2=>(el p.2 i.i).t.2.length-i2.i) (⟨0,c21,ao _⟩) wg wS QIM tB λi2=>?_
  simp only[aa,ab];have hj:=i2.le;refine wA 6 I ?_;refine QR I (λhc=>?_) λhc=>?_
  ·have hlt2:i2.i<(el p.2 i.i).t.2.length:=wk<|QJG hc
   have hk12:0<=Qn (el p.2 i.i).t.2 i2.i/\Qn (el p.2 i.i).t.2 i2.i<=1000:=by rw[Yr hlt2];exact ho.1.2 _ (Qv hlt2)
   refine QJL 7 I<|QA (Q3 (n:=(el p.2 i.i).r.n) (i2.i) (λF h9=>(((hH _ _ h9.1.1.1).2.1.2.1 _ htm).2).1) rfl rfl JC JO O)<|QA (Q5 (n:=(el p.2 i.i).r.n) ((i2.i)*1) (λF h9=>(((hH _ _ h9.1.1.1).2.1.2.1 _ htm).2).1) O rfl JO (J6 (o:=(el p.2 i.i).t.2) O))<|QJK 6 I<|QA (Al (c:=#[.slice (some ⟨e0.b,0,none⟩) (n+1) e0.c]) (T':=125) (vs:=[_]) I XG (λF h9=>(hH _ _ h9.1.1.1).1.2.2.1) rfl λj v hv=>by rw[ay];simpa using hv)<|Qc WB λb11=>QU (vs:=[_]) I I I XG I .here .h1 ⟨rfl,trivial⟩<|QE<|QC ?_
   refine Iy (ι:=VL) [(0,_),(2,_),(3,_),(4,_),(8,_),(10,_),(11,_),(12,_),(13,_),(14,_),(23,_),(24,_),(25,_)] (λxv=>[]) (λxv=>(b11,.cells [.slice (some ⟨xv.b,0,none⟩) (n+1) xv.c].toArray 125 (0,0))::(b8,.cells [.slice i2.y.1.q i2.y.1.n i2.y.1.cap].toArray 125 (0,0))::(b7,.cells (V8 (el p.2 i.i)).toArray 227 (0,0))::B i.s) (λxv F=>xv=el (e0::ls) i2.i) ⟨rfl,rfl,rfl,rfl,rfl,rfl,rfl,rfl,rfl,rfl,rfl,rfl,rfl,trivial⟩ ?_ ?_
   ·refine wA 6 I ?_;refine QR I (λhc=>?_) λhc=>?_
    ·have hv0:0<i2.i:=wk<|QJG hc
     refine JH (.cons _ (.cons_cons _ (.cons_cons _ QIM))) mixed wm<|QK (Zr (c:=#[.slice (some ⟨bv,0,none⟩) ls.length cv]) (T':=110) rfl QAP (λF h9=>(hH _ _ h9.1.1.1).1.2.2.2) rfl)<|QK (QD I)<|QK (X3 I I O)<|QK (JJ (i:=i2.i-1) rfl wM W1 XG O)<|QK (QH I Xh JF) ?_
     obtain⟨fv,hfv⟩:=CA (hV i.s);refine QK (Vl (v:=.slice (some ⟨(el ls (i2.i-1)).b,0,none⟩) (n+1) (el ls (i2.i-1)).c) rfl JF (.there (.there hfv)) (by rw[show 0+(i2.i-1)*1+0=(i2.i-1)*1 by omega];exact XL (f:=λe:VL=>Value.slice (some ⟨e.b,0,none⟩) (n+1) e.c) (show i2.i-1<ls.length by omega)))<|QK (Zr (c:=#[.int .i64 (n:Int)]) (T':=3) rfl JO (λF h9=>(hH _ _ h9.1.1.1).1.2.1) rfl)<|QK (Qw I I O)<|QK (NV (n+1) rfl rfl wM JL Qj (hB i.s _ (aW _ (Qv (show i2.i-1<ls.length by omega)))).hc)<|QK (Q2 I zj WB (.cons (vs:=[_]) I I I .h1 .nil))<|JR (vs:=[_]) I I I XG I .here (.cons_cons _ (.cons_cons _ QIM)) w9 .h1 wS<|Q7 ?_
     exact Zd (el ls (i2.i-1)) ⟨rfl,rfl,rfl,rfl,rfl,rfl,rfl,rfl,rfl,rfl,rfl,rfl,rfl,trivial⟩ QIM λF h9=>⟨⟨⟨⟨h9.1.1.1,h9.1.1.2⟩,h9.1.2⟩,h9.2⟩,(by rw[show i2.i=(i2.i-1)+1 by omega];rfl)⟩
    have hv0:¬0<i2.i:=wk<|QJH hc
    refine QO ?_;exact Zd (e0) ⟨rfl,rfl,rfl,rfl,rfl,rfl,rfl,rfl,rfl,rfl,rfl,rfl,rfl,trivial⟩ QIM λF h9=>⟨⟨⟨⟨h9.1.1.1,h9.1.1.2⟩,h9.1.2⟩,h9.2⟩,(by rw[show i2.i=0 by omega];rfl)⟩
   intro xv;simp only[aa,ab];refine XS _ (λ_ _ f h=>h.2) (λhxe=>?_);have hxm:xv∈e0::ls:=by rw[hxe];exact Qv w6
   have hxi:=hB i.s _ hxm;have hxq:xv.l.map (·.2)=el ((e0::ls).map VL.q) i2.i:=by rw[hxe,JW (show i2.i<(e0::ls).length by simp;omega),JW (show i2.i<((e0::ls).map VL.q).length by omega),aL];rfl
   refine wA 7 I<|JV (ι:=TsJ (Qn (el p.2 i.i).t.2 i2.i).toNat) [(0,_),(2,_),(3,_),(4,_),(8,_),(11,_),(12,_),(13,_),(14,_),(23,_),(24,_),(25,_),(43,_)] (λi3=>[(44,.int .i64 ((i3.i:Nat):Int))]) (λi3=>(b11,.cells [.slice (some ⟨xv.b,0,none⟩) (n+1) xv.c].toArray 125 (0,0))::(b8,.cells [.slice i3.y.1.q i3.y.1.n i3.y.1.cap].toArray 125 (0,0))::(b7,.cells (V8 (el p.2 i.i)).toArray 227 (0,0))::B i.s) (λi3 F=>J7 F i3.y.1 i3.y.2 (DE (Wl (el p.2 i.i).t.1 (el p.2 i.i).t.2 ((e0::ls).map VL.q) n i2.i) (el ((e0::ls).map VL.q) i2.i) i3.i)) (λi3=>(Qn (el p.2 i.i).t.2 i2.i).toNat-i3.i) (⟨0,i2.y,ao _⟩) ⟨rfl,rfl,rfl,rfl,rfl,rfl,rfl,rfl,rfl,rfl,rfl,rfl,rfl,trivial⟩ wS QIM (λ_ h=>h.1.2) λi3=>?_
   simp only[aa,ab];have hk3:=i3.le;refine XS _ (λ_ _ f h=>ar h.2.len h.2.YH) (λh3p=>?_);obtain⟨hyl,hyv⟩:=h3p;have hyn:i3.y.1.n=n+1:=by rw[<-hyv,WI,Zg]
   refine wA 6 I ?_;refine QR I (λhc=>?_) λhc=>?_
   ·have hlt3:i3.i<(Qn (el p.2 i.i).t.2 i2.i).toNat:=wk<|QJG hc
    refine QJL 5 I<|QA (QJ (vs:=[_]) I XG .u1 .h1 rfl)<|QA (QJ (vs:=[_]) I XG .here .h1 rfl)<|XW I (bz _) (gR (ra:=i3.y.1) (la:=i3.y.2) (va:=DE (Wl (el p.2 i.i).t.1 (el p.2 i.i).t.2 ((e0::ls).map VL.q) n i2.i) (el ((e0::ls).map VL.q) i2.i) i3.i) (vb:=el ((e0::ls).map VL.q) i2.i) (bb:=xv.b) (nb:=n+1) (cb:=xv.c) (lb:=xv.l) tB ⟨hxi.hm.choose,aW _ (aW _ (aW _ hxi.hm.choose_spec)),hxi.hl⟩ hxq (λF h9=>(hH _ _ h9.1.1.1.1.1).2.2 _ hxm) hyl hyv O O (ho.2 _ hlt2 _ hlt3)) λc48=>QU (vs:=[_]) I I I XG I .u1 .h1 wS<|QE<|Qk<|QC<|QB<|QA (Qw I I O)<|wB 2 I ?_
    exact Qm (⟨i3.i+1,c48,hlt3⟩) (by show(Qn (el p.2 i.i).t.2 i2.i).toNat-(i3.i+1)<(Qn (el p.2 i.i).t.2 i2.i).toNat-i3.i;omega) ⟨rfl,rfl,rfl,rfl,rfl,rfl,rfl,rfl,rfl,rfl,rfl,rfl,rfl,rfl,trivial⟩ QIM λF ⟨⟨⟨⟨⟨⟨hs0,hs1⟩,h21⟩,hY⟩,hxe_⟩,hZ⟩,h48⟩=>⟨⟨⟨⟨⟨hs0,hs1⟩,h21⟩,hY⟩,hxe_⟩,by show J7 F c48.1 c48.2 (DE _ _ (i3.i+1));rw[Pd];exact h48⟩
   have hge3:i3.i=(Qn (el p.2 i.i).t.2 i2.i).toNat:=wk<|QJH hc
   refine Qz ?_
   repeat first|refine QZ ?_|refine QQ wy ?_
   refine Qa<|Qk<|QC<|QB<|QA (Qw I I O)<|wB 2 I ?_
   exact Qm (⟨i2.i+1,i3.y,hlt2⟩) (by show(el p.2 i.i).t.2.length-(i2.i+1)<(el p.2 i.i).t.2.length-i2.i;omega) wi (.cons _ QIM) λF h9=>⟨⟨⟨h9.1.1.1.1.1,h9.1.1.1.1.2⟩,h9.1.1.1.2⟩,by show J7 F i3.y.1 i3.y.2 (Wl _ _ _ _ (i2.i+1));have e:=h9.2;rw[hge3]at e;rw[Pf];exact e⟩
  have hge2:i2.i=(el p.2 i.i).t.2.length:=wk<|QJH hc
  refine Qz ?_
  repeat first|refine QZ ?_|refine QQ wy ?_
  refine Qa<|QC<|QG<|jP<|QAL (QD I)<|QAL (QJ (vs:=[_]) I XG .here .h1 rfl) ?_
  refine jS (E':=λs':{ s:ι // pos s=pos i.s+1 }=>⟨w0,F0,(b8,.cells [.slice i2.y.1.q i2.y.1.n i2.y.1.cap].toArray 125 (0,0))::(b7,.cells (V8 (el p.2 i.i)).toArray 227 (0,0))::B s'.1,λF=>H s0 F/\H s'.1 F⟩) I I (λW hW=>?_) λs53=>?_
  ·obtain⟨fn,tmps,assign,body,e1,e2⟩:=hround (λF=>H s0 F) [(b8,.cells [.slice i2.y.1.q i2.y.1.n i2.y.1.cap].toArray 125 (0,0)),(b7,.cells (V8 (el p.2 i.i)).toArray 227 (0,0))] i.s i.i i2.y W hlt i.hp ((hW.perm (af (l₁:=[_,_]))).B3 λF h=>⟨h.1.1,by have e:=h.2;have e1:i2.i=((e0::ls).map VL.q).length:=hge2.trans hol;rw[e1]at e;exact e⟩);exact⟨fn,tmps,assign,body,e1,e2.mono λe w' ⟨h2,s',h3,h4⟩=>⟨h2,⟨s',h3⟩,h4.perm (af (l₂:=[_,_]))⟩⟩
  refine QCF (λ⟨a,w,h⟩=>by obtain⟨c,e,_⟩:=h;cases e) rfl<|QA (XB rfl)<|QE<|QC ?_
  refine QR I (λhc=>?_) λhc=>?_
  ·exact absurd hc wu
  refine QO<|Qk<|QC<|QB<|QA (Qw I I O)<|wB 2 I ?_
  exact Qm (⟨i.i+1,s53.1,hlt,by rw[s53.2,i.hp]⟩) (by show p.2.length-(i.i+1)<p.2.length-i.i;omega) wY (.cons _ (.cons _ QIM)) w9
 have hge:i.i=p.2.length:=wk<|QJH hc
 refine Qz ?_
 repeat first|refine QZ ?_|refine QQ wy ?_
 refine Qa<|Mk ?_
 exact Y1 ((⟨i.s,by rw[i.hp,hge]⟩:{ s:ι // pos s=p.2.length })) I .nil (rfl) λw h=>h.imp QIM tB
theorem gS{p:WA}{n:Nat}{v1 v2:Value}(hF:Fits F w)(h1:v1.oneCell'=true/\v1.cells=[v1].toArray)(h2:v2.oneCell'=true/\v2.cells=[v2].toArray):
  QV prog 137 [p.1.v,.int .i64 (n:Int),.agg #[v1],v2] w F (λ(c:Nat×Nat×Nat×Nat)=>.func (.func 196) #[] #[.pointer (some ⟨c.1,0,none⟩),.pointer (some ⟨c.2.1,0,none⟩),.pointer (some ⟨c.2.2.1,0,none⟩),.pointer (some ⟨c.2.2.2,0,none⟩)]) (λc F=>F c.1=some (#[p.1.v],172)/\F c.2.1=some (#[.int .i64 (n:Int)],3)/\F c.2.2.1=some (#[v1],125)/\F c.2.2.2=some (#[v2],110)):=by
 refine QV.intro (G:=λF=>True) func137 rfl wy rfl rfl hF w8<|QI7<|Qs rfl (vs:=[_]) rfl λb4=>Qs rfl (vs:=[_]) rfl λb5=>Qs rfl (vs:=[_]) rfl λb6=>Qs (vs:=[v2]) rfl h2.2 λb7=>wQ rfl<|QI7<|Yw (b:=b4) .u3<|Yw (b:=b5) .u2<|Yw (b:=b6) .u1<|Yw (b:=b7) .here<|QA (K5 rfl)<|wQ rfl<|QY ?_
 exact QS ((b4,b5,b6,b7)) I (wN I) (rfl) λF h9=>⟨h9.1.1.1.2,h9.1.1.2,h9.1.2,h9.2⟩
section
variable[Dr]{P:Program}{Q:Exit->Act->World->Prop}{N:Nat}{m:Sl}{w0:World}{F0:Gs}{bs:List (Nat×Obj)}{G:Gs->Prop}
@[reducible] def K1 (Ds:List Nat):Df:=⟨Ds.map λD=>{ target:=.collected D,args:=#[] }⟩
def cq(Ds:List Nat):List (Nat×Obj):=Ds.map λD=>(D,.deferred (some []))
def vI{ι:Type}(dfs:ι->Df)(N:Nat)(w0:World)(F0:Gs)(M:ι->Sl)(B:ι->List (Nat×Obj))(H:ι->Gs->Prop)(μ:ι->Nat)(i:ι)(a:Act)(w:World):Prop :=
 ∃j,μ j<μ i/\Ja (df:=dfs j) N (M j) a/\St ⟨w0,F0,B j,H j⟩ w
theorem IV(dfs:ι->Df){c:Code}(K:Sl)(M:ι->Sl)(B:ι->List (Nat×Obj))(R:ι->Gs->Prop)(μ:ι->Nat)(i0:ι)(hd:d0=dfs i0)
  (hk:KL m K) (hm:KL m (M i0)) (hb:(B i0).Sublist bs) (hg:∀F,G F->R i0 F)
  (round:∀i,J (df:=dfs i) P c (Exit.then (vI dfs N w0 F0 (λi=>K++M i) B (λi F=>G F/\R i F) μ i) Q) N (K++M i) ⟨w0,F0,B i,λF=>G F/\R i F⟩):J (df:=d0) P (.loop c) Q N m ⟨w0,F0,bs,G⟩:=by
 subst hd;intro a w ha hw;refine wp_loop_ghost (λn a w=>∃i,μ i=n/\Ja (df:=dfs i) N (K++M i) a/\St ⟨w0,F0,B i,λF=>G F/\R i F⟩ w) (μ i0) ⟨i0,rfl,Ja.sub (df:=dfs i0) ha (hk.append hm),hw.imp hb λF h=>⟨h,hg F h⟩⟩ ?_;rintro n a w ⟨i,rfl,ha,hw⟩;refine wp_mono (round i a w ha hw) ?_;intro e a' w' h;cases e with
 |normal=>obtain⟨j,h1,h2,h3⟩:=h;exact⟨μ j,h1,j,rfl,h2,h3⟩
 |_=>exact h
theorem Ie{dfs:ι->Df}{M:ι->Sl}{B:ι->List (Nat×Obj)}{H:ι->Gs->Prop}{μ:ι->Nat}{i:ι}(j:ι)(hd:d0=dfs j)(hμ:μ j<μ i)
  (hm:KL m (M j)) (hb:(B j).Sublist bs) (hg:∀F,G F->H j F):Fin (df:=d0) (Exit.then (vI dfs N w0 F0 M B H μ i) Q) .normal N m ⟨w0,F0,bs,G⟩:=by
 subst hd;exact λa w ha hw=>⟨j,hμ,Ja.sub (df:=dfs j) ha hm,hw.imp hb hg⟩
theorem Us{Ds:List Nat}{g:Operand}{ps:Array Tmp}{assign body:Code}{gf:Nat}{lb:Array Value}(B:ι->List (Nat×Obj))(R:ι->Gs->Prop)(Dn:ι->Prop)(hd:d0=K1 Ds)(hg:ev m g=some (.func (.func gf) #[] lb))(he:Enters P gf)
  (hcall:∀(L D:Nat) (r:Loop) (w:World),k6 N m ps assign body r->St ⟨w0,F0,(L,.loop r)::(D,.deferred (some []))::bs,G⟩ w ->
   Calls P gf (#[.func (.yield L) #[] #[]]++lb) w λe w'=>(∃v,e = .returned v)/\∃s,Dn s/\St ⟨w0,F0,(L,.loop r)::(D,.deferred (some []))::B s,λF=>G F/\R s F⟩ w')
  (k:∀D s,Dn s->Fin (df:=K1 (D::Ds)) Q .normal N m ⟨w0,F0,(D,.deferred (some []))::B s,λF=>G F/\R s F⟩):J (df:=d0) P (.rangeFunc g ps assign body) Q N m ⟨w0,F0,bs,G⟩:=by
 subst hd;intro a w ha hw;refine(wpIn_wide (n:=0)).1 (wpIn_rangeFunc λfn _=>?_);obtain⟨r,hr⟩:∃r:Loop,r={ state:=.ready,pending:=none,fn,tmps:=a.tmps,params:=ps,assign,body,defers:=w.heap.size }:=⟨_,rfl⟩;have hs1:St ⟨w0,F0,(w.heap.size+1,.loop r)::(w.heap.size,.deferred (some []))::bs,G⟩ ((w.alloc (.deferred (some []))).alloc (.loop r)):=by
  have h1:=hw.alloc (.deferred (some [])) (λc fr e=>by cases e);have h2:=h1.alloc (.loop r) λc fr e=>by cases e
  rwa [World.size_alloc]at h2
 have hd:a.defers=Ds.map λD=>{ target:=.collected D,args:=#[] }:=Ja.df (df:=K1 Ds) ha;have hsz:a.tmps.size=N:=Ja.size (df:=K1 Ds) (a:=a) ha;have hgt:∀t v,look m t=some v->a.tmps[t]?=some v:=λt v h=>Ja.get (df:=K1 Ds) (a:=a) ha t v h;refine⟨w.heap.size+1,[{ target:=.collected w.heap.size,args:=#[] }],(w.alloc (.deferred (some []))).alloc (.loop r),{ target:=.fn (.func gf) lb,args:=#[.func (.yield (w.heap.size+1)) #[] #[]] },(w.alloc (.deferred (some []))).alloc (.loop r),gf,
  #[.func (.yield (w.heap.size+1)) #[] #[]]++lb,(w.alloc (.deferred (some []))).alloc (.loop r),?_,?_,λ_ _=>trivial,?_,λe=>(by cases e),?_⟩
 ·rw[hr];exact run_enterLoop_outer _ _ _ _ _
 ·simp only[resolve,Ja.ev (df:=K1 Ds) ha hg];simp[go_sem]
 ·simpa[invoke,go_sem]using he _ _
 refine(callsIn_wide.2 (hcall _ _ r _ ⟨by rw[hr],by rw[hr],by rw[hr],by rw[hr],by rw[hr],⟨by rw[hr];exact hsz,rfl,by rw[hr];exact hgt⟩⟩ hs1)).mono ?_;rintro e w' ⟨⟨v,rfl⟩,s,hdn,hs⟩;have hl:w'.heap[w.heap.size+1]?=some (.loop r):=hs.own .here;refine⟨none,w'.putObj (w.heap.size+1) (.loop { r with state:=.exhausted }),?_,k w.heap.size s hdn _ _ (Ja.mk (df:=K1 (w.heap.size::Ds)) (Ja.size (df:=K1 Ds) (a:=a) ha) ?_ λt v h=>Ja.get (df:=K1 Ds) (a:=a) ha t v h) ?_⟩
 ·rw[run_endLoop hl (by rw[hr];intro e;cases e)];rw[hr]
 ·show _++a.defers=_;rw[hd];rfl
 exact(hs.put (.loop { r with state:=.exhausted }) .here λc fr e=>by cases e).imp (.cons _ QIM) λ_ h=>h
theorem QCC{c:Code}(h:∀G':Gs->Prop,(∀F,G' F->G F)->J (df:=d0) P c Q N m ⟨w0,F0,bs,G'⟩):J (df:=d0) P c Q N m ⟨w0,F0,bs,G⟩:=h G λ_ h=>h
theorem uZ{fn:Func}{R:Ending->World->Prop}(Ds:List Nat){d0:Df}(hd:d0=K1 Ds)(h:Fin (df:=DI) (bodyPost P fn R) .ret N m ⟨w0,F0,bs,G⟩):Fin (df:=d0) (bodyPostM bm 0 P fn R) .ret N m ⟨w0,F0,cq Ds++bs,G⟩:=by
 subst hd;intro a w ha hw;have hdf:a.defers=Ds.map λD=>{ target:=.collected D,args:=#[] }:=Ja.df (df:=K1 Ds) ha;show LeavesInM bm 0 P fn a.tmps R a.defers .returning w;rw[hdf];have:∀(Ds:List Nat) (w:World),St ⟨w0,F0,cq Ds++bs,G⟩ w->LeavesInM bm 0 P fn a.tmps R (Ds.map λD=>{ target:=.collected D,args:=#[] }) .returning w:=by
  intro Ds
  induction Ds with
  |nil =>
   intro w hw;have h1:=h { tmps:=a.tmps,defers:=[] } w (Ja.mk (df:=DI) (Ja.size (df:=K1 _) (a:=a) ha) rfl λt v h=>Ja.get (df:=K1 _) (a:=a) ha t v h) hw;obtain⟨_,v,h2,h3⟩:=h1;exact⟨v,h2,h3⟩
  |cons D Ds ih =>
   intro w hw;refine⟨λe=>(by cases e),.inl ⟨D,_,rfl,run_takeDeferred (hw.own .here),ih _ ?_⟩⟩;exact(hw.put (.deferred none) .here λc fr e=>by cases e).imp (.cons _ QIM) λ_ h=>h
 exact this Ds w hw
end
structure VB where
 b:Nat
 c:Nat
 l:List Ys
 rest:List Value
instance :Inhabited VB:=⟨⟨0,0,[],[]⟩⟩
def VB.box(e:VB):Nat×Obj:=(e.b,.cells (Xi e.l++e.rest).toArray 120 (0,0))
def VB.vl(e:VB):VL:=⟨e.b,e.c,e.l⟩
@[reducible] def VB.sl (k:Nat) (e:VB):Value:=.slice (some ⟨e.b,0,none⟩) k e.c
structure VB.Ok(k:Nat)(e:VB):Prop where
 hl:e.l.length=k
 hr:(Xi e.l).length+e.rest.length=e.c*8
 hc:k<=e.c
 hm:e.c<=maxLen
theorem VB.Ok.own{e:VB}(h:e.Ok k):Q9 120 8 (e.sl k) k (Xi e.l) [e.box]:=.some (by rw[GI,h.hl]) h.hr h.hc h.hm
theorem zw{v:Value}{l:List Ys}{ob:List (Nat×Obj)}(h:Q9 120 8 v k (Xi l) ob)(hk:0<k):∃e:VB,e.l=l/\e.Ok k/\v=e.sl k/\ob=[e.box]:=by
 generalize hcs:Xi l=cs at h;cases h with
 |nil=>exact absurd hk (Nat.lt_irrefl 0)
 |some h1 h2 h3 h4 =>
  rename_i b cap rest;subst hcs;refine⟨⟨b,cap,l,rest⟩,rfl,⟨?_,h2,h3,h4⟩,rfl,rfl⟩;rw[GI]at h1;show l.length=k;omega
theorem zT{vs:List Value}{z v:Value}(h:vs.length=i)(hi:i<n):K8 (vs++Xb [z] (n-i)) (0+i*1+0) [v] ((vs++[v])++Xb [z] (n-(i+1))):=by
 rw[show n-i=(n-(i+1))+1 by omega,Xb,aC,show 0+i*1+0=vs.length by omega];exact Nu I
theorem QA1{l:List Ys}{z:List Value}(c:Sp)(x:Rat×Rat)(hz:z.length=8)(h:l.length=i)(hi:i<n):K8 (Xi l++Xb z (n-i)) (0+i*8) (Xp c) (Xi (l++[(c,x)])++Xb z (n-(i+1))):=by
 rw[show n-i=(n-(i+1))+1 by omega,Xb,MF,aC,show 0+i*8=(Xi l).length by rw[GI];omega];exact Nu hz
theorem Su(e:Ys)(l:List Ys):Xi (e::l)=Xp e.1++Xi l:=rfl
theorem AX(l m:List Ys):Xi (l++m)=Xi l++Xi m:=by unfold Xi;rw[aI]
theorem zU{l:List Ys}(h:i<l.length)(c:Sp)(x:Rat×Rat):K8 (Xi l++rest) (0+i*8) (Xp c) (Xi (l.set i (c,x))++rest):=by
 have e1:l=l.take i++l[i]::l.drop (i+1):=by rw[List.getElem_cons_drop];simp
 have e2:l.set i (c,x)=l.take i++(c,x)::l.drop (i+1):=by rw[List.set_eq_take_append_cons_drop,if_pos h]
 rw[e2]
 conv=>arg 1;rw[e1]
 rw[AX,AX,Su,Su,aC,aC,aC,aC,show 0+i*8=(Xi (l.take i)).length by rw[GI,bB];omega];exact Nu I
theorem QA0{a b:List Value}{u v:Value}(h:a.length=i):K8 (a++u::b) (0+i*1+0) [v] ((a++[v])++b):=by
 rw[aC,show 0+i*1+0=a.length by omega];exact Nu (z:=[u]) I
theorem MN(X M Y:List α)(a:α):(a::(X++(M++Y))).Perm (X++(M++a::Y)):=by
 rw[<-aC,<-aC];exact List.perm_middle.symm
theorem Z9.set{l:List Ys}{c:Sp}{x:Rat×Rat}(h:Z9 F l)(k:Ji F c x):Z9 F (l.set i (c,x)):=λe he=>by
 rcases List.mem_or_eq_of_mem_set he with he | rfl
 ·exact h e he
 exact k
theorem kT(t:Rat×Rat):(Hx 0 0).set 0 t=Zy t 0:=rfl
theorem uH(t:Rat×Rat){k:Nat}(h:0<k):((Hx 0 k).set 0 t).set 1 (((1:Int):Rat),((1:Int):Rat))=Zy t k:=by
 obtain⟨n,rfl⟩:∃n,k=n+1:=⟨k-1,O⟩;rfl
structure SB(rs:List (List Tm))(t:Rat×Rat)(vb:List (Rat×Rat))(n:Nat):Prop where
 tm:∀k,k<n->∀i,i<rs.length->QEy (el rs i) (Zy t k::Jb rs t vb k) k
 mn:∀k,k<n->∀i,i<rs.length->∀u∈el rs i,∀x∈Wl u.1 u.2 (Zy t k::Jb rs t vb k) k (vb.length+1),XN x 100000000
 sm:∀k,k<n->∀i,i<rs.length->∀j,∀x∈Kc ((el rs i).take j) (Zy t k::Jb rs t vb k) k,XN x 100000000
 cf:∀k,k<n->∀i,i<rs.length->XN (el (Kc (el rs i) (Zy t k::Jb rs t vb k) k) k) 20000000
theorem MJ{p:List Tm}{all:List (List (Rat×Rat))}(h:i<p.length):Kc (p.take (i+1)) all n=Hq (Kc (p.take i) all n) (Wl (el p i).1 (el p i).2 all n all.length):=by
 unfold Kc;rw[XU h,aO];rfl
structure TaJ(vb:List (Rat×Rat)) where
 i:Nat
 es:List VB
 M:List (Nat×Obj)
 hM:M=es.map VB.box
 le:i<=vb.length
 len:es.length=i
 ok:∀e∈es,e.Ok 1
 hq:es.map (λe=>e.l.map (·.2))=(vb.take i).map λx=>[x]
structure TkJ(rs:List (List Tm))(t:Rat×Rat)(vb:List (Rat×Rat))(n:Nat) where
 k:Nat
 es:List VB
 M:List (Nat×Obj)
 Ds:List Nat
 hM:M=es.map VB.box
 le:k<=n
 len:es.length=vb.length
 ok:∀e∈es,e.Ok (k+1)
 hq:es.map (λe=>e.l.map (·.2))=Jb rs t vb k
def nxQ(rs:List (List Tm))(t:Rat×Rat)(vb:List (Rat×Rat))(k i:Nat):Rat×Rat:=Jg (el (Kc (el rs i) (Zy t k::Jb rs t vb k) k) k) ((((k+1:Nat):Int):Rat)⁻¹,(((k+1:Nat):Int):Rat)⁻¹)
structure TrJ(f:Nat->Rat×Rat)(n:Nat) where
 i:Nat
 nx:List Ys
 Ds:List Nat
 le:i<=n
 len:nx.length=i
 hv:nx.map (·.2)=(aE i).map f
structure TsS(n:Nat) where
 i:Nat
 y:Sr×List Ys
 le:i<=n
structure TeJ(es:List VB)(k:Nat)(f:Nat->Rat×Rat) where
 i:Nat
 e1:List VB
 M1:List (Nat×Obj)
 M2:List (Nat×Obj)
 hM1:M1=e1.map VB.box
 hM2:M2=(es.drop i).map VB.box
 le:i<=es.length
 len:e1.length=i
 ok:∀e∈e1,e.Ok (k+2)
 hq:e1.map (λe=>e.l.map (·.2))=(aE i).map λj=>(el es j).l.map (·.2)++[f j]
theorem St.cd:∀(es:List VB) {G:Gs->Prop},St ⟨w0,F0,bs++es.map VB.box,G⟩ w->St ⟨w0,F0,bs,λF=>G F/\∀e∈es,F e.b=some ((Xi e.l++e.rest).toArray,120)⟩ w
 |[],G,h=>by
  have:=h.B3 (G':=λF=>G F/\∀e∈([]:List VB),F e.b=some ((Xi e.l++e.rest).toArray,120)) λF hF=>⟨hF,λ_ h=>by cases h⟩;simpa using this
 |e::es,G,h=>by
  rw[aR]at h;have h1:=St.freeze (pre:=bs) (post:=es.map VB.box) (b:=e.b) h;exact(St.cd es h1).B3 λF hF=>⟨hF.1.1,λe' he=>by
   rcases List.mem_cons.1 he with rfl | he
   ·exact hF.1.2
   exact hF.2 e' he⟩
section
variable[Dr][df:Df]{P:Program}{Q:Exit->Act->World->Prop}{N:Nat}{m:Sl}{E:Env}
theorem uV{c:Code}(h:J P c (bV Q) N m E):J P (.scope c) Q N m E:=λa w ha hw=>wp_scope_straight (h a w ha hw)
theorem uW{l:Nat}(h:Fin Q .normal N m E):J P (.label l) Q N m E:=λa w ha hw=>wp_label (h a w ha hw)
theorem QCH(h:Fin Q .ret N m E):Fin (bV Q) .ret N m E:=h
end
theorem pS{q:Option Addr}{f:Nat}{l:List Ys}{p:Ys->Bool}(hF:Fits F w)(hg:∀F F',Gs.le F F'->G0 F->G0 F')(h0:G0 F)(hR:Qx F q n 8 (Xi l))(hn:l.length=n)(hb:n<=1000000)(hc:∀e∈l,∀w F,Fits F w->G0 F->Qg prog f (c1++[e.1.v]++c2) w F (.bool (p e))):QV prog 219 [.slice q n c,.func (.func f) c1.toArray c2.toArray] w F (λ(k:Int)=>.int .i64 k) (λk _=>decide (k>=0)=l.any p):=by
 refine QV.intro (G:=λF=>G0 F/\Qx F q n 8 (Xi l)) func219 rfl wy rfl rfl hF (λF' hF'=>⟨hg F F' hF' h0,hR.le hF'⟩)<|QI7<|wQ rfl<|QG<|wR rfl<|QA (Qh rfl JL)<|QH0 rfl<|QHz<|QW<|XK (ι:=Mi l p) [(0,_),(1,_),(7,_)] (λi=>[(8,.int .i64 ((i.i:Nat):Int))]) (λi=>l.length-i.i) (Mi.start _ _) wU wS λi=>?_
 simp only[aa,ab];have hi:=i.le;refine wA 6 I ?_;refine QR I (λhc2=>?_) λhc2=>?_
 ·have hlt:i.i<l.length:=wk<|QJG hc2
  have hem:=Qv hlt;refine QJL 15 I<|QA (Q3 (n:=n) i.i tB rfl rfl JL Qj O)<|QA (JK (n:=n) (vs:=[.int .i64 (el l i.i).1.lo.n.s,.slice (el l i.i).1.lo.n.q (el l i.i).1.lo.n.n (el l i.i).1.lo.n.cap,.int .i64 (el l i.i).1.lo.d.s,.slice (el l i.i).1.lo.d.q (el l i.i).1.lo.d.n (el l i.i).1.lo.d.cap,.int .i64 (el l i.i).1.hi.n.s,.slice (el l i.i).1.hi.n.q (el l i.i).1.hi.n.n (el l i.i).1.hi.n.cap,.int .i64 (el l i.i).1.hi.d.s,.slice (el l i.i).1.hi.d.q (el l i.i).1.hi.d.n (el l i.i).1.hi.d.cap]) ((i.i)*8) tB O rfl Qj I λj v hv=>JQ (f:=(λe=>Xp e.1)) (l:=l) (λ_=>rfl) O hv)<|GY (c1:=c1) (c2:=c2) rfl rfl (λw F f k=>hc _ hem w F f k.1) λ_=>QE<|QC ?_
  refine QR I (λhc2=>?_) λhc2=>?_
  ·have hc16:=hc2;refine wA 7 I ?_
   repeat first|refine Q6 ?_|refine Qy ?_
   exact QS (((i.i:Nat):Int)) I (wN I) (rfl) λF _=>by rw[decide_eq_true O,List.any_eq_true.2 ⟨_,hem,hc16⟩]
  have hc16:=hc2;refine QO<|Qk<|QC<|QB<|QA (Qw I I O)<|wB 2 I ?_
  exact Qm (i.next hlt hc16) (by show l.length-(i.i+1)<l.length-i.i;omega) wV QIM tA
 have hge:l.length<=i.i:=wk<|QJH hc2
 refine Qz ?_
 repeat first|refine QZ ?_|refine QQ wy ?_
 refine Qa<|QJM 7 I ?_
 exact QS ((-1:Int)) I (wN I) (rfl) λF _=>by rw[Bool.eq_false_iff.2 (i.stop hge)];rfl
theorem kO{q:Option Addr}{f:Nat}{l:List Ys}{p:Ys->Bool}(hF:Fits F w)(hg:∀F F',Gs.le F F'->G0 F->G0 F')(h0:G0 F)(hR:Qx F q n 8 (Xi l))(hn:l.length=n)(hb:n<=1000000)(hc:∀e∈l,∀w F,Fits F w->G0 F->Qg prog f (c1++[e.1.v]++c2) w F (.bool (p e))):Qg prog 176 [.slice q n c,.func (.func f) c1.toArray c2.toArray] w F (.bool (l.any p)):=by
 refine QV.intro (G:=λF=>G0 F/\Qx F q n 8 (Xi l)) func176 rfl wy rfl rfl hF (λF' hF'=>⟨hg F F' hF' h0,hR.le hF'⟩)<|QI7<|wQ rfl<|wR rfl<|QH0 rfl<|QI rfl (λ_ _ f k=>pS (p:=p) f hg k.1 k.2 hn hb hc) λc7=>JM _ (λ_ _ f h=>h.2) λh7=>QA (QT rfl rfl rfl)<|wQ rfl<|QY ?_
 exact QJO I I (congrArg av h7.symm) w8
theorem pT{q:Option Addr}{f:Nat}{l:List (Fr×Rat)}{p:(Fr×Rat)->Bool}(hF:Fits F w)(hg:∀F F',Gs.le F F'->G0 F->G0 F')(h0:G0 F)(hR:Qx F q n 4 (l.flatMap λe=>Kl e.1))(hn:l.length=n)(hb:n<=1000000)(hc:∀e∈l,∀w F,Fits F w->G0 F->Qg prog f (c1++[e.1.v]++c2) w F (.bool (p e))):QV prog 162 [.slice q n c,.func (.func f) c1.toArray c2.toArray] w F (λ(k:Int)=>.int .i64 k) (λk _=>decide (k>=0)=l.any p):=by
 refine QV.intro (G:=λF=>G0 F/\Qx F q n 4 (l.flatMap λe=>Kl e.1)) func162 rfl wy rfl rfl hF (λF' hF'=>⟨hg F F' hF' h0,hR.le hF'⟩)<|QI7<|wQ rfl<|QG<|wR rfl<|QA (Qh rfl XZ)<|QH0 rfl<|QHz<|QW<|XK (ι:=Mi l p) [(0,_),(1,_),(7,_)] (λi=>[(8,.int .i64 ((i.i:Nat):Int))]) (λi=>l.length-i.i) (Mi.start _ _) wU wS λi=>?_
 simp only[aa,ab];have hi:=i.le;refine wA 6 I ?_;refine QR I (λhc2=>?_) λhc2=>?_
 ·have hlt:i.i<l.length:=wk<|QJG hc2
  have hem:=Qv hlt;refine QJL 15 I<|QA (Q3 (n:=n) i.i tB rfl rfl XZ QN O)<|QA (JK (n:=n) (vs:=[.int .i64 (el l i.i).1.n.s,.slice (el l i.i).1.n.q (el l i.i).1.n.n (el l i.i).1.n.cap,.int .i64 (el l i.i).1.d.s,.slice (el l i.i).1.d.q (el l i.i).1.d.n (el l i.i).1.d.cap]) ((i.i)*4) tB O rfl QN I λj v hv=>JQ (f:=(λe=>Kl e.1)) (l:=l) (λ_=>rfl) O hv)<|GY (c1:=c1) (c2:=c2) rfl rfl (λw F f k=>hc _ hem w F f k.1) λ_=>QE<|QC ?_
  refine QR I (λhc2=>?_) λhc2=>?_
  ·have hc16:=hc2;refine wA 7 I ?_
   repeat first|refine Q6 ?_|refine Qy ?_
   exact QS (((i.i:Nat):Int)) I (wN I) (rfl) λF _=>by rw[decide_eq_true O,List.any_eq_true.2 ⟨_,hem,hc16⟩]
  have hc16:=hc2;refine QO<|Qk<|QC<|QB<|QA (Qw I I O)<|wB 2 I ?_
  exact Qm (i.next hlt hc16) (by show l.length-(i.i+1)<l.length-i.i;omega) wV QIM tA
 have hge:l.length<=i.i:=wk<|QJH hc2
 refine Qz ?_
 repeat first|refine QZ ?_|refine QQ wy ?_
 refine Qa<|QJM 7 I ?_
 exact QS ((-1:Int)) I (wN I) (rfl) λF _=>by rw[Bool.eq_false_iff.2 (i.stop hge)];rfl
theorem kP{q:Option Addr}{f:Nat}{l:List (Fr×Rat)}{p:(Fr×Rat)->Bool}(hF:Fits F w)(hg:∀F F',Gs.le F F'->G0 F->G0 F')(h0:G0 F)(hR:Qx F q n 4 (l.flatMap λe=>Kl e.1))(hn:l.length=n)(hb:n<=1000000)(hc:∀e∈l,∀w F,Fits F w->G0 F->Qg prog f (c1++[e.1.v]++c2) w F (.bool (p e))):Qg prog 86 [.slice q n c,.func (.func f) c1.toArray c2.toArray] w F (.bool (l.any p)):=by
 refine QV.intro (G:=λF=>G0 F/\Qx F q n 4 (l.flatMap λe=>Kl e.1)) func86 rfl wy rfl rfl hF (λF' hF'=>⟨hg F F' hF' h0,hR.le hF'⟩)<|QI7<|wQ rfl<|wR rfl<|QH0 rfl<|QI rfl (λ_ _ f k=>pT (p:=p) f hg k.1 k.2 hn hb hc) λc7=>JM _ (λ_ _ f h=>h.2) λh7=>QA (QT rfl rfl rfl)<|wQ rfl<|QY ?_
 exact QJO I I (congrArg av h7.symm) w8
def EH(c:Nat):Bool:=Yn c||(decide (48<=c)&&decide (c<=57))||c==95||c==39||c==35
def cL(s:List UInt8):Bool:=s.all (λc=>EH c.toNat)&&decide (1<=s.length)&&decide (s.length<=32)
theorem FB(h:128<=c):EH c=false:=by
 unfold EH Yn;simp;omega
def nsV(o:Option (Nat×Nat))(p:Nat):Value:=match o with
 |none=>.tuple #[.bool false]
 |some (c,_)=>.tuple #[.bool true,.int .i64 p,.int .i32 c]
theorem QEG(o:Option (Nat×Nat))(p:Nat):∃vs,nsV o p = .tuple vs/\vs[0]?=some (.bool o.isSome):=by
 cases o with
 |none=>exact⟨_,rfl,rfl⟩
 |some x=>exact⟨_,rfl,rfl⟩
def nsW(o:Option (Nat×Nat)):Nat:=match o with | none=>0 | some (_,w)=>w
def nsP(s:List UInt8)(p:Nat)(o:Option (Nat×Nat)):Prop:=match o with
 |none=>s.length<=p
 |some (c,wd)=>∃hi:p<s.length,(s[p].toNat<128/\c=s[p].toNat/\wd=1)\/(128<=s[p].toNat/\128<=c)
section
variable{P:Program}{Q:Exit->Act->World->Prop}{N:Nat}{m:Sl}{ops:Array Oper}{l:List Oper}{w0:World}{F0:Gs}{bs:List (Nat×Obj)}{G:Gs->Prop}{d:Nat}{ty:TypeId}{pos:String}{aft:Array Edge}
theorem IY{x:Operand}{b p:Nat}{f:Obj->List (Nat×Obj)}(hx:ev m x=some (.pointer (some ⟨b,0,none⟩)))(ho:Own bs b (.stringIter ⟨s.toArray⟩ p) f)
  (k:∀o,nsP s p o->JS P ops Q l N ((d,nsV o p)::m) ⟨w0,F0,f (.stringIter ⟨s.toArray⟩ (p+nsW o)),G⟩) (hd:J5 N (some d)=true:=by rfl) :
  JS P ops Q (⟨some d,.next x true,ty,pos,aft,none⟩::l) N m ⟨w0,F0,bs,G⟩:=by
 rcases bw p s.length with hi | hi
 ·obtain⟨c,wd,hdec,hcase⟩:=qu hi;exact OR hx ho hi hdec (k (some (c,wd)) ⟨hi,hcase⟩) hd
 have h:=k none hi;refine OT hx ho hi ?_ hd;obtain⟨pre,post,e1,e2⟩:=ho.split;rw[e2]at h;rw[e1];exact h
end
theorem pZ(hF:Fits F w)(hl:s.length<=9223372036854775807):Qg prog 129 [tx s] w F (.bool (cL s)):=by
 refine QV.intro (G:=λF=>True) func129 rfl wy rfl rfl hF w8<|QI7<|wQ rfl<|QG<|wR rfl<|IW rfl Zk λb7=>QHz<|QW<|JV (ι:=W9 s λc=>EH c.toNat) [(0,_),(7,_)] (λi=>[]) (λi=>[(b7,.stringIter ⟨s.toArray⟩ i.i)]) (λi F=>True) (λi=>s.length-i.i) (W9.start _ _) wT trivial QIM w8 λi=>?_
 simp only[aa,ab];have hle:=i.le;refine QI7<|IY (s:=s) (p:=i.i) rfl .here λo ho=>?_
 obtain⟨nv,hnv,hn0⟩:=QEG o i.i;refine QA (v:=.bool o.isSome) (QX (vs:=nv) (by rw[<-hnv];rfl) hn0)<|QHz<|QG ?_
 refine QR I (λhc=>?_) λhc=>?_
 ·obtain⟨⟨c,wd⟩,rfl⟩:∃x,o=some x:=by
   cases o with
   |none=>cases hc
   |some x=>exact⟨x,rfl⟩
  obtain⟨hi,hcase⟩:=ho;refine QJL 9 I ?_;refine Zc [(0,_),(4,_),(7,_)] [(5,.bool ((Yn c||(decide (48<=c)&&decide (c<=57)))))] wU ?_ ?_
  ·refine wA 4 I ?_;refine Ql (t:=13) rfl (λhb13=>?_) λhb13=>?_
   ·refine wB 6 I ?_;refine Ql (t:=17) rfl (λhb17=>?_) λhb17=>?_
    ·refine wB 3 I<|Jn I I<|Jn I I<|wB 6 I<|Jn I I<|Jn I I<|wB 4 I ?_
     exact JY ⟨rfl,rfl,rfl,(congrArg (λb=>some (av b)) (by rw[aq];simp_all [Yn]<;>omega)),trivial⟩ QIM w9
    refine wB 6 I ?_;refine Ql (t:=20) rfl (λhb20=>?_) λhb20=>?_
    ·refine wB 8 I ?_;refine Ql (t:=25) rfl (λhb25=>?_) λhb25=>?_
     ·refine wB 3 I<|Jn I I<|Jn I I<|wB 4 I ?_
      exact JY ⟨rfl,rfl,rfl,(congrArg (λb=>some (av b)) (by rw[aq];simp_all [Yn]<;>omega)),trivial⟩ QIM w9
     refine wB 6 I ?_;refine Ql (t:=28) rfl (λhb28=>?_) λhb28=>?_
     ·refine wB 9 I ?_;exact JY ⟨rfl,rfl,rfl,(congrArg (λb=>some (av b)) (by rw[aq];simp_all [Yn]<;>omega)),trivial⟩ QIM w9
     refine wB 7 I ?_;exact JY ⟨rfl,rfl,rfl,(congrArg (λb=>some (av b)) (by rw[aq];simp_all [Yn]<;>omega)),trivial⟩ QIM w9
    refine wB 12 I ?_;refine Ql (t:=28) rfl (λhb28=>?_) λhb28=>?_
    ·refine wB 9 I ?_;exact JY ⟨rfl,rfl,rfl,(congrArg (λb=>some (av b)) (by rw[aq];simp_all [Yn]<;>omega)),trivial⟩ QIM w9
    refine wB 7 I ?_;exact JY ⟨rfl,rfl,rfl,(congrArg (λb=>some (av b)) (by rw[aq];simp_all [Yn]<;>omega)),trivial⟩ QIM w9
   refine wB 10 I ?_;refine Ql (t:=20) rfl (λhb20=>?_) λhb20=>?_
   ·refine wB 8 I ?_;refine Ql (t:=25) rfl (λhb25=>?_) λhb25=>?_
    ·refine wB 3 I<|Jn I I<|Jn I I<|wB 4 I ?_
     exact JY ⟨rfl,rfl,rfl,(congrArg (λb=>some (av b)) (by rw[aq];simp_all [Yn]<;>omega)),trivial⟩ QIM w9
    refine wB 6 I ?_;refine Ql (t:=28) rfl (λhb28=>?_) λhb28=>?_
    ·refine wB 9 I ?_;exact JY ⟨rfl,rfl,rfl,(congrArg (λb=>some (av b)) (by rw[aq];simp_all [Yn]<;>omega)),trivial⟩ QIM w9
    refine wB 7 I ?_;exact JY ⟨rfl,rfl,rfl,(congrArg (λb=>some (av b)) (by rw[aq];simp_all [Yn]<;>omega)),trivial⟩ QIM w9
   refine wB 12 I ?_;refine Ql (t:=28) rfl (λhb28=>?_) λhb28=>?_
   ·refine wB 9 I ?_;exact JY ⟨rfl,rfl,rfl,(congrArg (λb=>some (av b)) (by rw[aq];simp_all [Yn]<;>omega)),trivial⟩ QIM w9
   refine wB 7 I ?_;exact JY ⟨rfl,rfl,rfl,(congrArg (λb=>some (av b)) (by rw[aq];simp_all [Yn]<;>omega)),trivial⟩ QIM w9
  simp only[aa,ab];refine Zc [(0,_),(7,_)] [(46,.bool ((!EH c)))] wT ?_ ?_
  ·refine wA 2 I<|QA (XB I)<|QH0 I ?_
   refine Ql (t:=35) rfl (λhb35=>?_) λhb35=>?_
   ·refine wB 6 I ?_;refine Ql (t:=39) rfl (λhb39=>?_) λhb39=>?_
    ·refine wB 6 I ?_;refine Ql (t:=43) rfl (λhb43=>?_) λhb43=>?_
     ·refine wB 6 I ?_;exact JY ⟨rfl,rfl,(congrArg (λb=>some (av b)) (by clear hcase;rw[aq];cases hL:Yn c<;>simp_all [EH]<;>omega)),trivial⟩ QIM w9
     refine wB 4 I ?_;exact JY ⟨rfl,rfl,(congrArg (λb=>some (av b)) (by clear hcase;rw[aq];cases hL:Yn c<;>simp_all [EH]<;>omega)),trivial⟩ QIM w9
    refine wB 8 I ?_;exact JY ⟨rfl,rfl,(congrArg (λb=>some (av b)) (by clear hcase;rw[aq];cases hL:Yn c<;>simp_all [EH]<;>omega)),trivial⟩ QIM w9
   refine wB 12 I ?_;exact JY ⟨rfl,rfl,(congrArg (λb=>some (av b)) (by clear hcase;rw[aq];cases hL:Yn c<;>simp_all [EH]<;>omega)),trivial⟩ QIM w9
  simp only[aa,ab];refine QR I (λhc=>?_) λhc=>?_
  ·have hbad:EH (el s i.i).toNat=false:=by
    rw[JW hi];rcases hcase with ⟨_,h2,_⟩ | ⟨h2,_⟩
    ·rw[<-h2];simpa using hc
    exact FB h2
   refine wA 6 I ?_
   repeat first|refine Q6 ?_|refine Qy ?_
   exact QJO I I (congrArg av (by unfold cL;rw[i.hit hi hbad];rfl)) w8
  have hcg0:EH c=true:=by simpa using hc
  have hasc:s[i.i].toNat<128/\c=s[i.i].toNat/\wd=1:=by
   rcases hcase with h | ⟨_,h2⟩
   ·exact h
   rw[FB h2]at hcg0;cases hcg0
  have hwd:wd=1:=hasc.2.2;have hcg:EH (el s i.i).toNat=true:=by rw[JW hi,<-hasc.2.1];exact hcg0
  refine QO<|Qk ?_
  exact Qm (i.next hi hcg) (by show s.length-(i.i+1)<s.length-i.i;omega) wT ((by rw[show nsW (some (c,wd))=1 from hwd];exact aQ _)) λF h=>⟨h.1,trivial⟩
 obtain rfl:o=none:=by
  cases o with
  |none=>rfl
  |some x=>cases hc
 have hge:s.length<=i.i:=ho;refine Qz ?_
 repeat first|refine QZ ?_|refine QQ wy ?_
 refine Qa<|QC<|wR I<|QA (Xj I Zk)<|wB 2 I ?_
 refine Ql (t:=50) rfl (λhb50=>?_) λhb50=>?_
 ·refine wB 3 I<|QA (Xj I Zk)<|QJK 7 I ?_
  exact QJO I I (congrArg av (by unfold cL;rw[i.stop hge];rw[aq];simp at *;simp_all<;>omega)) w8
 refine QJK 8 I ?_;exact QJO I I (congrArg av (by unfold cL;rw[i.stop hge];rw[aq];simp at *;simp_all<;>omega)) w8
structure X5 where
 nm:Sr
 nl:List (List UInt8)
 rt:Sr
 rl:List SD
 st:Sr
 sl:List (List UInt8×List UInt8)
variable{y:X5}
@[reducible] def X5.v (y:X5):Value:=.agg #[.slice y.nm.q y.nm.n y.nm.cap,.slice y.rt.q y.rt.n y.rt.cap,.slice y.st.q y.st.n y.st.cap]
structure ZH(F:Gs)(y:X5):Prop where
 nm:Qx F y.nm.q y.nm.n 1 (y.nl.map tx)
 rt:Qx F y.rt.q y.rt.n 1 (y.rl.map λe=>e.1.v)
 pl:Ii F y.rl
 st:Qx F y.st.q y.st.n 2 (y.sl.flatMap Pc)
 jg:y.nl.length=y.nm.n
 Kx:y.rl.length=y.rt.n
 P3:y.sl.length=y.st.n
theorem ZH.le(h:ZH F y)(k:Gs.le F F'):ZH F' y:=⟨h.nm.le k,h.rt.le k,h.pl.le k,h.st.le k,h.jg,h.Kx,h.P3⟩
structure Ww(y:X5):Prop where
 nn:y.nm.n<=1000000
 nc:y.nm.n<=y.nm.cap
 nt:∀s∈y.nl,s.length<=9223372036854775807
 rn:y.rt.n<=1000000
 tm:∀e∈y.rl,Uq e
 sn:y.st.n<=1000000
 st:∀s∈y.sl,s.1.length<=1000000/\s.2.length<=1000000
def EI(nl:List (List UInt8))(i:Nat):Int:=Qu [if(!cL (el nl i))=true then 8 else 0,if decide (el nl i∈nl.take i)=true then 9 else 0]
def DW(nl:List (List UInt8)):Int:=Qu ((aE nl.length).map (EI nl))
def By(nl:List (List UInt8))(rl:List Pt)(sl:List (List UInt8×List UInt8)):Int :=
 if nl.length=0 then 12 else if nl.length>24 then 5 else if rl.length≠nl.length\/sl.length≠nl.length then 2 else
  Qu [DW nl,Qu (rl.map λp=>Za p nl.length),Qu (sl.map λs=>XX s.1 s.2)]
def X5.e(y:X5):Int:=By y.nl (y.rl.map λe=>YG e.2) y.sl
theorem Zm{l:List Int}:Qu (0::l)=Qu l:=by simp[Qu]
theorem Zl{x:Int}{l:List Int}(h:x≠0):Qu (x::l)=x:=by simp[Qu,h]
theorem Bh{b:Bool}{e:Int}(hF:Fits F w):Qg prog 128 [.bool b,.int .i64 e] w F (.int .i64 (if b=true then e else 0)):=by
 refine QV.intro (G:=λF=>True) func128 rfl wy rfl rfl hF w8<|QI7<|wQ rfl<|QG<|wR rfl<|QE<|QC ?_
 refine QR I (λhc=>?_) λhc=>?_
 ·refine wA 7 I ?_;exact QJO I I (congrArg (ah .i64) (by rw[if_pos hc])) w8
 refine QJL 8 I ?_;exact QJO I I (congrArg (ah .i64) (by rw[if_neg (by rw[hc];decide)])) w8
theorem Be{b:Bool}{e:Int}(hF:Fits F w):Qg prog 98 [.bool b,.int .i64 e] w F (.int .i64 (if b=true then e else 0)):=by
 refine QV.intro (G:=λF=>True) func98 rfl wy rfl rfl hF w8<|QI7<|wQ rfl<|QG<|wR rfl<|QE<|QC ?_
 refine QR I (λhc=>?_) λhc=>?_
 ·refine wA 7 I ?_;exact QJO I I (congrArg (ah .i64) (by rw[if_pos hc])) w8
 refine QJL 8 I ?_;exact QJO I I (congrArg (ah .i64) (by rw[if_neg (by rw[hc];decide)])) w8
theorem ET{q:Option Addr}{l:List Int}(hF:Fits F w)(hR:Qx F q n 1 (l.map Jr))(hn:n<=1000000000):Qg prog 127 [.slice q n c] w F (.int .i64 (Qu l)):=by
 have hln:l.length=n:=by have:=hR.1;simpa using this
 have hmap:Qu l=Qu (l.map id):=by rw[bU]
 refine QV.intro (G:=λF=>Qx F q n 1 (l.map Jr)) func127 rfl wy rfl rfl hF (λF' hF'=>hR.le hF')<|QI7<|wQ rfl<|QG<|wR rfl<|QA (Qh rfl ZJ)<|QH0 rfl<|QHz<|QW<|XK (ι:=ZO l id) [(5,_),(6,_)] (λi=>[(7,.int .i64 ((i.i:Nat):Int))]) (λi=>l.length-i.i) (ZO.start _ _) wT wS λi=>?_
 simp only[aa,ab];have hi:=i.le;refine wA 6 I ?_;refine QR I (λhc=>?_) λhc=>?_
 ·have hlt:i.i<l.length:=wk<|QJG hc
  refine QJL 6 I<|QA (Q3 (n:=n) i.i w9 rfl rfl ZJ YV O)<|QA (Q5 (n:=n) ((i.i)*1) w9 O rfl YV (XL (f:=Jr) (l:=l) O))<|QJK 9 I ?_
  refine QR I (λhc=>?_) λhc=>?_
  ·have h12:id (el l i.i)≠0:=bne_iff_ne.1 hc;refine wA 7 I ?_
   repeat first|refine Q6 ?_|refine Qy ?_
   exact QJO I I (congrArg (ah .i64) (hmap ▸ i.hit hlt h12)) w8
  have h12:id (el l i.i)=0:=bne_eq_false_iff_eq.1 hc;refine QO<|Qk<|QC<|QB<|QA (Qw I I O)<|wB 2 I ?_
  exact Qm (i.next hlt h12) (by show l.length-(i.i+1)<l.length-i.i;omega) wU QIM w9
 have hge:l.length<=i.i:=wk<|QJH hc
 refine Qz ?_
 repeat first|refine QZ ?_|refine QQ wy ?_
 refine Qa<|QJM 7 I ?_
 exact QJO I I (congrArg (ah .i64) (hmap ▸ i.stop hge)) w8
theorem YY{q:Option Addr}{l:List Int}(hF:Fits F w)(hR:Qx F q n 1 (l.map Jr))(hn:n<=1000000000):Qg prog 60 [.slice q n c] w F (.int .i64 (Qu l)):=by
 have hln:l.length=n:=by have:=hR.1;simpa using this
 have hmap:Qu l=Qu (l.map id):=by rw[bU]
 refine QV.intro (G:=λF=>Qx F q n 1 (l.map Jr)) func60 rfl wy rfl rfl hF (λF' hF'=>hR.le hF')<|QI7<|wQ rfl<|QG<|wR rfl<|QA (Qh rfl ZJ)<|QH0 rfl<|QHz<|QW<|XK (ι:=ZO l id) [(5,_),(6,_)] (λi=>[(7,.int .i64 ((i.i:Nat):Int))]) (λi=>l.length-i.i) (ZO.start _ _) wT wS λi=>?_
 simp only[aa,ab];have hi:=i.le;refine wA 6 I ?_;refine QR I (λhc=>?_) λhc=>?_
 ·have hlt:i.i<l.length:=wk<|QJG hc
  refine QJL 6 I<|QA (Q3 (n:=n) i.i w9 rfl rfl ZJ YV O)<|QA (Q5 (n:=n) ((i.i)*1) w9 O rfl YV (XL (f:=Jr) (l:=l) O))<|QJK 9 I ?_
  refine QR I (λhc=>?_) λhc=>?_
  ·have h12:id (el l i.i)≠0:=bne_iff_ne.1 hc;refine wA 7 I ?_
   repeat first|refine Q6 ?_|refine Qy ?_
   exact QJO I I (congrArg (ah .i64) (hmap ▸ i.hit hlt h12)) w8
  have h12:id (el l i.i)=0:=bne_eq_false_iff_eq.1 hc;refine QO<|Qk<|QC<|QB<|QA (Qw I I O)<|wB 2 I ?_
  exact Qm (i.next hlt h12) (by show l.length-(i.i+1)<l.length-i.i;omega) wU QIM w9
 have hge:l.length<=i.i:=wk<|QJH hc
 refine Qz ?_
 repeat first|refine QZ ?_|refine QQ wy ?_
 refine Qa<|QJM 7 I ?_
 exact QJO I I (congrArg (ah .i64) (hmap ▸ i.stop hge)) w8
theorem Fl{q:Option Addr}{f:Nat}{ls:List SD}{fE:SD->Int}(hF:Fits F w)(hg:∀F F',Gs.le F F'->G0 F->G0 F')(h0:G0 F)(hR:Qx F q n 1 (ls.map λe=>e.1.v))(hn:ls.length=n)(hb:n<=1000000)(hc:∀e∈ls,∀w F,Fits F w->G0 F->Qg prog f (c1++[e.1.v]++c2) w F (.int .i64 (fE e))):
  Qg prog 131 [.slice q n c,.func (.func f) c1.toArray c2.toArray] w F (.int .i64 (Qu (ls.map fE))):=by
 refine QV.intro (G:=λF=>G0 F/\Qx F q n 1 (ls.map λe=>e.1.v)) func131 rfl wy rfl rfl hF (λF' hF'=>⟨hg F F' hF' h0,hR.le hF'⟩)<|QI7<|wQ rfl<|QG<|wR rfl<|QA (Qh rfl V7)<|QH0 rfl<|QHz<|QW<|XK (ι:=ZO ls fE) [(1,_),(8,_),(9,_)] (λi=>[(10,.int .i64 ((i.i:Nat):Int))]) (λi=>ls.length-i.i) (ZO.start _ _) wU wS λi=>?_
 simp only[aa,ab];have hi:=i.le;refine wA 6 I ?_;refine QR I (λhc2=>?_) λhc2=>?_
 ·have hlt:i.i<ls.length:=wk<|QJG hc2
  have hem:=Qv hlt;refine QJL 6 I<|QA (Q3 (n:=n) i.i tB rfl rfl V7 Wh O)<|QA (Q5 (n:=n) ((i.i)*1) tB O rfl Wh (XL (f:=λe:SD=>e.1.v) (l:=ls) O))<|QJK 7 I<|GY (c1:=c1) (c2:=c2) rfl rfl (λw F f k=>hc _ hem w F f k.1) λ_=>QJK 9 I ?_
  refine QR I (λhc2=>?_) λhc2=>?_
  ·have h18:=bne_iff_ne.1 hc2;refine wA 7 I ?_
   repeat first|refine Q6 ?_|refine Qy ?_
   exact QJO I I (congrArg (ah .i64) (i.hit hlt h18)) w8
  have h18:=bne_eq_false_iff_eq.1 hc2;refine QO<|Qk<|QC<|QB<|QA (Qw I I O)<|wB 2 I ?_
  exact Qm (i.next hlt h18) (by show ls.length-(i.i+1)<ls.length-i.i;omega) wV QIM tA
 have hge:ls.length<=i.i:=wk<|QJH hc2
 refine Qz ?_
 repeat first|refine QZ ?_|refine QQ wy ?_
 refine Qa<|QJM 7 I ?_
 exact QJO I I (congrArg (ah .i64) (i.stop hge)) w8
theorem Fk{q:Option Addr}{f:Nat}{ls:List (List UInt8×List UInt8)}{fE:List UInt8×List UInt8->Int}(hF:Fits F w)(hg:∀F F',Gs.le F F'->G0 F->G0 F')(h0:G0 F)(hR:Qx F q n 2 (ls.flatMap Pc))(hn:ls.length=n)(hb:n<=1000000)(hc:∀e∈ls,∀w F,Fits F w->G0 F->Qg prog f (c1++[.agg #[tx e.1,tx e.2]]++c2) w F (.int .i64 (fE e))):
  Qg prog 133 [.slice q n c,.func (.func f) c1.toArray c2.toArray] w F (.int .i64 (Qu (ls.map fE))):=by
 refine QV.intro (G:=λF=>G0 F/\Qx F q n 2 (ls.flatMap Pc)) func133 rfl wy rfl rfl hF (λF' hF'=>⟨hg F F' hF' h0,hR.le hF'⟩)<|QI7<|wQ rfl<|QG<|wR rfl<|QA (Qh rfl J9)<|QH0 rfl<|QHz<|QW<|XK (ι:=ZO ls fE) [(1,_),(8,_),(9,_)] (λi=>[(10,.int .i64 ((i.i:Nat):Int))]) (λi=>ls.length-i.i) (ZO.start _ _) wU wS λi=>?_
 simp only[aa,ab];have hi:=i.le;refine wA 6 I ?_;refine QR I (λhc2=>?_) λhc2=>?_
 ·have hlt:i.i<ls.length:=wk<|QJG hc2
  have hem:=Qv hlt;refine QJL 6 I<|QA (Q3 (n:=n) i.i tB rfl rfl J9 Jq O)<|QA (JK (n:=n) (vs:=[tx (el ls i.i).1,tx (el ls i.i).2]) ((i.i)*2) tB O rfl Jq I λj v hv=>JQ (f:=Pc) (l:=ls) KZ O hv)<|Qc Xe λb6=>QU (vs:=[_,_]) I I I Jq I .here .h2 wT<|QJK 5 I<|QA (wH I Jq .here)<|GY (c1:=c1) (c2:=c2) rfl rfl (λw F f k=>hc _ hem w F f k.1) λ_=>QJK 8 I ?_
  refine QC ?_;refine QR I (λhc2=>?_) λhc2=>?_
  ·have h18:=bne_iff_ne.1 hc2;refine wA 7 I ?_
   repeat first|refine Q6 ?_|refine Qy ?_
   exact QJO I I (congrArg (ah .i64) (i.hit hlt h18)) w8
  have h18:=bne_eq_false_iff_eq.1 hc2;refine QO<|Qk<|QC<|QB<|QA (Qw I I O)<|wB 2 I ?_
  exact Qm (i.next hlt h18) (by show ls.length-(i.i+1)<ls.length-i.i;omega) wV (tD) tA
 have hge:ls.length<=i.i:=wk<|QJH hc2
 refine Qz ?_
 repeat first|refine QZ ?_|refine QQ wy ?_
 refine Qa<|QJM 7 I ?_
 exact QJO I I (congrArg (ah .i64) (i.stop hge)) w8
structure NoI(l:List (List UInt8))(v:List UInt8) where
 i:Nat
 le:i<=l.length
 h:∀j,j<i->¬el l j=v
theorem NoI.stop{l:List (List UInt8)}{v:List UInt8}(s:NoI l v)(h:l.length<=s.i):¬v∈l:=λhm=>by
 obtain⟨j,hj,e⟩:=bO hm;exact s.h j O (by rw[JW hj];exact e)
theorem yp{q:Option Addr}{l:List (List UInt8)}{v:List UInt8}(hF:Fits F w)(hR:Qx F q n 1 (l.map tx))(hn:l.length=n)(hb:n<=1000000000):QV prog 194 [.slice q n c,tx v] w F (λ(k:Int)=>.int .i64 k) (λk _=>decide (k>=0)=decide (v∈l)):=by
 refine QV.intro (G:=λF=>Qx F q n 1 (l.map tx)) func194 rfl wy rfl rfl hF (λF' hF'=>hR.le hF')<|QI7<|wQ rfl<|QG<|wR rfl<|QA (Qh rfl Ku)<|QH0 rfl<|QHz<|QW<|XK (ι:=NoI l v) [(0,_),(1,_),(7,_)] (λi=>[(8,.int .i64 ((i.i:Nat):Int))]) (λi=>l.length-i.i) (⟨0,ao _,λj h=>absurd h (ba _)⟩) wU wS λi=>?_
 simp only[aa,ab];have hi:=i.le;refine wA 6 I ?_;refine QR I (λhc=>?_) λhc=>?_
 ·have hlt:i.i<l.length:=wk<|QJG hc
  refine QJL 15 I<|QA (Q3 (n:=n) i.i w9 rfl rfl Ku Dq O)<|QA (Q5 (n:=n) ((i.i)*1) w9 O rfl Dq (XL (f:=tx) (l:=l) O))<|QA (K6 I I)<|QE<|QC ?_
  refine QR I (λhc=>?_) λhc=>?_
  ·have h16:v=el l i.i:=by simpa using hc
   have hm:v∈l:=by rw[h16];exact Qv hlt
   refine wA 7 I ?_
   repeat first|refine Q6 ?_|refine Qy ?_
   exact QS (((i.i:Nat):Int)) I (wN I) (rfl) λF hR=>by simp[hm]
  have h16:¬v=el l i.i:=by simpa using hc
  refine QO<|Qk<|QC<|QB<|QA (Qw I I O)<|wB 2 I ?_
  exact Qm (⟨i.i+1,hlt,λj hj=>by rcases Nat.lt_succ_iff_lt_or_eq.1 hj with h | rfl;exact i.h j h;exact λe=>h16 e.symm⟩) (by show l.length-(i.i+1)<l.length-i.i;omega) wV QIM w9
 have hge:l.length<=i.i:=wk<|QJH hc
 refine Qz ?_
 repeat first|refine QZ ?_|refine QQ wy ?_
 refine Qa<|QJM 7 I ?_
 exact QS ((-1:Int)) I (wN I) (rfl) λF hR=>by simp[i.stop hge]
theorem F8{q:Option Addr}{l:List (List UInt8)}{v:List UInt8}(hF:Fits F w)(hR:Qx F q n 1 (l.map tx))(hn:l.length=n)(hb:n<=1000000000):Qg prog 130 [.slice q n c,tx v] w F (.bool (decide (v∈l))):=by
 refine QV.intro (G:=λF=>Qx F q n 1 (l.map tx)) func130 rfl wy rfl rfl hF (λF' hF'=>hR.le hF')<|QI7<|wQ rfl<|wR rfl<|QH0 rfl<|QI rfl (λ_ _ f k=>yp f k hn hb) λc7=>JM _ (λ_ _ f h=>h.2) λh7=>QA (QT rfl rfl rfl)<|wQ rfl<|QY ?_
 exact QJO I I (congrArg av h7.symm) w8
theorem UZ{b:Nat}{v:Int}{e:SD}(hF:Fits F w)(hGl:JE F)(hB:F b=some (#[.int .i64 v],3))(hR:Qx F e.1.q e.1.n 2 (e.2.flatMap DM))(hA:VT F e.2)(ht:Uq e)(hv:0<=v/\v<=24):Qg prog 132 [e.1.v,.pointer (some ⟨b,0,none⟩)] w F (.int .i64 (Za (YG e.2) v)):=by
 obtain⟨⟨q,n,c⟩,ps⟩:=e;dsimp only[Sr.v]at *
 refine QV.intro (G:=λF=>JE F/\F b=some (#[.int .i64 v],3)/\Qx F q n 2 (ps.flatMap DM)/\VT F ps) func132 rfl wy rfl rfl hF (λF' hF'=>⟨hGl.le hF',hF' _ _ hB,hR.le hF',hA.le hF'⟩)<|QI7<|wQ rfl<|wR rfl<|QA (Q5 (n:=1) ((0)*1) (λF h9=>(Qx.of (n:=1) (sz:=1) h9.2.1 rfl)) O rfl JO rfl)<|QI rfl (λ_ _ f k=>Gy f k.1 k.2.2.1 k.2.2.2 ht.1 ht.2.1 ht.2.2) λ_=>wQ rfl<|QY ?_
 exact QJO I I (congrArg (ah .i64) (by unfold HZ;rw[if_pos ((Bp v).2 hv)])) w8
def DR(n r s:Nat):Int:=Qu [if decide ((n:Int)=0)=true then 12 else 0,if decide ((n:Int)>24)=true then 5 else 0,if((r:Int) != n||(s:Int) != n)=true then 2 else 0]
theorem Qx.QCL{q:Option Addr}{l:List (List UInt8)}(h:Qx F q n 1 (l.map tx))(hl:l.length=n)(hk:k<=l.length):Qx F q k 1 ((l.take k).map tx):=by
 refine⟨w6,λh0=>?_⟩;obtain⟨b,off,arr,T,e1,e2,e3⟩:=h.2 O;refine⟨b,off,arr,T,e1,e2,λj u hu=>e3 j u ?_⟩;rw[List.map_take]at hu;have hj:j<k:=by
  rcases bw j k with g | g
  ·exact g
  rw[bc w6]at hu;cases hu
 rw[List.getElem?_take_of_lt hj]at hu;exact hu
theorem xa{nl:List (List UInt8)}{rl:List Pt}{sl:List (List UInt8×List UInt8)}(h:DR nl.length rl.length sl.length≠0):By nl rl sl=DR nl.length rl.length sl.length:=by
 unfold By;by_cases h1:nl.length=0
 ·rw[if_pos h1];simp[DR,h1,Qu]
 rw[if_neg h1];by_cases h2:nl.length>24
 ·rw[if_pos h2];simp[DR,h1,Qu];omega
 rw[if_neg h2];by_cases h3:rl.length≠nl.length\/sl.length≠nl.length
 ·rw[if_pos h3];have e:((rl.length:Int) != nl.length||(sl.length:Int) != nl.length)=true:=by simp only[aX,bne_iff_ne];omega
  unfold DR;rw[e];simp[h1,Qu];omega
 exfalso;apply h;have e:((rl.length:Int) != nl.length||(sl.length:Int) != nl.length)=false:=by rw[Bool.eq_false_iff];simp only[ne_eq,aX,bne_iff_ne];omega
 unfold DR;rw[e];simp[h1,Qu];omega
theorem Tr{r s:Nat}(h:DR n r s=0):n≠0/\n<=24/\r=n/\s=n:=by
 unfold DR at h;by_cases h1:n=0
 ·simp[h1,Qu]at h
 by_cases h2:n>24
 ·have:((n:Int)>24):=O;simp[h1,this,Qu]at h
 by_cases h3:r≠n\/s≠n
 ·have e:((r:Int) != n||(s:Int) != n)=true:=by simp only[aX,bne_iff_ne];omega
  have h4:¬((n:Int)>24):=O;rw[e]at h;simp[h1,h4,Qu]at h
 omega
theorem LN{nl:List (List UInt8)}{rl:List Pt}{sl:List (List UInt8×List UInt8)}(h:DR nl.length rl.length sl.length=0):By nl rl sl=Qu [DW nl,Qu (rl.map λp=>Za p nl.length),Qu (sl.map λs=>XX s.1 s.2)]:=by
 obtain⟨h1,h2,h3,h4⟩:=Tr h;unfold By;rw[if_neg h1,if_neg O,if_neg O]
theorem Zt(hF:Fits F w)(hGl:JE F)(hy:ZH F y)(ht:Ww y):Qg prog 61 [y.v] w F (.int .i64 y.e):=by
 obtain⟨⟨qn,nn,cn⟩,nl,⟨qr,nr,cr⟩,rl,⟨qs,ns,cs⟩,sl⟩:=y;have hnl:=hy.jg;have hrl:=hy.Kx;have hsl:=hy.P3;have hnn:=ht.nn;have hrn:=ht.rn;have hsn:=ht.sn;dsimp only at *
 dsimp only[X5.v];refine QV.intro (G:=λF=>JE F/\ZH F ⟨⟨qn,nn,cn⟩,nl,⟨qr,nr,cr⟩,rl,⟨qs,ns,cs⟩,sl⟩) func61 rfl wy rfl rfl hF (λF' hF'=>⟨hGl.le hF',hy.le hF'⟩)<|QI7<|Qs rfl (vs:=[_,_,_]) rfl λb1=>wQ rfl<|QI7<|QA (QH rfl Hl VG)<|QA (Qf rfl VG .here .h1)<|QA (Qh rfl Ku)<|Qc SP λb3=>QU (vs:=[_]) rfl rfl rfl JO rfl .here .h1 wS<|QHz<|QG ?_
 refine Zc [(1,_),(3,_)] [(4,.int .i64 (DR nn nr ns))] wT ?_ ?_
 ·refine JH QIM mixed wm<|QK (Qf I JO .here .h1)<|QK (QT I I I)<|QP I (λ_ _ f k=>Bh f ) λ_=>QK (Qf I JO .here .h1)<|QK (QT I I I)<|QP I (λ_ _ f k=>Bh f ) λ_=>QK (QH I WZ Yx)<|QK (Qf I Yx .u1 (.skip .h1))<|QK (Qh I V7)<|QK (Qf I JO .here .h1)<|QK (QT I I I)<|QK (QD I) ?_
  refine BV (t:=22) rfl (λhb22=>?_) λhb22=>?_
  ·refine Jw I I I<|Jw I I I<|Jw I I I<|Jw I I I<|Jw I I I<|QK (Qe I I I)<|QP I (λ_ _ f k=>Bh f ) λ_=>?_
   refine Qp I (Q4 ZJ) YV Hz I I (λb30=>?_) (λw h=>h.imp tC λF h=>h.1.1.1);refine QP I (λ_ _ f k=>ET f (Qx.of (cs:=aT Jr [_,_,_]) k.2 I) wu) (λ_=>QK (QF I)<|Q7 ?_);exact JY ⟨rfl,rfl,(congrArg (λb=>some (ah .i64 b)) (by unfold DR;rw[hb22];rfl)),trivial⟩ QIM λ_ h=>h.1.1.1.1.1
  refine J1 I I<|QK (QH I YL JZ)<|J1 I I<|QK (Qf I JZ .u1 (.skip (.skip .h1)))<|J1 I I<|QK (Qh I J9)<|J1 I I<|QK (Qf I JO .here .h1)<|J1 I I<|QK (QT I I I)<|QK (Qd I I I)<|QP I (λ_ _ f k=>Bh f ) λ_=>?_
  refine Qp I (Q4 ZJ) YV Hz I I (λb30=>?_) (λw h=>h.imp tC λF h=>h.1.1.1);refine QP I (λ_ _ f k=>ET f (Qx.of (cs:=aT Jr [_,_,_]) k.2 I) wu) (λ_=>QK (QF I)<|Q7 ?_);exact JY ⟨rfl,rfl,(congrArg (λb=>some (ah .i64 b)) (by unfold DR;rw[hb22];rfl)),trivial⟩ QIM λ_ h=>h.1.1.1.1.1
 simp only[aa,ab];refine wA 6 I ?_;refine QR I (λhc=>?_) λhc=>?_
 ·have h33:=bne_iff_ne.1 hc;refine wA 7 I ?_;exact QJO I I (congrArg (ah .i64) (by show By nl (rl.map λe=>YG e.2) sl=DR nn nr ns;rw[xa (by rw[ae,hnl,hrl,hsl];exact h33),ae,hnl,hrl,hsl])) w8
 have h33:=bne_eq_false_iff_eq.1 hc;have h0:DR nl.length (rl.map λe=>YG e.2).length sl.length=0:=by rw[ae,hnl,hrl,hsl];exact h33
 obtain⟨hq1,hq2,hq3,hq4⟩:=Tr h33;refine QJL 5 I<|QA (QH I Hl VG)<|QA (Qf I VG .u1 .h1)<|QA (Qh I Ku)<|QJK 4 I<|XK (ι:=ZO (aE nl.length) (EI nl)) [(1,_),(3,_),(36,_),(37,_)] (λi=>[(38,.int .i64 ((i.i:Nat):Int))]) (λi=>nl.length-i.i) (ZO.start _ _) wV wS λi=>?_
 simp only[aa,ab];have hi:=i.le;rw[au]at hi;refine wA 6 I ?_;refine QR I (λhc=>?_) λhc=>?_
 ·have hlt:i.i<nl.length:=wk<|QJG hc
  refine QJL 7 I<|QA (Q3 (n:=nn) i.i (λF h9=>h9.2.nm) rfl rfl Ku Dq O)<|QA (Q5 (n:=nn) ((i.i)*1) (λF h9=>h9.2.nm) O rfl Dq (XL (f:=tx) (l:=nl) O))<|QJK 5 I<|JH QIM mixed wm<|QK (QD I)<|QP I (λ_ _ f k=>pZ f (ht.nt _ (Qv hlt))) λ_=>QK (XB I)<|QP I (λ_ _ f k=>Bh f ) λ_=>QK (QH I Hl VG)<|QK (Qf I VG .u1 .h1)<|QK (QD I)<|QK (NV i.i I I I Ku Dq (by have:=ht.nc;dsimp only at this;omega))<|QK (QD I)<|QP I (λ_ _ f k=>F8 f (Qx.QCL (l:=nl) k.1.1.2.nm hnl hi) (by rw[bB];omega) O) λ_=>?_
  refine QP I (λ_ _ f k=>Bh f ) (λ_=>?_);refine Qp I (Q4 ZJ) YV Hz I I (λb54=>?_) (λw h=>h.imp tC λF h=>h.1.1.1.1);refine QP I (λ_ _ f k=>ET f (Qx.of (cs:=aT Jr [_,_]) k.2 I) wu) (λ_=>QK (QF I)<|Q7<|QJM 7 I ?_);refine QR I (λhc=>?_) λhc=>?_
  ·have h57:=bne_iff_ne.1 hc;refine wA 7 I ?_
   repeat first|refine Q6 ?_|refine Qy ?_
   exact QJO I I (congrArg (ah .i64) (by show By nl (rl.map λe=>YG e.2) sl=_;rw[LN h0];have h9:=i.hit (by rw[au];exact hlt) (by rw[ZD hlt];exact h57);rw[ZD hlt]at h9;rw[show DW nl=EI nl i.i from h9,Zl (show EI nl i.i≠0 from h57)];rfl)) w8
  have h57:=bne_eq_false_iff_eq.1 hc;refine QO<|Qk<|QC<|QB<|QA (Qw I I O)<|wB 2 I ?_
  exact Qm (i.next (by rw[au];exact hlt) (by rw[ZD hlt];exact h57)) (by show nl.length-(i.i+1)<nl.length-i.i;omega) wW QIM λF h=>h.1.1.1.1.1.1
 have hge:nl.length<=i.i:=wk<|QJH hc
 refine Qz ?_
 repeat first|refine QZ ?_|refine QQ wy ?_
 refine Qa<|QC<|QG<|Eu (b:=b3) .here<|JH QIM mixed wm<|QK (QH I WZ Yx)<|QK (Qf I Yx .here (.skip .h1))<|QK (K5 I)<|QP I (λw F g k=>Fl (f:=132) (fE:=λe=>Za (YG e.2) (nn:Int)) (c1:=[]) (c2:=[.pointer (some ⟨b3,0,none⟩)]) (G0:=λF=>JE F/\Ii F rl/\F b3=some (#[.int .i64 (nn:Int)],3)) g (λF F' hle h=>⟨h.1.le hle,h.2.1.le hle,hle _ _ h.2.2⟩) ⟨k.1.1,k.1.2.pl,k.2⟩ k.1.2.rt hrl O λe he w F g h=>UZ g h.1 h.2.2 (h.2.1 e he).1 (h.2.1 e he).2 (ht.tm e he) O) λ_=>QK (QH I YL JZ)<|QK (Qf I JZ .here (.skip (.skip .h1)))<|QP I (λw F g k=>Fk (f:=62) (fE:=λs=>XX s.1 s.2) (c1:=[]) (c2:=[]) (G0:=λF=>JE F) g (λF F' hle h=>h.le hle) k.1.1.1 k.1.1.2.st hsl O λe he w F g h=>Wr g h (ht.st e he)) λ_=>?_
 refine Qp I (Q4 ZJ) YV Hz I I (λb67=>?_) (λw h=>h.imp tC λF h=>h.1.1);refine QP I (λ_ _ f k=>ET f (Qx.of (cs:=aT Jr [_,_]) k.2 I) wu) (λ_=>QK (QF I)<|Q7<|QC<|QY ?_);exact QJO I I (congrArg (ah .i64) (by show By nl (rl.map λe=>YG e.2) sl=_;rw[LN h0];have h9:=i.stop (by rw[au];exact hge);rw[show DW nl=0 from h9,Zm,aY,hnl];rfl)) w8
theorem Fj(i:Nat):0<ZU i:=by
 unfold ZU;exact Rat.pow_pos wv
theorem kE(x:Rat)(i:Nat):x/ZU i*ZU i=x:=by
 rw[bX,bS,Rat.inv_mul_cancel _ (N3 i),bN]
theorem FC(x:Rat)(i:Nat):x*ZU i/ZU i=x:=by
 rw[bX,bS,Rat.mul_inv_cancel _ (N3 i),bN]
theorem Da(x:Rat)(i:Nat):0<=x-YK x i/\x-YK x i<ZU i:=by
 have h0:=kE x i;have hp:=Fj i;unfold YK;generalize x/ZU i=t at h0 ⊢;generalize ZU i=g at h0 hp ⊢;have h1:=Rat.floor_le t;have h2:=Rat.lt_floor_add_one t;rw[Rat.intCast_add]at h2;generalize ((t.floor:Int):Rat)=k at h1 h2 ⊢;have:((1:Int):Rat)=1:=rfl;rw[this]at h2;have e2:t-k<1:=by grind
 have m1:=Rat.mul_le_mul_of_nonneg_right h1 (bK hp);have m2:=Rat.mul_lt_mul_of_pos_right e2 hp;subst h0;constructor<;>grind
theorem Ta(y:Rat)(i:Nat):0<=-YK (-y) i-y/\-YK (-y) i-y<ZU i:=by
 have:=Da (-y) i;constructor<;>grind
theorem QBB{x y:Rat}(h:x<=y)(i:Nat):YK x i<=-YK (-y) i:=by
 have h1:=(Da x i).1;have h2:=(Ta y i).1
 grind
section
variable{w:World}{F:Gs}
theorem TN{x:Rat}{b:Int}(hx:JU x<=k)(hb:b<=64):JU (ax (x*((two b:Int):Rat)).floor (two b))<=k+140:=by
 have h1:=Yt x ((two b:Int):Rat);have h2:=Gh (two b);have h3:=xX hb;have h4:=P0 (x*((two b:Int):Rat));have h5:=xV (n:=(x*((two b:Int):Rat)).floor) (b:=b) (k:=k+129) O hb;omega
end
theorem EG(h:XN a k)(hb:b<=64):XN (Z7 a b) (k+140):=by
 refine⟨TN h.1 hb,?_⟩;have h2:=TN (x:=-a.2) (b:=b) (k:=k) (by rw[Vk];exact h.2) hb;have e:(Z7 a b).2 = -(ax (-a.2*((two b:Int):Rat)).floor (two b)):=by
  unfold Z7;dsimp only;rw[Rat.neg_mul,<-Rat.neg_divInt]
 rw[e,Vk];exact h2
theorem Fb{c:Rat×Rat}(h:XN a k)(h':XN c k):XN (XA a c) k:=⟨Px h.1 h'.1,Py h.2 h'.2⟩
theorem FI{f:Rat×Rat->Rat×Rat->Rat×Rat}{a b:List (Rat×Rat)}{P:Rat×Rat->Prop}(h:∀i,i<a.length->P (f (el a i) (el b i))):∀x∈DK f a b,P x:=λx hx=>by
 obtain⟨i,hi,rfl⟩:=List.mem_map.1 hx;exact h i (List.mem_range.1 hi)
theorem EM(f:Rat×Rat->Rat×Rat->Rat×Rat)(a b:List (Rat×Rat)):(DK f a b).length=a.length:=by simp[DK]
theorem Z3(rs:List (List Tm))(fr t2:Rat)(x on:List (Rat×Rat)):(Z4 rs fr t2 x on).length=x.length:=by simp[Z4]
theorem yu(b:Int)(hb:0<=b/\b<=64):JU (((two b:Int):Rat))⁻¹<=200:=by
 have h0:((two b:Int):Rat).num≠0:=To b;refine aV (Nn h0) ?_;rw[<-BX];have h1:=Wj (((2:Int):Rat)) b.toNat;have h2:JU (((2:Int):Rat))<=2:=wu;have h3:b.toNat*JU (((2:Int):Rat))<=64*2:=aU O h2;omega
theorem xG{c:Rat×Rat}(h:XN a 2000000)(h':XN c 2000000)(hb:0<=b/\b<=64):XN (SU b a c) 9000000:=by
 have hz:=Fb h h';have z1:=hz.1;have z2:=hz.2;have s1:=Hp (XA a c).2 (XA a c).1;have s2:=Yt ((XA a c).2-(XA a c).1) (ax 1 4);have s3:JU (ax 1 4)<=4:=wu;have s4:=yu b hb;have s5:=KW (((XA a c).2-(XA a c).1)*ax 1 4) (((two b:Int):Rat))⁻¹;have s6:=Hp (XA a c).1 (((XA a c).2-(XA a c).1)*ax 1 4+(((two b:Int):Rat))⁻¹);have s7:=KW (XA a c).2 (((XA a c).2-(XA a c).1)*ax 1 4+(((two b:Int):Rat))⁻¹);exact(EG (k:=7000000) ⟨by show JU ((XA a c).1-_)<=_;omega,by show JU ((XA a c).2+_)<=_;omega⟩ hb.2).mono wu
structure OP(rs:List (List Tm))(fr t2:Rat)(x:List (Rat×Rat)):Prop where
 x0:∀a∈x,XN a 2000000
 m0:jv rs fr t2 x x
 s0:∀a∈Z4 rs fr t2 x x,XN a 2000000
 m1:∀v,v.length=x.length->(∀a∈v,XN a 2400)->jv rs fr t2 x v
 s1:∀v,v.length=x.length->(∀a∈v,XN a 2400)->∀a∈Z4 rs fr t2 x v,XN a 2000000
theorem DY{v:List (Rat×Rat)}(h:¬Jv v=true):∀a∈v,XN a 2400:=λa ha=>by
 have h1:(Jt a.1||Jt a.2)=false:=by
  cases e:(Jt a.1||Jt a.2)with
  |false=>rfl
  |true=>exact absurd (by unfold Jv;exact List.any_eq_true.2 ⟨a,ha,e⟩) h
 rw[Bool.or_eq_false_iff]at h1;exact⟨Gg h1.1,Gg h1.2⟩
structure TrI(rs:List (List Tm))(fr t2:Rat)(x:List (Rat×Rat))(b:Int) where
 j:Nat
 c:Sr×List Ys
 vs:List (Rat×Rat)
 le:j<=12
 h:Yq rs fr t2 x b=D1 rs fr t2 x b (12-j) vs
 len:vs.length=x.length
 sz:∀a∈vs,XN a 10000000
def trV(o:Option (List (Rat×Rat)))(c:Sr×List Ys):Value:=.tuple #[c.1.v,.bool o.isSome]
def trF(F:Gs)(o:Option (List (Rat×Rat)))(c:Sr×List Ys):Prop:=match o with
 |none=>c.1=⟨none,0,0⟩
 |some l=>J7 F c.1 c.2 l
theorem Ob{y:jq}{x:js}{rs:List (List Tm)}{vs vx:List (Rat×Rat)}(hF:Fits F w)(hGl:JE F)(hy:GX F y rs vs)(hx:Mg F x fr t2 vx)(hn:y.rt.n=x.bx.n)(hnx:x.bx.n<=100000)(hn0:0<x.bx.n)(hpn:∀e∈y.ps,e.1.n<=1000000)(hb:0<=b/\b<=64)(ho:OP rs fr t2 vx):
  QV prog 106 [.pointer (some ⟨y.b,0,none⟩),x.v,.int .i64 b] w F (trV (Yq rs fr t2 vx b)) (λc F=>trF F (Yq rs fr t2 vx b) c):=by
 have hxl2:=hx.bx.YH;have hne:((((2:Int):Rat))^b.toNat).num≠0:=by rw[BX];exact To b
 refine QV.intro (G:=λF=>JE F/\GX F y rs vs/\Mg F x fr t2 vx) func106 rfl wy rfl rfl hF (λF' hF'=>⟨hGl.le hF',hy.le hF',hx.le hF'⟩)<|QI7<|Qs rfl (vs:=[_,_,_,_,_,_,_,_,_]) rfl λb4=>Qs rfl (vs:=[_]) rfl λb5=>QH1 rfl<|wQ rfl<|uV<|QG<|Kr (r:=[0,1,2,3,4,5]) tF mixed wm rfl<|Jl 1 wm rfl rfl<|QK (Qf rfl JO .here .h1)<|JB<|Kq (A:=[4]) (r:=[0,2,3,5]) wm<|XJ 0 wm wm wy tF w9 rfl rfl rfl (λ_=>rfl) (λ_ _ f k=>TO (n:=2) f wu wu) λc13=>XJ 2 wm wm wy tF tA rfl rfl rfl (λ_=>rfl) (λ_ _ f h=>MU (x:=c13) (r:=(((2:Int):Rat))) (k:=b) f h.2 hb.1 O (by have h2:JU (((2:Int):Rat))<=2:=wu;have h3:b.toNat*JU (((2:Int):Rat))<=64*2:=aU O h2;omega)) λc15=>XJ 3 wm wm wy tF (λ_ h=>h.1.1) rfl rfl rfl (λ_=>rfl) (λ_ _ f k=>L6 (x:=c15) (r:=(((2:Int):Rat))^b.toNat) f k.2 hne (by have h1:=Wj (((2:Int):Rat)) b.toNat;have h2:JU (((2:Int):Rat))<=2:=wu;have h3:b.toNat*JU (((2:Int):Rat))<=64*2:=aU O h2;omega)) λc16=>K9 4 (d:=8) (T:=118) wm wm wy tF (λ_ h=>h.1.1.1) wm wm Jy λb8=>Zw (vs:=[_,_,_,_]) 5 wm wm wy (.cons _ tF) (λ_ h=>h.1.1.1) rfl rfl (λ_=>rfl) (λ_=>rfl) rfl QN I .here tF .h4 wV ?_
 refine V4 ?_ wm;refine QC<|QG<|Eu (b:=b5) .u1<|JH QIM mixed wm<|QK (QH I Bj JF)<|QK (Qf I JF .u1 (.skip (.skip (.skip (.skip (.skip (.skip (.skip (.skip .h1)))))))))<|QK (QD I)<|QK (QJ (vs:=[_,_,_,_,_,_,_,_,_]) I H4 .u1 .h9 rfl)<|QK (QH I Bj JF)<|QK (Qf I JF .u1 (.skip (.skip (.skip (.skip (.skip (.skip (.skip (.skip .h1)))))))))<|QP I (λ_ _ f k=>MI f k.1.1.1.1.2.1 k.1.1.1.1.2.2 k.1.1.1.1.2.2.bx hn O O hpn ho.m0) λc23=>QK (K5 I)<|QP I (λw F u k=>EK (f:=172) (c1:=[]) (c2:=[.pointer (some ⟨b5,0,none⟩)]) (g:=λa c=>Z7 (XA a c) b) (G0:=(λF=>F b5=some (#[.int .i64 b],3))) u (λF F' hle h=>hle _ _ h) k.1.2 k.1.1.1.1.1.2.2.bx k.2 (by rw[<-k.2.YH,Z3,hxl2];exact aD _) O λi hi x1 y1 w F u hG hx1 hy1=>QAd u hx1 hy1 hG hb ((ho.x0 _ (Qv O)).mono wu) ((ho.s0 _ (Qv (by rw[Z3];omega))).mono wu)) λc25=>QK (QF I)<|Q7<|QC<|QG<|Eu (b:=b8) .here<|QB<|QA (K5 I)<|QJK 5 I ?_
 refine wQ I<|QG<|uW<|QJM 8 I<|JV (ι:=TrI rs fr t2 vx b) [(0,_),(4,_),(5,_),(10,_)] (λi=>[(9,.slice i.c.1.q i.c.1.n i.c.1.cap),(11,.slice none 0 0),(27,.int .i64 ((i.j:Nat):Int))]) (λi=>[(b4,.cells (gk x).toArray 131 (0,0))]) (λi F=>J7 F i.c.1 i.c.2 i.vs) (λi=>12-i.j) (⟨0,c25,_,ao _,rfl,by rw[EM],FI λi hi=>(EG (Fb (ho.x0 _ (Qv hi)) (ho.s0 _ (Qv (by rw[Z3];exact hi)))) hb.2).mono wu⟩) wV wU QIM (λ_ h=>h.1.2) λi=>?_
 simp only[aa,ab];have hi:=i.le;refine XS _ (λ_ _ f h=>ar h.2.len (ar h.2.YH h.2.val)) (λhvp=>?_);obtain⟨hvl,hvv,hval⟩:=hvp;have hVm:∀e∈i.c.2,e.2∈i.vs:=λe he=>by rw[<-hval];exact aj (f:=λe:Ys=>e.2) he
 have hany:(i.c.2.any λe:Ys=>Jt e.2.1||Jt e.2.2)=Jv i.vs:=by unfold Jv;rw[<-hval,List.any_map];simp only[Function.comp_def]
 refine wA 6 I ?_;refine QR I (λhc=>?_) λhc=>?_
 ·have hlt:i.j<12:=wk<|QJG hc
  refine QJL 8 I<|QI I (λw F g k=>kO (f:=141) (c1:=[]) (c2:=[]) (p:=λe:Ys=>Jt e.2.1||Jt e.2.2) (G0:=λF=>JE F/\Z9 F i.c.2) g (λF F' hle h=>⟨h.1.le hle,λe he=>(h.2 e he).le hle⟩) ⟨k.1.1.1.1.1.1.1.1.1,k.2.sp⟩ k.2.row k.2.len (by rw[<-k.2.YH,i.len,hxl2];omega) λe he w F g hG=>Fy g hG.1 (hG.2 e he) ((i.sz _ (hVm _ he)).mono wu)) λ_=>QE<|QC ?_
  refine QR I (λhc=>?_) λhc=>?_
  ·have hlg:Jv i.vs=true:=by rw[<-hany];exact hc
   have hpic:Yq rs fr t2 vx b=none:=by rw[i.h,show 12-i.j=(12-(i.j+1))+1 by omega];unfold D1;rw[if_pos hlg]
   refine Qz ?_
   repeat first|refine QZ ?_|refine QQ wy ?_
   refine Qa<|QJM 5 I<|QA (RE I I JL)<|QJK 5 I<|QCH ?_
   exact Jd ((⟨none,0,0⟩,[])) I (wO I I) (by unfold trV;rw[hpic];rfl) λF _=>by rw[hpic];rfl
  have hlg:¬Jv i.vs=true:=by rw[<-hany,hc];decide
  have hsm:=DY hlg;refine QJL 5 I<|QA (QJ (vs:=[_,_,_,_,_,_,_,_,_]) I H4 .here .h9 rfl)<|QH0 I<|QI I (λ_ _ f k=>MI f k.1.1.1.1.1.1.1.1.1.2.1 k.1.1.1.1.1.1.1.1.1.2.2 k.1.2 hn (by rw[<-k.1.2.YH,i.len,hxl2];omega) O hpn (ho.m1 _ i.len hsm)) λc34=>JM _ (λ_ _ f h=>h.2.YH) λh34v=>QJK 8 I<|QI I (λ_ _ f k=>TT f k.2 k.1.1.2 (by rw[<-k.2.YH,<-k.1.1.2.YH,Z3,i.len];exact aD _) (by rw[<-k.2.YH,Z3];omega) (λa ha=>(ho.s1 _ i.len hsm a ha).mono wu) λa ha=>(i.sz a ha).mono wu) λ_=>QE<|QC ?_
  refine QR I (λhc=>?_) λhc=>?_
  ·have hpic:Yq rs fr t2 vx b=some ((Z4 rs fr t2 vx i.vs).map λa=>Z7 a b):=by rw[i.h,show 12-i.j=(12-(i.j+1))+1 by omega];unfold D1;rw[if_neg hlg,if_pos hc]
   refine wA 4 I<|QA (K5 I)<|QI I (λw F u k=>EK (f:=177) (c1:=[]) (c2:=[.pointer (some ⟨b5,0,none⟩)]) (g:=λa _=>Z7 a b) (G0:=(λF=>F b5=some (#[.int .i64 b],3))) u (λF F' hle h=>hle _ _ h) k.1.1.1.1.1.1.1.2 k.1.2 k.1.2 (aD _) (by rw[<-k.1.2.YH,Z3];omega) λi2 hi x1 y1 w F u hG hx1 hy1=>QAb u hx1 hG hb ((ho.s1 _ i.len hsm _ (Qv O)).mono wu)) λc41=>wQ I<|Qz ?_
   repeat first|refine QZ ?_|refine QQ wy ?_
   refine Qa<|QC<|wR rfl<|QH0 rfl<|QA (RE rfl rfl JL)<|QH1 rfl<|wQ rfl<|QY<|QCH<|QCG _ (λw F hF ⟨⟨⟨⟨⟨⟨⟨⟨⟨⟨⟨⟨⟨hGl,hY,hX⟩,h13⟩,h15⟩,h16⟩,hz5⟩,h23⟩,h25⟩,hz8⟩,hV⟩,_⟩,h34⟩,_⟩,h41⟩=>ar h41.YH (h41.row.ptr (by rw[<-h41.YH,EM,Z3];omega))) λhq41=>?_
   obtain⟨_,qb,qo,hq41⟩:=hq41;exact Jd (c41) rfl (wO I I) (by unfold trV;rw[hpic,hq41];rfl) λF h9=>by rw[hpic];have h:=h9.2;rw[FH]at h;exact h
  have hstep:Yq rs fr t2 vx b=D1 rs fr t2 vx b (12-(i.j+1)) (DK (SU b) i.vs (Z4 rs fr t2 vx i.vs)):=by
   rw[i.h,show 12-i.j=(12-(i.j+1))+1 by omega]
   conv=>lhs;unfold D1
   rw[if_neg hlg,if_neg (by rw[hc];decide)]
  refine QJL 6 I<|QI I (λw F u k=>EK (f:=175) (c1:=[]) (c2:=[.pointer (some ⟨b8,0,none⟩),.pointer (some ⟨b5,0,none⟩)]) (g:=SU b) (G0:=(λF=>F b8=some ((Kl c16).toArray,118)/\JN F c16 (((two b:Int):Rat))⁻¹/\F b5=some (#[.int .i64 b],3))) u (λF F' hle h=>⟨hle _ _ h.1,h.2.1.le hle,hle _ _ h.2.2⟩) ⟨k.1.1.1.1.2,(by rw[<-BX];exact k.1.1.1.1.1.1.1.1.2),k.1.1.1.1.1.1.1.2⟩ k.1.1.1.2 k.1.2 (by rw[<-k.1.2.YH,<-k.1.1.1.2.YH,Z3,i.len];exact aD _) (by rw[<-k.1.1.1.2.YH,i.len];omega) λi2 hi x1 y1 w F u hG hx1 hy1=>QAc u hx1 hy1 hG.1 hG.2.1 hG.2.2 hb ((hsm _ (Qv (by rw[hvv];exact hi))).mono wu) (ho.s1 _ i.len hsm _ (Qv (by rw[Z3,<-i.len,hvv];exact hi)))) λc45=>wB 2 I<|Qk<|QC<|QB<|QA (Qw I I O)<|wB 2 I ?_
  exact Qm (⟨i.j+1,c45,DK (SU b) i.vs (Z4 rs fr t2 vx i.vs),hlt,hstep,by rw[EM,i.len],FI λk hk=>(xG ((hsm _ (Qv hk)).mono wu) (ho.s1 _ i.len hsm _ (Qv (by rw[Z3,<-i.len];exact hk))) hb).mono wu⟩) (by show 12-(i.j+1)<12-i.j;omega) wY QIM λF ⟨⟨⟨⟨⟨⟨⟨⟨⟨⟨⟨⟨⟨hGl,hY,hX⟩,h13⟩,h15⟩,h16⟩,hz5⟩,h23⟩,h25⟩,hz8⟩,hV⟩,_⟩,h34⟩,_⟩,h45⟩=>⟨⟨⟨⟨⟨⟨⟨⟨⟨hGl,hY,hX⟩,h13⟩,h15⟩,h16⟩,hz5⟩,h23⟩,h25⟩,hz8⟩,h45⟩
 have hge:i.j=12:=wk<|QJH hc
 have hpic:Yq rs fr t2 vx b=none:=by rw[i.h,hge];rfl
 refine Qz ?_
 repeat first|refine QZ ?_|refine QQ wy ?_
 refine Qa<|QJM 5 I<|QA (RE I I JL)<|QJK 5 I<|QCH ?_
 exact Jd ((⟨none,0,0⟩,[])) I (wO I I) (by unfold trV;rw[hpic];rfl) λF _=>by rw[hpic];rfl
theorem Qx.pre{b sz:Nat}{cs:List Value}(h:F b=some ((cs++rest).toArray,T))(hl:cs.length=n*sz):Qx F (some ⟨b,0,none⟩) n sz cs :=
 ⟨hl,λ_=>⟨b,0,_,T,rfl,h,λj u hu=>by
  have hj:j<cs.length:=by rcases bw j cs.length with g | g;exact g;rw[bc g]at hu;cases hu
  rw[ay,ag,bD hj];exact hu⟩⟩
theorem QAO{bk:Nat}{es:List VB}{v:List (List (Rat×Rat))}(hbk:F bk=some ((es.map (VB.sl k)).toArray,125))(hes:∀e∈es,F e.b=some ((Xi e.l++e.rest).toArray,120))(hE:∀e∈es,Z9 F e.l)(hl:es.length=n)(ok:∀e∈es,e.Ok k)(hq:es.map (λe=>e.l.map (·.2))=v):
  Qx F (some ⟨bk,0,none⟩) n 1 ((es.map λe=>((⟨some ⟨e.b,0,none⟩,k,e.c⟩:Sr),e.l)).map λe=>e.1.v)/\Ih F (es.map λe=>((⟨some ⟨e.b,0,none⟩,k,e.c⟩:Sr),e.l))/\(es.map λe=>((⟨some ⟨e.b,0,none⟩,k,e.c⟩:Sr),e.l)).map (λe=>e.2.map (·.2))=v/\(es.map λe=>((⟨some ⟨e.b,0,none⟩,k,e.c⟩:Sr),e.l)).length=n/\n<=n:=by
 refine⟨?_,λx hx=>?_,by rw[aY];exact hq,by rw[ae,hl],aD _⟩
 ·rw[aY];exact Qx.of hbk (by rw[ae,hl,bY])
 obtain⟨e,he,rfl⟩:=List.mem_map.1 hx;exact⟨Qx.pre (hes e he) (by rw[GI,(ok e he).hl]),hE e he,rfl,(ok e he).hl,(ok e he).hc⟩
theorem Uj{l:List Ys}(h:l.map (·.2)=(aE n).map f)(hi:i<n):(el l i).2=f i:=by
 have hl:l.length=n:=by have:=congrArg bh h;simpa using this
 have h1:el (l.map (·.2)) i=f i:=by rw[h,Yj _ hi]
 rw[JW (by rw[ae];omega),aL]at h1;rw[JW (show i<l.length by omega)];exact h1
theorem Ai{N:Nat}{m:Sl}{p1:Tmp}{assign body:Code}{r:Loop}(h:k6 N m #[p1] assign body r)(v1:Value)(h1:p1<N):Ja (df:=DI) N ((p1,v1)::m) (Tx r #[v1]):=by
 have e:Tx r #[v1]=(({ tmps:=r.tmps,defers:=[] }:Act).put (some p1) v1):=by
  unfold Tx;rw[h.params];simp[Act.put]
 rw[e];exact h.QDo.put (d:=some p1) (by simpa[J5]using h1) v1
theorem Pv{y:jq}{x:Sp}{rs:List (List Tm)}{vs:List (Rat×Rat)}{t:Rat×Rat}{n:Nat}(hF:Fits F w)(hy:GX F y rs vs)(hx:Ji F x t)(hb:J7 F rb lb vb)(hn:y.rt.n=rb.n)(hnb:rb.n<=1000)(hn0:0<rb.n)(hor:n<=999)(hpn:∀e∈y.ps,e.1.n<=100000)(hok:SB rs t vb n):
  QV prog 66 [.pointer (some ⟨y.b,0,none⟩),x.v,rb.v,.int .i64 (n:Int)] w F (λ(c:Sr×List U6)=>c.1.v) (λc F=>Qx F c.1.q c.1.n 1 (c.2.map λe=>e.1.v)/\Ih F c.2/\c.2.map (λe=>e.2.map (·.2))=Jb rs t vb n/\c.2.length=c.1.n/\c.1.n<=c.1.cap):=by
 have hvb:=hb.YH;have hlb:=hb.len;have hrl:=hy.Kx;have hpl0:=hy.len;dsimp only[Sr.v];refine QV.QBk (G:=λF=>GX F y rs vs/\Ji F x t/\J7 F rb lb vb) func66 rfl wy rfl rfl hF (λF' hF'=>⟨hy.le hF',hx.le hF',hb.le hF'⟩)<|QI7<|Qs rfl (vs:=[_,_,_,_,_,_,_,_]) rfl λb5=>wQ rfl<|wR rfl<|QA (Qh rfl JL)<|Mq (n:=rb.n) (bytes:=24) rfl rfl W1 XG WB rfl QBz O O λbk=>wQ rfl<|QG<|wR rfl<|QA (Qh rfl JL)<|QH0 rfl<|QHz<|QW<|JV (ι:=TaJ vb) [(0,_),(2,_),(3,_),(5,_),(8,_),(9,_),(23,_),(24,_)] (λi=>[(25,.int .i64 ((i.i:Nat):Int))]) (λi=>(bk,.cells (i.es.map (VB.sl 1)++Xb [.slice none 0 0] (rb.n-i.i)).toArray 125 (0,0))::(b5,.cells (Xp x).toArray 120 (0,0))::i.M) (λi F=>∀e∈i.es,Z9 F e.l) (λi=>rb.n-i.i) (⟨0,[],[],rfl,ao _,rfl,(λ_ h=>by cases h),rfl⟩) wZ wS QIM (λ_ _ _ h=>by cases h) λi=>?_
 simp only[aa,ab];have hi:=i.le;refine wA 6 I ?_;refine QR I (λhc=>?_) λhc=>?_
 ·have hlt:i.i<rb.n:=wk<|QJG hc
  refine QJL 7 I<|QA (Q3 (n:=rb.n) i.i (λF h9=>h9.1.2.2.row) rfl rfl JL Qj O)<|QA (JK (n:=rb.n) (vs:=[.int .i64 (el lb i.i).1.lo.n.s,.slice (el lb i.i).1.lo.n.q (el lb i.i).1.lo.n.n (el lb i.i).1.lo.n.cap,.int .i64 (el lb i.i).1.lo.d.s,.slice (el lb i.i).1.lo.d.q (el lb i.i).1.lo.d.n (el lb i.i).1.lo.d.cap,.int .i64 (el lb i.i).1.hi.n.s,.slice (el lb i.i).1.hi.n.q (el lb i.i).1.hi.n.n (el lb i.i).1.hi.n.cap,.int .i64 (el lb i.i).1.hi.d.s,.slice (el lb i.i).1.hi.d.q (el lb i.i).1.hi.d.n (el lb i.i).1.hi.d.cap]) ((i.i)*8) (λF h9=>h9.1.2.2.row) O rfl Qj I λj v hv=>JQ (f:=(λe=>Xp e.1)) (l:=lb) (λ_=>rfl) O hv)<|Qc Jh λb11=>QH1 I<|QU (vs:=[_,_,_,_,_,_,_,_]) I I I Qj I .here .h8 wZ<|QJK 5 I<|QA (wK I Qj .here)<|VF I (Q4 JL) Qj Jh I I λb33=>QA (JJ (i:=i.i) rfl rfl W1 XG O)<|QA (QH I Xh JF)<|QU (vs:=[.slice (some ⟨b33,0,none⟩) 1 1]) I I I JF I .u2 (zT (by rw[ae,i.len]) O) wS<|QE<|Qk<|QC ?_
  refine QB<|QA (Qw I I O)<|wB 2 I<|OV (List.perm_append_singleton _ _).symm ?_
  exact Qm (⟨i.i+1,i.es++[⟨b33,1,[(( el lb i.i).1,el vb i.i)],[]⟩],i.M++[_],by rw[i.hM,ak];rfl,O,by rw[aF,i.len];rfl,λe he=>by
     rcases List.mem_append.1 he with he | he
     ·exact i.ok e he
     ·rw[List.mem_singleton.1 he];exact⟨rfl,rfl,aD _,by show 1<=maxLen;decide⟩,by rw[ak,i.hq,XU (show i.i<vb.length by omega),ak];rfl⟩) (by show rb.n-(i.i+1)<rb.n-i.i;omega) we (.cons _ (by rw[ak];exact aQ _)) (λF ⟨⟨hY,hT,hB⟩,hE⟩=>⟨⟨hY,hT,hB⟩,λe he=>by
     rcases List.mem_append.1 he with he | he
     ·exact hE e he
     rw[List.mem_singleton.1 he];intro e2 he2;rw[List.mem_singleton.1 he2];exact hB.at hlt⟩)
 have hge:i.i=rb.n:=wk<|QJH hc
 refine Qz ?_
 repeat first|refine QZ ?_|refine QQ wy ?_
 refine Qa<|QJM 9 I<|IV (ι:=TkJ rs t vb n) (λi2=>K1 i2.Ds) [(0,_),(2,_),(5,_),(8,_),(9,_),(37,_)] (λi2=>[(38,.int .i64 ((i2.k:Nat):Int))]) (λi2=>(bk,.cells (i2.es.map (VB.sl (i2.k+1))).toArray 125 (0,0))::(b5,.cells (Xp x).toArray 120 (0,0))::(i2.M++cq i2.Ds)) (λi2 F=>∀e∈i2.es,Z9 F e.l) (λi2=>n-i2.k) (⟨0,i.es,i.M,[],i.hM,ao _,by rw[i.len];omega,i.ok,by rw[i.hq,hge,<-hvb,aP];rfl⟩) I wX wS ((by show List.Sublist (_::_::(i.M++[])) _;rw[aK,show rb.n-i.i=0 by omega];simp only[Xb,aK];exact aQ _)) tB λi2=>?_
 letI:Df:=K1 i2.Ds;simp only[aa,ab];have hk:=i2.le;have hlen2:=i2.len;refine wA 6 I ?_;refine QR I (λhc=>?_) λhc=>?_
 ·have hk2:i2.k<n:=wk<|QJG hc
  refine QJL 12 I<|QI I (λ_ _ f k=>TO (n:=0) f wu wu) λc41=>QH0 I<|XW I (bz _) (Rv (x:=c41) (a:=((0:Int):Rat)) (n:=i2.k) tB O) λc43=>?_
  obtain⟨e43,hl43,ok43,hv43,hob43⟩:=zw c43.hr O;rw[hv43,hob43];rw[bM];refine Qc WB (λb13=>QU (vs:=[_]) I I I XG I .here .h1 wS<|QHz<|QI7<|QA (QH I Xh JF)<|QA (Qf I JF .here .h1)<|QA (wK I Qj .u3)<|QA (JJ (i:=0) rfl rfl JL Qj O)<|QU (vs:=Xp x) rfl rfl rfl Qj I .u1 (zU (i:=0) (by rw[ok43.hl];omega) x t) wZ<|QE<|QC ?_);refine Iy (ι:=List Ys) [(0,_),(2,_),(5,_),(8,_),(9,_),(12,_),(13,_),(37,_),(38,_)] (λlt=>[]) (λlt=>(b13,.cells [.slice (some ⟨e43.b,0,none⟩) (i2.k+1) e43.c].toArray 125 (0,0))::(e43.b,.cells (Xi lt++e43.rest).toArray 120 (0,0))::(bk,.cells (i2.es.map (VB.sl (i2.k+1))).toArray 125 (0,0))::(b5,.cells (Xp x).toArray 120 (0,0))::(i2.M++cq i2.Ds)) (λlt F=>Z9 F lt/\lt.map (·.2)=Zy t i2.k/\lt.length=i2.k+1) we ?_ ?_
  ·refine wA 6 I ?_;refine QR I (λhc=>?_) λhc=>?_
   ·have hkp:0<i2.k:=wk<|QJG hc
    refine JH (.cons_cons _ (.cons _ tF)) mixed wm<|QK (QH I Xh JF)<|QK (Qf I JF .here .h1)<|QP I (λ_ _ f k=>TO (n:=1) f wu wu) λc52=>QP I (λ_ _ f k=>Kd (x:=c52) (r:=((1:Int):Rat)) f k.2) λc53=>QK (JJ (i:=1) rfl rfl JL Qj O)<|JR (vs:=Xp c53) rfl rfl rfl Qj I .u1 tG (λ_ h=>h.1.1) (zU (i:=1) (by rw[aZ,ok43.hl];omega) c53 (((1:Int):Rat),((1:Int):Rat))) wZ<|Q7 ?_
    exact Zd ((e43.l.set 0 (x,t)).set 1 (c53,(((1:Int):Rat),((1:Int):Rat)))) we QIM λF ⟨⟨⟨⟨⟨⟨⟨hY,hT,hB⟩,hE⟩,hE2⟩,h41⟩,h43⟩,h52⟩,h53⟩=>⟨⟨⟨⟨⟨⟨hY,hT,hB⟩,hE⟩,hE2⟩,h41⟩,h43⟩,⟨Z9.set (Z9.set (by rw[hl43];exact h43) hT) h53,by rw[bH,bH,hl43,c43.hl,Ul];exact uH t O,by rw[aZ,aZ,ok43.hl]⟩⟩
   have hkp:¬0<i2.k:=wk<|QJH hc
   refine QO ?_;exact Zd (e43.l.set 0 (x,t)) we QIM λF ⟨⟨⟨⟨⟨hY,hT,hB⟩,hE⟩,hE2⟩,h41⟩,h43⟩=>⟨⟨⟨⟨⟨⟨hY,hT,hB⟩,hE⟩,hE2⟩,h41⟩,h43⟩,⟨Z9.set (by rw[hl43];exact h43) hT,by rw[bH,hl43,c43.hl,Ul,show i2.k=0 by omega];exact kT t,by rw[aZ,ok43.hl]⟩⟩
  intro lt;simp only[aa,ab];refine XS _ (λ_ _ f h=>h.2.2) (λhlt2p=>?_);obtain⟨hltq,hlt2⟩:=hlt2p;refine wR I<|QA (Qh I JL)<|Mq (n:=rb.n) (bytes:=128) rfl rfl JL Qj Jh I WS O O λbn=>QJK 7 I<|QA (ZY I)<|QA (QH I Bi YJ)<|QA (Zr (c:=#[y.rt.v,y.st.v]) (T':=151) rfl YJ (λF h9=>h9.1.1.1.1.1.1.Hy) rfl)<|QA (Qh I YW)<|QJK 4 I<|IV (ι:=TrJ (nxQ rs t vb i2.k) rb.n) (λi3=>K1 i3.Ds) [(0,_),(2,_),(5,_),(8,_),(9,_),(12,_),(13,_),(14,_),(37,_),(38,_),(61,_),(62,_)] (λi3=>[(63,.int .i64 ((i3.i:Nat):Int))]) (λi3=>(bn,.cells (Xi i3.nx++Xb [.int .i64 0,.slice none 0 0,.int .i64 0,.slice none 0 0,.int .i64 0,.slice none 0 0,.int .i64 0,.slice none 0 0] (rb.n-i3.i)).toArray 120 (0,0))::(b13,.cells [.slice (some ⟨e43.b,0,none⟩) (i2.k+1) e43.c].toArray 125 (0,0))::(e43.b,.cells (Xi lt++e43.rest).toArray 120 (0,0))::(bk,.cells (i2.es.map (VB.sl (i2.k+1))).toArray 125 (0,0))::(b5,.cells (Xp x).toArray 120 (0,0))::(i2.M++cq i3.Ds)) (λi3 F=>Z9 F i3.nx) (λi3=>rb.n-i3.i) (⟨0,[],i2.Ds,ao _,rfl,rfl⟩) I wj wS QIM (λ_ _=>Z9.nil _) λi3=>?_
  letI:Df:=K1 i3.Ds;simp only[aa,ab];have hi3l:=i3.le;refine wA 6 I ?_;refine QR I (λhc=>?_) λhc=>?_
  ·have hi3':i3.i<y.rt.n:=wk<|QJG hc
   have hi3:i3.i<rs.length:=O;have hem:=Qv (show i3.i<y.ps.length by omega);obtain⟨pp,hpp⟩:∃pp,pp=el y.ps i3.i:=⟨_,rfl⟩;have hpp1:=hpn _ hem;rw[<-hpp]at hpp1;have hall:(((⟨e43.b,e43.c,lt⟩:VL)::(i2.es.map VB.vl)).map VL.q)=(Zy t i2.k::Jb rs t vb i2.k):=by rw[aR,aY];show lt.map (·.2)::i2.es.map (λe=>e.l.map (·.2))=_;rw[hltq,i2.hq]
   have hto:=hok.tm _ hk2 _ hi3;refine XS _ (λw F hF ⟨⟨⟨⟨⟨⟨⟨hY,hT,hB⟩,hE⟩,hE2⟩,h41⟩,h43⟩,hLT⟩,hN⟩=>ar (hY.at hi3').2 (hY.at hi3').1.2.2.2.2) (λhY2=>?_);rw[<-hpp]at hY2;have hpe:J4 pp.2=el rs i3.i:=hY2.1;have hpl2:pp.2.length=pp.1.n:=hY2.2;rw[<-hpe]at hto;refine QJL 7 I<|QA (Q3 (n:=y.rt.n) (i3.i) (λF h9=>h9.1.1.1.1.1.1.1.row) rfl rfl YW YI O)<|QA (Q5 (n:=y.rt.n) ((i3.i)*1) (λF h9=>h9.1.1.1.1.1.1.1.row) O rfl YI (XL (f:=λe:WA=>e.1.v) (l:=y.ps) O))<|QJK 6 I<|QI I (λ_ _ f k=>TO (n:=0) f wu wu) λc68=>QH0 I<|QI I (λ_ _ f h=>Ru (x:=c68) (a:=((0:Int):Rat)) (n:=i2.k) f h.2 O) λc70=>Qc WB λb17=>QU (vs:=[_]) I I I XG I .here .h1 wS<|QJK 5 I ?_
   refine wB 2 I<|QA (QJ (vs:=[_]) I XG .u2 .h1 rfl)<|QH0 I<|QI I (λ_ _ f h=>gS (p:=el y.ps i3.i) (n:=i2.k) (v1:=.slice (some ⟨e43.b,0,none⟩) (i2.k+1) e43.c) (v2:=.slice (some ⟨bk,0,none⟩) rb.n rb.n) f ⟨rfl,rfl⟩ ⟨rfl,rfl⟩) λc75=>QHz<|QW<|QCC (λG hG=>?_)
   have hlsl:(i2.es.map VB.vl).length=rb.n:=by rw[ae];omega
   have hfacts:∀F,G F->(F c75.1=some (#[pp.1.v],172)/\F c75.2.1=some (#[.int .i64 (i2.k:Int)],3)/\F c75.2.2.1=some (#[.slice (some ⟨e43.b,0,none⟩) (i2.k+1) e43.c],125)/\F c75.2.2.2=some (#[.slice (some ⟨bk,0,none⟩) (i2.es.map VB.vl).length rb.n],110))/\XR F pp.1 pp.2 (J4 pp.2)/\∀e∈(⟨e43.b,e43.c,lt⟩:VL)::i2.es.map VB.vl,Z9 F e.l:=λF h=>by
    obtain⟨⟨⟨⟨⟨⟨⟨⟨⟨⟨hY,hT,hB⟩,hE⟩,hE2⟩,h41⟩,h43⟩,hLT⟩,hN⟩,h68⟩,h70⟩,h75⟩:=hG F h;rw[hpp,hlsl];exact⟨h75,(hY.at hi3').1,λe he=>by
     rcases List.mem_cons.1 he with rfl | he
     ·exact hLT.1
     obtain⟨e',he',rfl⟩:=List.mem_map.1 he;exact hE2 e' he'⟩
   have h70f:∀F,G F->J7 F c70.1 c70.2 (Hx 0 i2.k):=λF h=>by obtain⟨⟨⟨⟨⟨⟨⟨⟨⟨⟨hY,hT,hB⟩,hE⟩,hE2⟩,h41⟩,h43⟩,hLT⟩,hN⟩,h68⟩,h70⟩,h75⟩:=hG F h;exact h70
   refine Us (Ds:=i3.Ds) (ι:=TsS pp.2.length) (λs=>(b17,.cells [.slice s.y.1.q s.y.1.n s.y.1.cap].toArray 125 (0,0))::(bn,.cells (Xi i3.nx++Xb [.int .i64 0,.slice none 0 0,.int .i64 0,.slice none 0 0,.int .i64 0,.slice none 0 0,.int .i64 0,.slice none 0 0] (rb.n-i3.i)).toArray 120 (0,0))::(b13,.cells [.slice (some ⟨e43.b,0,none⟩) (i2.k+1) e43.c].toArray 125 (0,0))::(e43.b,.cells (Xi lt++e43.rest).toArray 120 (0,0))::(bk,.cells (i2.es.map (VB.sl (i2.k+1))).toArray 125 (0,0))::(b5,.cells (Xp x).toArray 120 (0,0))::(i2.M++cq i3.Ds)) (λs F=>J7 F s.y.1 s.y.2 (Kc ((J4 pp.2).take s.i) (Zy t i2.k::Jb rs t vb i2.k) i2.k)) (λs=>s.i=pp.2.length) rfl rfl (enters_of func196 wy rfl) (λL D r W hrec hW=>?_) λD s hs=>?_
   ·have hterms:=xR (ι:=TsS pp.2.length) (w0:=w) (F0:=F) (B:=λs=>(L,.loop r)::(D,.deferred (some []))::(b17,.cells [.slice s.y.1.q s.y.1.n s.y.1.cap].toArray 125 (0,0))::(bn,.cells (Xi i3.nx++Xb [.int .i64 0,.slice none 0 0,.int .i64 0,.slice none 0 0,.int .i64 0,.slice none 0 0,.int .i64 0,.slice none 0 0] (rb.n-i3.i)).toArray 120 (0,0))::(b13,.cells [.slice (some ⟨e43.b,0,none⟩) (i2.k+1) e43.c].toArray 125 (0,0))::(e43.b,.cells (Xi lt++e43.rest).toArray 120 (0,0))::(bk,.cells (i2.es.map (VB.sl (i2.k+1))).toArray 125 (0,0))::(b5,.cells (Xp x).toArray 120 (0,0))::(i2.M++cq i3.Ds)) (H:=λs F=>G F/\J7 F s.y.1 s.y.2 (Kc ((J4 pp.2).take s.i) (Zy t i2.k::Jb rs t vb i2.k) i2.k)) (pos:=λs=>s.i) (p:=pp) (b1:=c75.1) (b2:=c75.2.1) (b3:=c75.2.2.1) (b4:=c75.2.2.2) (L:=L) (n:=i2.k) (bv:=bk) (cv:=rb.n) (e0:=(⟨e43.b,e43.c,lt⟩:VL)) (ls:=(i2.es.map VB.vl))
     (λs F h=>hfacts F h.1) hpl2 O O (by rw[ae];omega)
     (λs e he=>by
      rcases List.mem_cons.1 he with rfl | he
      ·exact⟨⟨e43.rest,wz⟩,hlt2,ok43.hc⟩
      obtain⟨e',he',rfl⟩:=List.mem_map.1 he;exact⟨⟨e'.rest,by rw[i2.hM];simp only[bG,List.mem_append];exact .inr (.inr (.inr (.inr (.inr (.inr (.inr (.inr (.inl (aj (f:=VB.box) he')))))))))⟩,(i2.ok _ he').hl,(i2.ok _ he').hc⟩)
     (λs=>by rw[aY];simp only[bG];exact .inr (.inr (.inr (.inr (.inr (.inr (.inl rfl)))))))
     (by rw[hall];exact hto)
     (λG' C s i y W hi hp hst=>?_) ⟨0,c70,ao _⟩ rfl
    ·refine(hterms.2 W (hW.B3 λF h=>⟨h,by rw[aG];exact(h70f F h)⟩)).mono ?_;rintro e w' ⟨c,rfl,h⟩;exact⟨⟨_,rfl⟩,c.1,c.2,h⟩
    letI:Df:=DI;obtain rfl:s.i=i:=hp;rw[hall]at hst;refine LB hst .here (by rw[hrec.params];rfl) (Ai hrec _ wu) ?_;rw[hrec.assign,hrec.body];refine Tg (RN L) (λ⟨_,_,h⟩=>h) rfl<|Qc WB λb18=>QU (vs:=[.slice y.1.q y.1.n y.1.cap]) I I I XG I .here .h1 wS<|QE<|ua .u1 hrec.state<|vD<|Tg (RN L) (λ⟨_,_,h⟩=>h) rfl<|QA (QJ (vs:=[_]) I XG .u3 .h1 rfl)<|QA (QJ (vs:=[_]) I XG .here .h1 rfl) ?_
    have hit:s.i<(J4 pp.2).length:=by rw[Ye];exact hi
    refine QI I (λ_ _ f h=>QA4 (ra:=s.y.1) (rb:=y.1) (la:=s.y.2) (lb:=y.2) f h.1.2.2 h.2 (by rw[<-h.1.2.2.YH,<-h.2.YH,Zq,Zg];omega) (by rw[<-h.1.2.2.YH,Zq];omega) (by rw[hpe];exact hok.sm _ hk2 _ hi3 s.i) λx hx=>hok.mn _ hk2 _ hi3 _ (by rw[<-hpe];exact aj (Qv hi)) x (by have e:=Zp rs t vb i2.k;rw[bC,e]at hx;exact hx)) (λc79=>QU (vs:=[.slice c79.1.q c79.1.n c79.1.cap]) I I I XG I .u3 .h1 wS<|QE<|Qk ?_);refine uY .u1 (λw1 hw1=>⟨rfl,⟨s.i+1,c79,by show s.i+1<=_;omega⟩,rfl,?_⟩);rw[LZ hrec]at hw1;exact St.imp hw1 (.cons _ QIM) λF h=>⟨h.1.1.1,h.1.1.2.1,by show J7 F c79.1 c79.2 (Kc ((J4 pp.2).take (s.i+1)) _ _);rw[MJ (by rw[Ye];omega),<-xP hi];exact h.2⟩
   letI:Df:=K1 (D::i3.Ds);have hsum:∀F,J7 F s.y.1 s.y.2 (Kc ((J4 pp.2).take s.i) (Zy t i2.k::Jb rs t vb i2.k) i2.k)->J7 F s.y.1 s.y.2 (Kc (el rs i3.i) (Zy t i2.k::Jb rs t vb i2.k) i2.k):=λF h=>by
    rw[aS (by rw[Ye];omega),hpe]at h;exact h
   refine Qk<|QC<|XS _ (λ_ _ f h=>ar (hsum _ h.2).YH (hsum _ h.2).len) λhsv=>?_
   obtain⟨hsv,hsl2⟩:=hsv;rw[Zq]at hsv;have hsl:i2.k<s.y.1.n:=O;refine Jp 13 (.cons_cons _ (.cons_cons _ (.cons _ (.cons_cons _ (.cons_cons _ (.cons_cons _ (.cons_cons _ tD))))))) mixed wm wm ?_;simp only[aA,aG,aB,aJ];refine QK (QD I)<|QK (QD I)<|QK (QH I Xh JF)<|QK (Qf I JF .u1 .h1)<|QK (QD I)<|QK (Q3 (n:=s.y.1.n) (i2.k) (λF h9=>(hsum _ h9.2).row) rfl rfl JL Qj O)<|QK (JK (n:=s.y.1.n) (vs:=[.int .i64 (el s.y.2 (i2.k)).1.lo.n.s,.slice (el s.y.2 (i2.k)).1.lo.n.q (el s.y.2 (i2.k)).1.lo.n.n (el s.y.2 (i2.k)).1.lo.n.cap,.int .i64 (el s.y.2 (i2.k)).1.lo.d.s,.slice (el s.y.2 (i2.k)).1.lo.d.q (el s.y.2 (i2.k)).1.lo.d.n (el s.y.2 (i2.k)).1.lo.d.cap,.int .i64 (el s.y.2 (i2.k)).1.hi.n.s,.slice (el s.y.2 (i2.k)).1.hi.n.q (el s.y.2 (i2.k)).1.hi.n.n (el s.y.2 (i2.k)).1.hi.n.cap,.int .i64 (el s.y.2 (i2.k)).1.hi.d.s,.slice (el s.y.2 (i2.k)).1.hi.d.q (el s.y.2 (i2.k)).1.hi.d.n (el s.y.2 (i2.k)).1.hi.d.cap]) ((i2.k)*8) (λF h9=>(hsum _ h9.2).row) O rfl Qj I λj v hv=>JQ (f:=(λe=>Xp e.1)) (l:=s.y.2) (λ_=>rfl) O hv)<|QK (QD I)<|QK (Qw I I O)<|QP I (λ_ _ f h=>TO (n:=((i2.k+1:Nat):Int)) f O O) λc89=>QP I (λ_ _ f h=>L6 (x:=c89) (r:=(((i2.k+1:Nat):Int):Rat)) f h.2 (by show((i2.k+1:Nat):Int)≠0;omega) (by have h1:=Gh ((i2.k+1:Nat):Int);have h2:sz ((i2.k+1:Nat):Int)<=40:=(XO _ 40).2 O;omega)) λc90=>QP I (λ_ _ f h=>Rn (x:=(el s.y.2 i2.k).1) (y:=c90) (a:=el (Kc (el rs i3.i) (Zy t i2.k::Jb rs t vb i2.k) i2.k) i2.k) (r:=(((i2.k+1:Nat):Int):Rat)⁻¹) f ((hsum _ h.1.1.2).at hsl) h.2 (hok.cf _ hk2 _ hi3) (aV (Nn (by show((i2.k+1:Nat):Int)≠0;omega)) (by have h1:=Gh ((i2.k+1:Nat):Int);have h2:sz ((i2.k+1:Nat):Int)<=40:=(XO _ 40).2 O;omega))) λc91=>QK (JJ (i:=i3.i) rfl rfl JL Qj O)<|ZV<|QU (vs:=Xp c91) rfl rfl rfl Qj I .u2 (QA1 (z:=[.int .i64 0,.slice none 0 0,.int .i64 0,.slice none 0 0,.int .i64 0,.slice none 0 0,.int .i64 0,.slice none 0 0]) c91 (nxQ rs t vb i2.k i3.i) rfl i3.len O) wZ<|QE<|Qk<|QC<|QB<|QA (Qw I I O)<|wB 2 I<|OV (.trans (.swap _ _ _) (.cons _ (MN [_,_,_,_,_] i2.M _ _))) ?_
   exact Ie (⟨i3.i+1,i3.nx++[(c91,nxQ rs t vb i2.k i3.i)],D::i3.Ds,O,by rw[aF,i3.len];rfl,by rw[ak,i3.hv,aM,ak];rfl⟩) I (by show rb.n-(i3.i+1)<rb.n-i3.i;omega) ⟨rfl,rfl,rfl,rfl,rfl,rfl,rfl,rfl,rfl,rfl,rfl,rfl,rfl,trivial⟩ (.cons _ QIM) λF ⟨⟨⟨⟨hG0,hS⟩,h89⟩,h90⟩,h91⟩=>by obtain⟨⟨⟨⟨⟨⟨⟨⟨⟨⟨hY,hT,hB⟩,hE⟩,hE2⟩,h41⟩,h43⟩,hLT⟩,hN⟩,h68⟩,h70⟩,h75⟩:=hG F hG0;exact⟨⟨⟨⟨⟨⟨⟨hY,hT,hB⟩,hE⟩,hE2⟩,h41⟩,h43⟩,hLT⟩,Z9.snoc hN h91⟩
  have hge3:i3.i=rb.n:=wk<|QJH hc
  refine Qz ?_
  repeat first|refine QZ ?_|refine QQ wy ?_
  refine Qa<|QC<|wR I<|QA (Qh I W1)<|QJK 4 I<|JV (ι:=TeJ i2.es i2.k (nxQ rs t vb i2.k)) [(0,_),(2,_),(5,_),(8,_),(9,_),(14,_),(37,_),(38,_),(95,_)] (λi4=>[(96,.int .i64 ((i4.i:Nat):Int))]) (λi4=>(bn,.cells (Xi i3.nx++Xb [.int .i64 0,.slice none 0 0,.int .i64 0,.slice none 0 0,.int .i64 0,.slice none 0 0,.int .i64 0,.slice none 0 0] (rb.n-i3.i)).toArray 120 (0,0))::(b13,.cells [.slice (some ⟨e43.b,0,none⟩) (i2.k+1) e43.c].toArray 125 (0,0))::(e43.b,.cells (Xi lt++e43.rest).toArray 120 (0,0))::(bk,.cells (i4.e1.map (VB.sl (i2.k+2))++(i2.es.drop i4.i).map (VB.sl (i2.k+1))).toArray 125 (0,0))::(b5,.cells (Xp x).toArray 120 (0,0))::(i4.M1++(i4.M2++cq i3.Ds))) (λi4 F=>∀e∈i4.e1,Z9 F e.l) (λi4=>rb.n-i4.i) (⟨0,[],[],i2.M,rfl,by rw[i2.hM];rfl,ao _,rfl,(λ_ h=>by cases h),rfl⟩) we wS QIM (λ_ _ _ h=>by cases h) λi4=>?_
  simp only[aa,ab];have hi4l:=i4.le;refine wA 6 I ?_;refine QR I (λhc=>?_) λhc=>?_
  ·have hlt4:i4.i<rb.n:=wk<|QJG hc
   have hnx:=i3.len;obtain⟨e4,he4⟩:∃e4,el i2.es i4.i=e4:=⟨_,rfl⟩;have hm4:=Qv (show i4.i<i2.es.length by omega);have ok4:e4.Ok (i2.k+1):=by rw[<-he4];exact i2.ok _ hm4
   have hd4:i2.es.drop i4.i=e4::i2.es.drop (i4.i+1):=by rw[Bo (show i4.i<i2.es.length by omega),he4]
   have hnx2:(el i3.nx i4.i).2=nxQ rs t vb i2.k i4.i:=Uj i3.hv O;have hM4:i4.M2=e4.box::(i2.es.drop (i4.i+1)).map VB.box:=by rw[i4.hM2,hd4];rfl
   refine vC (by rw[hM4])<|QJL 10 I<|Jp 15 (.cons_cons _ (.cons_cons _ (.cons_cons _ (.cons_cons _ (.cons_cons _ tD))))) mixed wm wm ?_
   simp only[aA,aG,aB,aJ];refine QK (QD I)<|QK (QD I)<|QK (QD I)<|QK (QD I)<|QK (JJ (i:=i4.i) rfl rfl W1 XG O)<|QK (QH I Xh JF)<|QK (Vl (v:=.slice (some ⟨e4.b,0,none⟩) (i2.k+1) e4.c) rfl JF .u3 (by rw[show 0+i4.i*1+0=(i4.e1.map (VB.sl (i2.k+2))).length by rw[ae,i4.len];omega,hd4,aR];simp))<|QK (QD I)<|QK (QD I)<|QK (JJ (i:=i4.i) rfl rfl JL Qj O)<|QK (Am (vs:=Xp (el i3.nx i4.i).1) rfl Qj .here rfl λj v hv=>z7 O hv) ?_
   refine Qp I (Q4 JL) Qj Jh I I (λb110=>?_) (λw h=>h.imp (.cons_cons _ (.cons_cons _ (.cons_cons _ (.cons_cons _ (.cons_cons _ tD))))) w9);refine Ia (MN [_,_,_,_,_] i4.M1 _ _).symm ?_;refine KM (ob:=[e4.box]) (n:=i2.k+1) (k:=1) (sz:=8) (news:=Xp (el i3.nx i4.i).1) rfl rfl JL Qj Jh I WS ok4.own (Src.row (off:=0) tB (λj q hq=>by rw[ay];rw[ag];exact hq) rfl) O O (KY _) (.cons_cons _ (.cons_cons _ (.cons_cons _ (.cons_cons _ (.cons_cons _ tD))))) tA (λv111 ob111 hr111=>?_);obtain⟨e5,hl5,ok5,hv5,hob5⟩:=zw (l:=e4.l++[el i3.nx i4.i]) (by rw[MF];exact hr111) O;rw[hv5,hob5,bM];refine Ia (MN [_,_,_,_,_] i4.M1 _ _)<|QK (JJ (i:=i4.i) rfl rfl W1 XG O)<|QK (QH I Xh JF)<|ZV ?_
   rw[hd4,aR];refine QU (vs:=[.slice (some ⟨e5.b,0,none⟩) (i2.k+2) e5.c]) I I I JF I .u3 (QA0 (by rw[ae,i4.len])) wS<|QE<|Qk<|QC<|QB<|QA (Qw I I O)<|wB 2 I ?_
   exact Qm (⟨i4.i+1,i4.e1++[e5],i4.M1++[e5.box],(i2.es.drop (i4.i+1)).map VB.box,by rw[i4.hM1,ak];rfl,rfl,O,by rw[aF,i4.len];rfl,λe he=>by
      rcases List.mem_append.1 he with he | he
      ·exact i4.ok e he
      ·rw[List.mem_singleton.1 he];exact ok5,by rw[ak,i4.hq,aM,ak];simp only[aR,bI,hl5,ak,he4,hnx2]⟩) (by show rb.n-(i4.i+1)<rb.n-i4.i;omega) wg ((by simp only[ak,aC,aR,bI,aa,ab];exact aQ _)) (λF ⟨⟨⟨⟨⟨⟨⟨⟨⟨hY,hT,hB⟩,hE⟩,hE2⟩,h41⟩,h43⟩,hLT⟩,hN⟩,hE4⟩,hs110⟩=>⟨⟨⟨⟨⟨⟨⟨⟨hY,hT,hB⟩,hE⟩,hE2⟩,h41⟩,h43⟩,hLT⟩,hN⟩,λe he=>by
      rcases List.mem_append.1 he with he | he
      ·exact hE4 e he
      rw[List.mem_singleton.1 he,hl5];intro e2 he2;rcases List.mem_append.1 he2 with he2 | he2
      ·exact hE2 _ hm4 e2 (by rw[he4];exact he2)
      rw[List.mem_singleton.1 he2];exact hN _ (Qv O)⟩)
  have hge4:i4.i=rb.n:=wk<|QJH hc
  refine Qz ?_
  repeat first|refine QZ ?_|refine QQ wy ?_
  refine Qa<|Qk<|QC<|QB<|QA (Qw I I O)<|wB 2 I ?_
  have hdn:i2.es.drop i4.i=[]:=List.drop_of_length_le O;have hM0:i4.M2=[]:=by rw[i4.hM2,hdn];rfl
  have hq4:i4.e1.map (λe=>e.l.map (·.2))=Jb rs t vb (i2.k+1):=by
   have e1:=i4.hq;rw[hge4,<-hvb]at e1;rw[e1];refine List.map_congr_left λj hj=>?_;have hj:=List.mem_range.1 hj;have hel:el (Jb rs t vb i2.k) j=(el i2.es j).l.map (·.2):=by rw[<-i2.hq,JW (show j<(i2.es.map λe=>e.l.map (·.2)).length by rw[ae];omega),aL,<-JW (show j<i2.es.length by omega)]
   show(el i2.es j).l.map (·.2)++[nxQ rs t vb i2.k j]=el (Jb rs t vb i2.k) j++[nxQ rs t vb i2.k j];rw[hel]
  exact Ie (⟨i2.k+1,i4.e1,i4.M1,i3.Ds,i4.hM1,hk2,by rw[i4.len];omega,i4.ok,hq4⟩) I (by show n-(i2.k+1)<n-i2.k;omega) wY (.cons _ (.cons _ (.cons _ (by rw[hdn,hM0,bI,aK,ab];exact aQ _)))) λF ⟨⟨⟨⟨⟨⟨⟨⟨hY,hT,hB⟩,hE⟩,hE2⟩,h41⟩,h43⟩,hLT⟩,hN⟩,hE4⟩=>⟨⟨⟨hY,hT,hB⟩,hE⟩,hE4⟩
 have hge2:i2.k=n:=wk<|QJH hc
 refine Qz ?_
 repeat first|refine QZ ?_|refine QQ wy ?_
 refine Qa<|QJM 8 I ?_
 rw[i2.hM];refine OV (af (l₁:=_::_::i2.es.map VB.box))<|uZ i2.Ds I<|QCl (λw1 h1=>(St.freeze (pre:=[]) (St.cd (bs:=[_,_]) i2.es h1)).imp tD w9) ?_
 exact QS ((⟨some ⟨bk,0,none⟩,rb.n,rb.n⟩,i2.es.map λe=>(⟨some ⟨e.b,0,none⟩,i2.k+1,e.c⟩,e.l))) I (wN I) (rfl) λF h9=>QAO (n:=rb.n) h9.2 h9.1.2 h9.1.1.2 O i2.ok (by have e:=i2.hq;rw[hge2]at e;exact e)
theorem Dl(l:List (Rat×Rat))(h:Rat)(i:Nat):G8 l h (i+1)=Vv (G8 l h i) (Jg (el l i) (h^i,h^i)):=by
 unfold G8;rw[aM,aO];rfl
theorem Vc{vv:List (List (Rat×Rat))}(h:Ih F ls)(hq:ls.map (λe=>e.2.map (·.2))=vv)(hi:i<ls.length):J7 F (el ls i).1 (el ls i).2 (el vv i):=by
 have h1:=h _ (Qv hi);rw[<-hq,JW (show i<(ls.map λe=>e.2.map (·.2)).length by rw[ae];exact hi),aL,<-JW hi];exact h1
structure Cg(rs:List (List Tm))(fr t2:Rat)(x on:List (Rat×Rat))(n:Nat):Prop where
 y1:SB rs (fr,fr) x n
 y2:SB rs (fr,t2) on (n+1)
 e1:∀i,i<x.length->∀k,k<=n->XN (el (el (Jb rs (fr,fr) x n) i) k) 10000000
 e2:∀i,i<x.length->XN (el (el (Jb rs (fr,t2) on (n+1)) i) (n+1)) 10000000
 su:∀i,i<x.length->∀k,k<=n+1->XN (G8 (el (Jb rs (fr,fr) x n) i) (t2-fr) k) 50000000
 pw:∀k,k<=n+1->JU ((t2-fr)^k)<=10000000
 hh:JU (t2-fr)<=1000000
 tm:JU fr<=10000000/\JU t2<=10000000
theorem Ms{y:jq}{x:js}{rs:List (List Tm)}{vs vx von:List (Rat×Rat)}{ro:Sr}{lo:List Ys}{n:Nat}(hF:Fits F w)(hy:GX F y rs vs)(hx:Mg F x fr t2 vx)(ho:J7 F ro lo von)(hn:y.rt.n=x.bx.n)(hno:ro.n=x.bx.n)(hnx:x.bx.n<=1000)(hn0:0<x.bx.n)(hor:n<=300)(hpn:∀e∈y.ps,e.1.n<=100000)(hk:Cg rs fr t2 vx von n):
  WT prog 72 [.pointer (some ⟨y.b,0,none⟩),x.v,ro.v,.int .i64 (n:Int)] w F (Xy rs fr t2 vx von n):=by
 have hxl2:=hx.bx.YH;have hol2:=ho.YH;have hbl2:=hx.bx.len;refine QV.intro (G:=λF=>GX F y rs vs/\Mg F x fr t2 vx/\J7 F ro lo von) func72 rfl wy rfl rfl hF (λF' hF'=>⟨hy.le hF',hx.le hF',ho.le hF'⟩)<|QI7<|Qs rfl (vs:=[_,_,_,_,_,_,_,_,_]) rfl λb5=>wQ rfl<|QI7<|QA (QH rfl Bk QN)<|QA (wL I QN .here)<|QA (QH rfl Bl QN)<|QA (wJ I QN .here)<|QI rfl (λ_ _ f k=>Ua (x:=x.Sk) (y:=x.fr) (r:=t2) (s:=fr) f k.2.1.Sk k.2.1.fr (aV hk.tm.2 wu) (aV hk.tm.1 wu)) λc21=>Qc Jy λb9=>QU (vs:=[_,_,_,_]) rfl rfl rfl QN rfl .here .h4 wV<|QHz<|QG<|JH QIM mixed wm<|QK (QD rfl)<|QK (QH rfl Bl QN)<|QK (wJ I QN .u1)<|QP rfl (λ_ _ f k=>Kd (x:=x.fr) (r:=fr) f k.1.2.1.fr) λc25=>QK (QH rfl Bj JF) ?_
 refine QK (Qf rfl JF .u1 (.skip (.skip (.skip (.skip (.skip (.skip (.skip (.skip .h1)))))))))<|QK (QD rfl)<|QP rfl (λ_ _ f k=>Pv (y:=y) (x:=c25) (t:=(fr,fr)) (n:=n) f k.1.1.1 k.2 k.1.1.2.1.bx hn hnx hn0 O hpn hk.y1) λc29=>YU _ (λ_ _ f h=>ar h.2.2.2.1 h.2.2.2.2.1) λh29p=>?_
 obtain⟨hq29,hl29⟩:=h29p;have hn29:c29.2.length=(vx).length:=by have e:=congrArg bh hq29;rw[ae,Zp]at e;exact e
 refine QK (QF I)<|Q7<|QC<|wR I<|QA (QH I Bl QN)<|QA (wJ I QN .u1)<|QA (QH I Bk QN)<|QA (wL I QN .u1)<|QA (Q2 I Z2 Jh (.cons (vs:=[_,_,_,_]) I I I .h4 (.cons (vs:=[_,_,_,_]) I I I (.skip (.skip (.skip (.skip .h4)))) .nil)))<|wB 2 I<|QA (Qw I I O) ?_
 rw[show((n:Int)+1)=((n+1:Nat):Int) by omega];refine QI rfl (λw F hF ⟨⟨⟨⟨hY,hX,hO⟩,h21⟩,h25⟩,h29⟩=>Pv (y:=y) (x:=⟨x.fr,x.Sk⟩) (t:=(fr,t2)) (n:=n+1) hF hY ⟨hX.fr,hX.Sk⟩ hO O O O O hpn hk.y2) (λc39=>JM _ (λ_ _ f h=>ar h.2.2.2.1 h.2.2.2.2.1) λh39p=>?_);obtain⟨hq39,hl39⟩:=h39p;have hn39:c39.2.length=(von).length:=by have e:=congrArg bh hq39;rw[ae,Zp]at e;exact e
 refine QJK 11 I<|QA (QH I Bj JF)<|QA (Qf I JF .u1 (.skip (.skip (.skip (.skip (.skip (.skip (.skip (.skip .h1)))))))))<|QA (Qh I JL)<|QJK 4 I<|JV (ι:=Wb (x.bx.n) λi=>Vv (G8 (el (Jb rs (fr,fr) vx n) i) (t2-fr) (n+1)) (Jg (el (el (Jb rs (fr,t2) von (n+1)) i) (n+1)) ((t2-fr)^(n+1),(t2-fr)^(n+1)))) [(3,_),(9,_),(10,_),(11,_),(42,_)] (λi=>[(12,i.v),(43,.int .i64 ((i.i:Nat):Int))]) (λi=>(b9,.cells (Kl c21).toArray 118 (0,0))::(b5,.cells (gk x).toArray 131 (0,0))::i.ob) (λi F=>Z9 F i.l) (λi=>(x.bx.n)-i.i) (Wb.start _ _) wW wT QIM (λ_ _=>Z9.nil _) λi=>?_
 simp only[aa,ab];have hi:=i.le;refine wA 6 I ?_;refine QR I (λhc=>?_) λhc=>?_
 ·have hlt:i.i<x.bx.n:=wk<|QJG hc
  have hix:i.i<vx.length:=O;have hi29:i.i<c29.2.length:=O;have hi39:i.i<c39.2.length:=O;refine XS _ (λw F hF ⟨⟨⟨⟨⟨⟨hY,hX,hO⟩,h21⟩,h25⟩,h29⟩,h39⟩,hS⟩=>ar (Vc h29.2.1 hq29 hi29).YH (ar (Vc h29.2.1 hq29 hi29).len (ar (Vc h39.2.1 hq39 hi39).YH (Vc h39.2.1 hq39 hi39).len))) (λhvv=>?_);obtain⟨hv29,hw29,hv39,hw39⟩:=hvv;rw[Zj _ _ _ _ O]at hv29 hv39;refine QJL 12 I<|QI I (λ_ _ f k=>TO (n:=0) f wu wu) λc46=>QI I (λ_ _ f k=>Kd (x:=c46) (r:=((0:Int):Rat)) f k.2) λc47=>Qc Jh λb14=>QU (vs:=[_,_,_,_,_,_,_,_]) I I I Qj I .here .h8 wZ<|QJK 7 I<|QA (Q3 (n:=c29.1.n) i.i (λF h9=>h9.1.1.1.1.2.1) rfl rfl W1 XG O)<|QA (QH I Xh JF) ?_
  refine QA (Q5 (n:=c29.1.n) ((i.i)*1) (λF h9=>h9.1.1.1.1.2.1) O rfl JF (XL (f:=λe:U6=>e.1.v) (l:=c29.2) hi29))<|QA (Qh I JL)<|QJK 4 I<|JV (ι:=VaI (n+1)) [(3,_),(9,_),(10,_),(11,_),(12,_),(13,_),(14,_),(42,_),(43,_),(52,_),(53,_)] (λi2=>[(54,.int .i64 ((i2.i:Nat):Int))]) (λi2=>(b14,.cells (Xp i2.x).toArray 120 (0,0))::(b9,.cells (Kl c21).toArray 118 (0,0))::(b5,.cells (gk x).toArray 131 (0,0))::i.ob) (λi2 F=>Ji F i2.x (G8 (el (Jb rs (fr,fr) vx n) i.i) (t2-fr) i2.i)) (λi2=>n+1-i2.i) (⟨0,c47,ao _⟩) wi wS QIM tB λi2=>?_
  simp only[aa,ab];have hj:=i2.le;refine wA 6 I ?_;refine QR I (λhc=>?_) λhc=>?_
  ·have hlt2:i2.i<n+1:=wk<|QJG hc
   refine QJL 7 I<|QA (Q3 (n:=(el c29.2 i.i).1.n) (i2.i) (λF ⟨⟨⟨⟨⟨⟨⟨⟨⟨hY,hX,hO⟩,h21⟩,h25⟩,h29⟩,h39⟩,hS⟩,h46⟩,h47⟩,hZ⟩=>(Vc h29.2.1 hq29 hi29).row) rfl rfl JL Qj O)<|QA (JK (n:=(el c29.2 i.i).1.n) (vs:=[.int .i64 (el (el c29.2 i.i).2 (i2.i)).1.lo.n.s,.slice (el (el c29.2 i.i).2 (i2.i)).1.lo.n.q (el (el c29.2 i.i).2 (i2.i)).1.lo.n.n (el (el c29.2 i.i).2 (i2.i)).1.lo.n.cap,.int .i64 (el (el c29.2 i.i).2 (i2.i)).1.lo.d.s,.slice (el (el c29.2 i.i).2 (i2.i)).1.lo.d.q (el (el c29.2 i.i).2 (i2.i)).1.lo.d.n (el (el c29.2 i.i).2 (i2.i)).1.lo.d.cap,.int .i64 (el (el c29.2 i.i).2 (i2.i)).1.hi.n.s,.slice (el (el c29.2 i.i).2 (i2.i)).1.hi.n.q (el (el c29.2 i.i).2 (i2.i)).1.hi.n.n (el (el c29.2 i.i).2 (i2.i)).1.hi.n.cap,.int .i64 (el (el c29.2 i.i).2 (i2.i)).1.hi.d.s,.slice (el (el c29.2 i.i).2 (i2.i)).1.hi.d.q (el (el c29.2 i.i).2 (i2.i)).1.hi.d.n (el (el c29.2 i.i).2 (i2.i)).1.hi.d.cap]) ((i2.i)*8) (λF ⟨⟨⟨⟨⟨⟨⟨⟨⟨hY,hX,hO⟩,h21⟩,h25⟩,h29⟩,h39⟩,hS⟩,h46⟩,h47⟩,hZ⟩=>(Vc h29.2.1 hq29 hi29).row) O rfl Qj I λj v hv=>JQ (f:=(λe=>Xp e.1)) (l:=(el c29.2 i.i).2) (λ_=>rfl) O hv)<|Qc Jh λb16=>QH1 I<|QU (vs:=[_,_,_,_,_,_,_,_]) I I I Qj I .here .h8 wZ<|QHz<|Jp 7 QIM mixed wm wm ?_
   simp only[aA,aG,aB,aJ];refine QK (wK I Qj .u1)<|QK (wK I Qj .here)<|QK (wJ I QN .u2)<|QK (QD I)<|QP I (λ_ _ f h=>MU (x:=c21) (r:=t2-fr) (k:=(i2.i:Int)) f h.1.1.1.1.1.1.1.2 O O (by rw[ai];have h3:i2.i*JU (t2-fr)<=400*1000000:=aU O hk.hh;omega)) λc63=>?_
   rw[ai];refine QP I (λw F hF ⟨⟨⟨⟨⟨⟨⟨⟨⟨⟨hY,hX,hO⟩,h21⟩,h25⟩,h29⟩,h39⟩,hS⟩,h46⟩,h47⟩,hZ⟩,h63⟩=>Rn (x:=(el (el c29.2 i.i).2 i2.i).1) (y:=c63) (a:=el (el (Jb rs (fr,fr) vx n) i.i) i2.i) (r:=(t2-fr)^i2.i) hF ((Vc h29.2.1 hq29 hi29).at (show i2.i<(el c29.2 i.i).1.n by omega)) h63 ((hk.e1 _ hix _ O).mono wu) (aV (hk.pw _ O) wu)) (λc64=>QP I (λ_ _ f k=>MZ (x:=i2.x) (y:=c64) (a:=G8 (el (Jb rs (fr,fr) vx n) i.i) (t2-fr) i2.i) (b:=Jg (el (el (Jb rs (fr,fr) vx n) i.i) i2.i) ((t2-fr)^i2.i,(t2-fr)^i2.i)) f k.1.1.2 k.2 ((hk.su _ hix _ O).mono wu) ((KV (hk.e1 _ hix _ O) ⟨hk.pw _ O,hk.pw _ O⟩).mono wu)) λc65=>ZV<|QU (vs:=[_,_,_,_,_,_,_,_]) I I I Qj I .u1 .h8 wZ<|QE<|Qk<|QC<|QB<|QA (Qw I I O)<|wB 2 I ?_);exact Qm (⟨i2.i+1,c65,hlt2⟩) (by show n+1-(i2.i+1)<n+1-i2.i;omega) wj (.cons _ QIM) λF ⟨⟨⟨⟨⟨⟨⟨⟨⟨⟨⟨⟨hY,hX,hO⟩,h21⟩,h25⟩,h29⟩,h39⟩,hS⟩,h46⟩,h47⟩,hZ⟩,h63⟩,h64⟩,h65⟩=>⟨⟨⟨⟨⟨⟨⟨⟨⟨hY,hX,hO⟩,h21⟩,h25⟩,h29⟩,h39⟩,hS⟩,h46⟩,h47⟩,by show Ji F c65 (G8 _ _ (i2.i+1));rw[Dl];exact h65⟩
  have hge2:i2.i=n+1:=wk<|QJH hc
  have hz2:∀F,Ji F i2.x (G8 (el (Jb rs (fr,fr) vx n) i.i) (t2-fr) i2.i)->Ji F i2.x (G8 (el (Jb rs (fr,fr) vx n) i.i) (t2-fr) (n+1)):=λF h=>by rw[hge2]at h;exact h
  refine Qz ?_
  repeat first|refine QZ ?_|refine QQ wy ?_
  refine Qa<|QC<|JH tG mixed wm<|QK (QD I)<|QK (wK I Qj .here)<|QK (QD I)<|QK (QD I)<|QK (Q3 (n:=c39.1.n) i.i (λF h9=>h9.1.1.1.1.2.1) rfl rfl W1 XG O)<|QK (QH I Xh JF)<|QK (Q5 (n:=c39.1.n) ((i.i)*1) (λF h9=>h9.1.1.1.1.2.1) O rfl JF (XL (f:=λe:U6=>e.1.v) (l:=c39.2) hi39))<|QK (QD I)<|QK (Qw I I O)<|QK (Q3 (n:=(el c39.2 i.i).1.n) ((n+1)) (λF ⟨⟨⟨⟨⟨⟨⟨⟨⟨hY,hX,hO⟩,h21⟩,h25⟩,h29⟩,h39⟩,hS⟩,h46⟩,h47⟩,hZ⟩=>(Vc h39.2.1 hq39 hi39).row) rfl wM JL Qj O)<|QK (JK (n:=(el c39.2 i.i).1.n) (vs:=[.int .i64 (el (el c39.2 i.i).2 ((n+1))).1.lo.n.s,.slice (el (el c39.2 i.i).2 ((n+1))).1.lo.n.q (el (el c39.2 i.i).2 ((n+1))).1.lo.n.n (el (el c39.2 i.i).2 ((n+1))).1.lo.n.cap,.int .i64 (el (el c39.2 i.i).2 ((n+1))).1.lo.d.s,.slice (el (el c39.2 i.i).2 ((n+1))).1.lo.d.q (el (el c39.2 i.i).2 ((n+1))).1.lo.d.n (el (el c39.2 i.i).2 ((n+1))).1.lo.d.cap,.int .i64 (el (el c39.2 i.i).2 ((n+1))).1.hi.n.s,.slice (el (el c39.2 i.i).2 ((n+1))).1.hi.n.q (el (el c39.2 i.i).2 ((n+1))).1.hi.n.n (el (el c39.2 i.i).2 ((n+1))).1.hi.n.cap,.int .i64 (el (el c39.2 i.i).2 ((n+1))).1.hi.d.s,.slice (el (el c39.2 i.i).2 ((n+1))).1.hi.d.q (el (el c39.2 i.i).2 ((n+1))).1.hi.d.n (el (el c39.2 i.i).2 ((n+1))).1.hi.d.cap]) (((n+1))*8) (λF ⟨⟨⟨⟨⟨⟨⟨⟨⟨hY,hX,hO⟩,h21⟩,h25⟩,h29⟩,h39⟩,hS⟩,h46⟩,h47⟩,hZ⟩=>(Vc h39.2.1 hq39 hi39).row) O rfl Qj I λj v hv=>JQ (f:=(λe=>Xp e.1)) (l:=(el c39.2 i.i).2) (λ_=>rfl) O hv)<|QK (wJ I QN .u1)<|QK (QD I)<|QK (Qw I I O) ?_
  rw[show((n:Int)+1)=((n+1:Nat):Int) by omega];refine QP I (λ_ _ f h=>MU (x:=c21) (r:=t2-fr) (k:=((n+1:Nat):Int)) f h.1.1.1.1.1.1.1.2 O O (by rw[ai];have h3:(n+1)*JU (t2-fr)<=400*1000000:=aU O hk.hh;omega)) (λc81=>?_);rw[ai];refine QP I (λw F hF ⟨⟨⟨⟨⟨⟨⟨⟨⟨⟨hY,hX,hO⟩,h21⟩,h25⟩,h29⟩,h39⟩,hS⟩,h46⟩,h47⟩,hZ⟩,h81⟩=>Rn (x:=(el (el c39.2 i.i).2 (n+1)).1) (y:=c81) (a:=el (el (Jb rs (fr,t2) von (n+1)) i.i) (n+1)) (r:=(t2-fr)^(n+1)) hF ((Vc h39.2.1 hq39 hi39).at (show n+1<(el c39.2 i.i).1.n by omega)) h81 ((hk.e2 _ hix).mono wu) (aV (hk.pw _ O) wu)) (λc82=>QP I (λ_ _ f k=>MZ (x:=i2.x) (y:=c82) (a:=G8 (el (Jb rs (fr,fr) vx n) i.i) (t2-fr) (n+1)) (b:=Jg (el (el (Jb rs (fr,t2) von (n+1)) i.i) (n+1)) ((t2-fr)^(n+1),(t2-fr)^(n+1))) f (hz2 _ k.1.1.2) k.2 ((hk.su _ hix _ O).mono wu) ((KV (hk.e2 _ hix) ⟨hk.pw _ O,hk.pw _ O⟩).mono wu)) λc83=>?_);refine Qp I (Q4 JL) Qj Jh I I (λb84=>?_) (λw h=>h.imp tG λF h=>h.1.1.1);refine Y4 (af (l₁:=[_,_,_])) ?_;refine KM (n:=i.i) (k:=1) (sz:=8) (news:=Xp c83) rfl rfl JL Qj Jh I WS i.hr (Src.row (off:=0) tB (λj q hq=>by rw[ay];rw[ag];exact hq) rfl) O O (KY _) QIM (λ_ h=>h.1.1.1.1) (λv85 ob85 hr85=>?_);refine Y4 (af (l₂:=[_,_,_]))<|QK (QF I)<|Q7<|Qk<|QC<|QB<|QA (Qw I I O)<|wB 2 I ?_
  exact Qm (i.next hlt c83 _ hr85 rfl) (by show x.bx.n-(i.i+1)<x.bx.n-i.i;omega) wY (.cons _ QIM) λF ⟨⟨⟨⟨⟨⟨⟨⟨⟨⟨⟨⟨⟨hY,hX,hO⟩,h21⟩,h25⟩,h29⟩,h39⟩,hS⟩,h46⟩,h47⟩,hZ⟩,h81⟩,h82⟩,h83⟩,hs84⟩=>⟨⟨⟨⟨⟨⟨hY,hX,hO⟩,h21⟩,h25⟩,h29⟩,h39⟩,hS.snoc h83⟩
 have hge:i.i=x.bx.n:=wk<|QJH hc
 refine Qz ?_
 repeat first|refine QZ ?_|refine QQ wy ?_
 refine Qa<|QJM 3 I ?_
 have hxl:=i.len;obtain⟨⟨rq,rn,rc⟩,hv2,hrn,hrc,hfix⟩:=Q9.fix (w0:=w) (F0:=F) (bs1:=[_,_]) (G:=_) i.hr;dsimp only at hrn hrc hfix;subst hrn;refine YS hfix ?_;rw[hv2];dsimp only[Sr.v];refine QJK 5 I ?_;exact QS ((⟨rq,i.i,rc⟩,i.l)) I (wN I) (rfl) λF h9=>by have:=i.box hge (r:=⟨rq,i.i,rc⟩) h9.2 I hrc h9.1.2;unfold Xy;rw[hxl2];exact this
structure KO(F:Gs)(r:Sr)(l:List (List UInt8×List UInt8)):Prop where
 row:Qx F r.q r.n 2 (l.flatMap Pc)
 len:l.length=r.n
theorem KO.le{r:Sr}(h:KO F r l)(k:Gs.le F F'):KO F' r l:=⟨h.row.le k,h.len⟩
structure GZ(r:Sr)(l:List (List UInt8×List UInt8)):Prop where
 n:r.n<=1000000
 t:∀s∈l,s.1.length<=1000000/\s.2.length<=1000000
def YN(n:Nat)(l:List (List UInt8×List UInt8)):Int:=if l.length≠n then 2 else Qu (l.map λs=>XX s.1 s.2)
def BF(o:Int):Int:=if(decide (o<1)||decide (o>16))=true then 3 else 0
def VM(o:Int):Int:=if(decide (o<0)||decide (o>64))=true then 3 else 0
def Vb(a b:Rat):Int:=if decide (Yb b a<=0)=true then 11 else 0
def Na(l:Rat)(s:List UInt8):Int:=if Jk s≠0 then Jk s else Vb l (Qo s)
def Yy(l:List (List UInt8))(i:Nat):Rat:=if i=0 then((0:Int):Rat)else Qo (el l (i-1))
def NC(l:List (List UInt8)):Int:=if l.length>1000 then 5 else Qu ((aE l.length).map λi=>Na (Yy l i) (el l i))
theorem G3{l:Rat}(h:Na l s=0):Jk s=0/\Vb l (Qo s)=0:=by
 unfold Na at h;split at h
 ·exact absurd h ‹_›
 rename_i h1;exact⟨Decidable.byContradiction h1,h⟩
theorem WO(l:List (List UInt8))(i:Nat):Yy l (i+1)=Qo (el l i):=by unfold Yy;rw[if_neg O,Nat.add_sub_cancel]
structure QHJ(l:List (List UInt8)) extends ZO (aE l.length) (λi=>Na (Yy l i) (el l i)) where
 c:Fr
 ok:JU (Yy l i)<=2400
theorem Vs{o:Int}(hF:Fits F w):Qg prog 64 [.int .i64 o] w F (.int .i64 (BF o)):=by
 refine QV.intro (G:=λF=>True) func64 rfl wy rfl rfl hF w8<|QI7<|wQ rfl<|wR rfl<|QA (QT rfl rfl rfl)<|QH0 rfl ?_
 refine Ql (t:=5) rfl (λhb5=>?_) λhb5=>?_
 ·refine wB 3 I<|QI I (λ_ _ f k=>Be f ) λ_=>wQ I<|QY ?_
  exact QJO I I (congrArg (ah .i64) (by unfold BF;rw[hb5];rfl)) w8
 refine wB 5 I<|QI I (λ_ _ f k=>Be f ) λ_=>wQ I<|QY ?_
 exact QJO I I (congrArg (ah .i64) (by unfold BF;rw[hb5];rfl)) w8
theorem BQ{o:Int}(hF:Fits F w):Qg prog 90 [.int .i64 o] w F (.int .i64 (VM o)):=by
 refine QV.intro (G:=λF=>True) func90 rfl wy rfl rfl hF w8<|QI7<|wQ rfl<|wR rfl<|QA (QT rfl rfl rfl)<|QH0 rfl ?_
 refine Ql (t:=5) rfl (λhb5=>?_) λhb5=>?_
 ·refine wB 3 I<|QI I (λ_ _ f k=>Be f ) λ_=>wQ I<|QY ?_
  exact QJO I I (congrArg (ah .i64) (by unfold VM;rw[hb5];rfl)) w8
 refine wB 5 I<|QI I (λ_ _ f k=>Be f ) λ_=>wQ I<|QY ?_
 exact QJO I I (congrArg (ah .i64) (by unfold VM;rw[hb5];rfl)) w8
theorem Vt{a b:List UInt8}(hF:Fits F w)(hGl:JE F)(ha:Jk a=0/\a.length<=1000000)(hb:Jk b=0/\b.length<=1000000):Qg prog 71 [tx a,tx b] w F (.int .i64 (Vb (Qo a) (Qo b))):=by
 have za:=Yf ha.1;have zb:=Yf hb.1;refine QV.intro (G:=λF=>JE F) func71 rfl wy rfl rfl hF (λF' hF'=>hGl.le hF')<|QI7<|wQ rfl<|wR rfl<|QI rfl (λ_ _ f k=>Kj f k (XH hb.1).1 O) λc6=>QH0 rfl<|QI rfl (λ_ _ f k=>Kj f k.1 (XH ha.1).1 O) λc8=>QI rfl (λ_ _ f k=>Gv f k.1.2 k.2 O O) λ_=>QA (QT rfl rfl rfl)<|QI rfl (λ_ _ f k=>Be f ) λ_=>wQ rfl<|QY ?_
 exact QJO I I (rfl) w8
theorem Y9{r:Sr}(hF:Fits F w)(hGl:JE F)(hy:ZH F y)(hb:KO F r l)(hc:GZ r l):Qg prog 63 [y.v,r.v] w F (.int .i64 (YN y.nm.n l)):=by
 have hl:=hb.len;have hn:=hc.n;refine QV.intro (G:=λF=>JE F/\ZH F y/\KO F r l) func63 rfl wy rfl rfl hF (λF' hF'=>⟨hGl.le hF',hy.le hF',hb.le hF'⟩)<|QI7<|Qs rfl (vs:=[_,_,_]) rfl λb2=>wQ rfl<|QG<|wR rfl<|QA (Qh rfl J9)<|QA (QH rfl Hl VG)<|QA (Qf rfl VG .here .h1)<|QA (Qh rfl Ku)<|QA (QT rfl rfl rfl)<|QE<|QC ?_
 refine QR I (λhc2=>?_) λhc2=>?_
 ·have h13:=bne_iff_ne.1 hc2;refine wA 6 I ?_;exact QJO I I (congrArg (ah .i64) (by unfold YN;rw[if_pos O])) w8
 have h13:=bne_eq_false_iff_eq.1 hc2;refine QJL 6 I<|QA (Qh I J9)<|QJK 4 I<|XK (ι:=ZO l λs=>XX s.1 s.2) [(14,_),(15,_)] (λi=>[(16,.int .i64 ((i.i:Nat):Int))]) (λi=>l.length-i.i) (ZO.start _ _) wT wS λi=>?_
 simp only[aa,ab];have hi:=i.le;refine wA 6 I ?_;refine QR I (λhc2=>?_) λhc2=>?_
 ·have hlt:i.i<l.length:=wk<|QJG hc2
  have hem:=Qv hlt;refine QJL 6 I<|QA (Q3 (n:=r.n) i.i (λF h9=>h9.2.2.row) rfl rfl J9 Jq O)<|QA (JK (n:=r.n) (vs:=[tx (el l i.i).1,tx (el l i.i).2]) ((i.i)*2) (λF h9=>h9.2.2.row) O rfl Jq I λj v hv=>JQ (f:=Pc) (l:=l) KZ O hv)<|Qc Xe λb6=>QU (vs:=[_,_]) I I I Jq I .here .h2 wT<|QHz<|QI7<|QA (wH I Jq .here)<|QI I (λ_ _ f k=>Wr f k.1 (hc.t _ hem)) λ_=>QJK 9 I ?_
  refine QR I (λhc2=>?_) λhc2=>?_
  ·have h23:=bne_iff_ne.1 hc2;refine wA 7 I ?_
   repeat first|refine Q6 ?_|refine Qy ?_
   exact QJO I I (congrArg (ah .i64) (by unfold YN;rw[if_neg O];exact i.hit hlt h23)) w8
  have h23:=bne_eq_false_iff_eq.1 hc2;refine QO<|Qk<|QC<|QB<|QA (Qw I I O)<|wB 2 I ?_
  exact Qm (i.next hlt h23) (by show l.length-(i.i+1)<l.length-i.i;omega) wU ((bZ _ QIM)) tA
 have hge:l.length<=i.i:=wk<|QJH hc2
 refine Qz ?_
 repeat first|refine QZ ?_|refine QQ wy ?_
 refine Qa<|QJM 7 I ?_
 exact QJO I I (congrArg (ah .i64) (by unfold YN;rw[if_neg O];exact i.stop hge)) w8
theorem Mt{a b:List UInt8}{r:Sr}(hF:Fits F w)(hGl:JE F)(ha:Jk a=0/\a.length<=1000000)(hb:Jk b=0/\b.length<=1000000)(hx:KO F r l)(hc:GZ r l)(ho:∀s∈l,XX s.1 s.2=0):QV prog 73 [tx a,r.v,tx b] w F (λ(c:js)=>c.v) (λc F=>Mg F c (Qo a) (Qo b) (l.map Q8)):=by
 refine QV.intro (G:=λF=>JE F/\KO F r l) func73 rfl wy rfl rfl hF (λF' hF'=>⟨hGl.le hF',hx.le hF'⟩)<|QI7<|Qc OY λb6=>QHz<|wR rfl<|QI rfl (λ_ _ f k=>Kj f k.1 (XH ha.1).1 O) λc8=>QH0 rfl<|QI rfl (λ_ _ f k=>Kj f k.1.1 (XH hb.1).1 O) λc10=>QH0 rfl<|QI rfl (λ_ _ f k=>BN f k.1.1.1 k.1.1.2.row k.1.1.2.len hc.n λs hs=>⟨ho s hs,hc.t s hs⟩) λc12=>QA (Q2 rfl zi OY (.cons (vs:=[_,_,_,_]) rfl rfl rfl .h4 (.cons (vs:=[_,_,_,_]) rfl rfl rfl (.skip (.skip (.skip (.skip .h4)))) (.cons (vs:=[_]) rfl rfl rfl (.skip (.skip (.skip (.skip (.skip (.skip (.skip (.skip .h1)))))))) .nil))))<|QU (vs:=[_,_,_,_,_,_,_,_,_]) rfl rfl rfl H4 rfl .here .h9 we<|QHz<|QY ?_
 exact QS ((⟨c8,c10,c12.1,c12.2⟩:js)) I (.JX (c:=[_,_,_,_,_,_,_,_,_]) I H4 .here .nil) (rfl) λF ⟨⟨⟨⟨hGl,hx⟩,h8⟩,h10⟩,h12⟩=>⟨h8,h10,h12⟩
def Yg(y:X5)(a:List UInt8)(l:List (List UInt8×List UInt8))(b:List UInt8):Int:=Qu [y.e,Jk a,YN y.nm.n l,Jk b]
theorem Wq{a b:List UInt8}{r:Sr}(hF:Fits F w)(hGl:JE F)(hy:ZH F y)(ht:Ww y)(hb:KO F r l)(hc:GZ r l)(ha:a.length<=1000000)(hb2:b.length<=1000000):Qg prog 70 [y.v,tx a,r.v,tx b] w F (.int .i64 (Yg y a l b)):=by
 refine QV.intro (G:=λF=>JE F/\ZH F y/\KO F r l) func70 rfl wy rfl rfl hF (λF' hF'=>⟨hGl.le hF',hy.le hF',hb.le hF'⟩)<|QI7<|Qs rfl (vs:=[_,_,_]) rfl λb4=>wQ rfl<|QG<|JH QIM mixed wm<|QK (wI I J8 .here)<|QP rfl (λ_ _ f k=>Zt (y:=y) f k.1 k.2.1 ht) λ_=>QK (QD rfl)<|QP rfl (λ_ _ f k=>Ek f k.1.1 O) λ_=>QK (wI I J8 .here)<|QK (QD rfl)<|QP rfl (λw F hF ⟨⟨⟨hGl,hy,hb⟩,_⟩,_⟩=>Y9 (y:=y) hF hGl hy hb hc) λ_=>QK (QD rfl)<|QP rfl (λ_ _ f k=>Ek f k.1.1.1.1 O) λ_=>?_
 refine Qp I (Q4 ZJ) YV Hz I I (λb18=>?_) (λw h=>h.imp tC λF h=>h.1.1.1.1);refine QP I (λ_ _ f k=>YY f (Qx.of (cs:=aT Jr [_,_,_,_]) k.2 I) wu) (λ_=>QK (QF I)<|Q7<|QC<|QY ?_);exact QJO I I (rfl) w8
theorem Tc{c:Fr}{x:Rat}(hF:Fits F w)(hGl:JE F)(hx:JN F c x)(hz:JU x<=2400)(hs:s.length<=1000000):Qg prog 164 [c.v,tx s] w F (.int .i64 (Na x s)):=by
 refine QV.intro (G:=λF=>JE F/\JN F c x) func164 rfl wy rfl rfl hF (λF' hF'=>⟨hGl.le hF',hx.le hF'⟩)<|QI7<|Qs rfl (vs:=[_,_,_,_]) rfl λb2=>wQ rfl<|QG<|wR rfl<|QI rfl (λ_ _ f k=>Ek f k.1 O) λ_=>wQ rfl<|wR rfl<|QA (QT rfl rfl rfl)<|QE<|QC ?_
 refine QR I (λhc2=>?_) λhc2=>?_
 ·have hc9:=bne_iff_ne.1 hc2;refine wA 7 I ?_;exact QJO I I (congrArg (ah .i64) (by unfold Na;rw[if_pos hc9])) w8
 have hc9:=bne_eq_false_iff_eq.1 hc2;have zs:=Yf hc9;refine QJL 3 I<|JH QIM mixed wm<|QK (QD I)<|QP I (λ_ _ f k=>Kj f k.1.1 (XH hc9).1 O) λc12=>QK (wJ I QN .here)<|QP I (λ_ _ f k=>Gv f k.2 k.1.1.2 O O) λ_=>QK (QT I I I)<|QP I (λ_ _ f k=>Be f ) λ_=>QK (QF I)<|Q7<|QC<|QY ?_
 exact QJO I I (congrArg (ah .i64) (by unfold Na;rw[if_neg (by simpa using hc9)];rfl)) w8
theorem IF{q:Option Addr}{l:List (List UInt8)}(hF:Fits F w)(hGl:JE F)(hR:Qx F q n 1 (l.map tx))(hn:l.length=n)(hl:n>1000\/∀s∈l,s.length<=1000000):Qg prog 89 [.slice q n c] w F (.int .i64 (NC l)):=by
 refine QV.intro (G:=λF=>JE F/\Qx F q n 1 (l.map tx)) func89 rfl wy rfl rfl hF (λF' hF'=>⟨hGl.le hF',hR.le hF'⟩)<|QI7<|wQ rfl<|QG<|wR rfl<|QA (Qh rfl KE)<|QA (QT rfl rfl rfl)<|QE<|QC ?_
 refine QR I (λhc2=>?_) λhc2=>?_
 ·have h9:=QJG hc2;refine wA 6 I ?_;exact QJO I I (congrArg (ah .i64) (by unfold NC;rw[if_pos O])) w8
 have h9:=QJH hc2;have hl2:∀s∈l,s.length<=1000000:=hl.resolve_left O;refine QJL 4 I<|QI I (λ_ _ f k=>TO (n:=0) f O O) λc10=>Qc Jy λb3=>QU (vs:=[_,_,_,_]) I I I QN I .here .h4 wV<|QJK 6 I<|QA (Qh I KE)<|QJK 4 I<|JV (ι:=QHJ l) [(3,_),(11,_),(12,_)] (λi=>[(13,.int .i64 ((i.i:Nat):Int))]) (λi=>[(b3,.cells (Kl i.c).toArray 118 (0,0))]) (λi F=>JN F i.c (Yy l i.i)) (λi=>l.length-i.i) (⟨ZO.start _ _,c10,by show JU ((0:Int):Rat)<=2400;decide⟩) wU wS QIM tB λi=>?_
 simp only[aa,ab];have hi:=i.le;rw[au]at hi;refine wA 6 I ?_;refine QR I (λhc2=>?_) λhc2=>?_
 ·have hlt:i.i<l.length:=wk<|QJG hc2
  have hem:=Qv hlt;refine QJL 6 I<|QA (Q3 (n:=n) i.i (λF h9=>h9.1.1.2) rfl rfl KE JP O)<|QA (Q5 (n:=n) ((i.i)*1) (λF h9=>h9.1.1.2) O rfl JP (XL (f:=tx) (l:=l) O))<|QJK 6 I<|QA (wJ I QN .here)<|QH0 I<|QI I (λ_ _ f k=>Tc f k.1.1.1 k.2 i.ok (hl2 _ hem)) λ_=>QJK 8 I ?_
  refine QC ?_;refine QR I (λhc2=>?_) λhc2=>?_
  ·have h21:=bne_iff_ne.1 hc2;refine wA 7 I ?_
   repeat first|refine Q6 ?_|refine Qy ?_
   exact QJO I I (congrArg (ah .i64) (by unfold NC;rw[if_neg O];have h9:=i.toZO.hit (by rw[au];exact hlt) (by rw[ZD hlt];exact h21);rw[ZD hlt]at h9;exact h9)) w8
  have h21:=bne_eq_false_iff_eq.1 hc2;refine QJL 4 I<|QI I (λ_ _ f k=>Kj f k.1.1.1.1 (XH (G3 h21).1).1 (wk<|hl2 _ hem)) λc24=>QU (vs:=[_,_,_,_]) I I I QN I .here .h4 wV<|QE<|Qk<|QC<|QB<|QA (Qw I I O)<|wB 2 I ?_
  exact Qm (⟨i.toZO.next (by rw[au];exact hlt) (by rw[ZD hlt];exact h21),c24,by show JU (Yy l (i.i+1))<=2400;rw[WO];exact Yf (G3 h21).1⟩) (by show l.length-(i.i+1)<l.length-i.i;omega) wV QIM λF h9=>⟨⟨⟨h9.1.1.1.1.1,h9.1.1.1.1.2⟩,h9.1.1.1.2⟩,by show JN F c24 (Yy l (i.i+1));rw[WO];exact h9.2⟩
 have hge:l.length<=i.i:=wk<|QJH hc2
 refine Qz ?_
 repeat first|refine QZ ?_|refine QQ wy ?_
 refine Qa<|QJM 7 I ?_
 exact QJO I I (congrArg (ah .i64) (by unfold NC;rw[if_neg O];exact i.toZO.stop (by rw[au];exact hge))) w8
def X5.rs(y:X5):List (List Tm):=y.rl.map λe=>X9 (YG e.2)
def X5.vs(y:X5):List (Rat×Rat):=y.sl.map Q8
structure vK(y:X5):Prop where
 n0:1<=y.nm.n
 n1:y.nm.n<=24
 rn:y.rt.n=y.nm.n
 sn:y.st.n=y.nm.n
 nm:DW y.nl=0
 pl:∀e∈y.rl,Dk (YG e.2) (y.nm.n:Int)
 st:∀s∈y.sl,XX s.1 s.2=0
theorem JA{l:List Int}(h:Qu l=0):∀x∈l,x=0:=by
 induction l with
 |nil=>intro x hx;cases hx
 |cons a l ih =>
  intro x hx;unfold Qu at h;by_cases g:a=0
  ·rw[if_pos g]at h;rcases List.mem_cons.1 hx with rfl | hx
   ·exact g
   exact ih h x hx
  rw[if_neg g]at h;exact absurd h g
theorem EV{a c:Int}(h:Qu [a,b,c]=0):a=0/\b=0/\c=0:=⟨JA h a (.head _),JA h b (.tail _ (.head _)),JA h c (.tail _ (.tail _ (.head _)))⟩
theorem ZH.ok(h:ZH F y)(he:y.e=0):vK y:=by
 have h1:=h.jg;have h2:=h.Kx;have h3:=h.P3;unfold X5.e at he;by_cases h0:DR y.nl.length (y.rl.map λe=>YG e.2).length y.sl.length=0
 ·rw[LN h0]at he;obtain⟨q1,q2,q3,q4⟩:=Tr h0;rw[ae]at q3;obtain⟨z1,z2,z3⟩:=EV he;refine⟨O,O,O,O,z1,λe hm=>?_,λs hm=>?_⟩
  ·have h5:=JA z2 _ (aj (aj hm));rw[h1]at h5;exact H9 h5
  exact JA z3 _ (aj hm)
 rw[xa h0]at he;exact absurd he h0
structure RdJ(y:X5) where
 i:Nat
 v:Value
 ob:List (Nat×Obj)
 ps:List WA
 le:i<=y.rl.length
 hr:Q9 172 1 v i (ps.map λe=>e.1.v) ob
 hq:jd ps=y.rs.take i
theorem RdJ.len(s:RdJ y):s.ps.length=s.i:=by
 have h:=congrArg bh s.hq;have h2:=s.le;unfold jd X5.rs at h;rw[ae,bB,ae]at h;omega
theorem O0(h:i<y.rl.length):y.rs.take (i+1)=y.rs.take i++[X9 (YG (el y.rl i).2)]:=by
 unfold X5.rs;rw[XU (by rw[ae];exact h)];congr 2;rw[JW (by rw[ae];exact h),aL,JW h]
theorem Nj.snoc{ps:List WA}{c:WA}{p:List Tm}(h:Nj F ps)(k:XR F c.1 c.2 p):Nj F (ps++[c]):=λe he=>by
 rcases List.mem_append.1 he with he | he
 ·exact h e he
 rw[List.mem_singleton.1 he,show J4 c.2=p from k.2.2.1];exact k
theorem ZX(hF:Fits F w)(hGl:JE F)(hy:ZH F y)(ht:Ww y)(ho:vK y):QV prog 65 [y.v] w F (λ(c:jq)=>.pointer (some ⟨c.b,0,none⟩)) (λc F=>GX F c y.rs y.vs):=by
 have hrl:=hy.Kx;have hsl:=hy.P3;have hn1:=ho.n1;have hrn:=ho.rn;have hsn:=ho.sn;refine QV.intro (G:=λF=>JE F/\ZH F y) func65 rfl wy rfl rfl hF (λF' hF'=>⟨hGl.le hF',hy.le hF'⟩)<|QI7<|Qs rfl (vs:=[_,_,_]) rfl λb1=>wQ rfl<|QI7<|QA (QH rfl YL JZ)<|QA (Qf rfl JZ .here (.skip (.skip .h1)))<|QI rfl (λ_ _ f k=>BN f k.1 k.2.st hsl O λs hs=>⟨ho.st s hs,ht.st s hs⟩) λc8=>QA (Q2 rfl QA6 QDV (.cons (vs:=[_]) rfl rfl rfl (.skip .h1) .nil))<|Qs rfl (vs:=[_,_]) rfl λb10=>wQ rfl<|QG<|QI7<|QA (QH rfl WZ Yx)<|QA (Qf rfl Yx .u1 (.skip .h1))<|QA (Qh rfl V7)<|QH0 rfl<|QE ?_
 refine QC<|QW<|JV (ι:=RdJ y) [(3,_),(12,_),(13,_)] (λi=>[(14,.int .i64 ((i.i:Nat):Int))]) (λi=>(b10,.cells #[i.v,.slice c8.1.q c8.1.n c8.1.cap] 151 (0,0))::i.ob) (λi F=>Nj F i.ps) (λi=>y.rl.length-i.i) (⟨0,.slice none 0 0,[],[],ao _,.nil,rfl⟩) wU wS (tE) (λ_ _ _ h=>by cases h) λi=>?_
 simp only[aa,ab];have hi:=i.le;refine wA 6 I ?_;refine QR I (λhc=>?_) λhc=>?_
 ·have hlt:i.i<y.rl.length:=wk<|QJG hc
  have hem:=Qv hlt;refine QJL 6 I<|QA (Q3 (n:=y.rt.n) i.i (λF h9=>h9.1.1.2.rt) rfl rfl V7 Wh O)<|QA (Q5 (n:=y.rt.n) ((i.i)*1) (λF h9=>h9.1.1.2.rt) O rfl Wh (XL (f:=λe:SD=>e.1.v) (l:=y.rl) O))<|wQ I<|Jp 11 tE mixed wm wm ?_
  simp only[aA,aG,aB,aJ];refine QK (QD I)<|QK (QD I)<|QK (ZY I)<|QK (QH I Bi YJ)<|QK (Qf I YJ .here .h1)<|QK (QD I)<|QP I (λ_ _ f k=>Nr f k.1.1.1 (k.1.1.2.pl _ hem).1 (k.1.1.2.pl _ hem).2 (ht.tm _ hem) (ho.pl _ hem) O) λc24=>YU _ (λ_ _ f h=>h.2.2.2.1) λe24=>?_
  refine Qp I (Q4 YW) YI U8 I I (λb25=>?_) (λw h=>h.imp tE tA);refine Y4 (af (l₁:=[_])) ?_;refine KM (n:=i.i) (k:=1) (sz:=1) (news:=[c24.1.v]) I I YW YI U8 I kX i.hr (Src.row (off:=0) tB (λj q hq=>by rw[ay];rw[ag];exact hq) rfl) O O (λv hv=>by rw[List.mem_singleton.1 hv];rfl) QIM (λ_ h=>h.1.1) (λv26 ob26 hr26=>?_);refine Y4 (af (l₂:=[_]))<|QK (ZY I)<|QK (QH I Bi YJ)<|ZV<|QU (vs:=[v26]) I I hr26.one.2 YJ I .here .h1 ⟨hr26.one.1,trivial⟩<|QE<|Qk<|QC<|QB<|QA (Qw I I O)<|wB 2 I ?_
  exact Qm (⟨i.i+1,v26,ob26,i.ps++[c24],hlt,by rw[ak];exact hr26,by unfold jd;rw[ak,O0 hlt,<-e24];exact congrArg (·++_) i.hq⟩) (by show y.rl.length-(i.i+1)<y.rl.length-i.i;omega) wV QIM λF ⟨⟨⟨⟨⟨hGl,hy⟩,h8⟩,hS⟩,h24⟩,hs25⟩=>⟨⟨⟨hGl,hy⟩,h8⟩,hS.snoc h24⟩
 have hge:i.i=y.rl.length:=by have:=QJH hc;have:=i.le;omega
 refine Qz ?_
 repeat first|refine QZ ?_|refine QQ wy ?_
 refine Qa<|QJM 3 I ?_
 have hxl:=i.len;obtain⟨⟨rq,rn,rc⟩,hv2,hrn,hrc,hfix⟩:=Q9.fix (w0:=w) (F0:=F) (bs1:=[_]) (G:=_) i.hr;dsimp only at hrn hrc hfix;subst hrn;refine YS hfix ?_;rw[hv2];dsimp only[Sr.v];refine Yw (b:=b10) .here<|QJK 5 I ?_
 exact QS ((⟨b10,⟨rq,i.i,rc⟩,i.ps,c8.1,c8.2⟩:jq)) I (wN I) (rfl) λF h9=>⟨h9.2,h9.1.2,h9.1.1.2,by have e:=i.hq;rw[hge]at e;rw[e];exact aS (by unfold X5.rs;rw[ae];exact aD _),hxl,h9.1.1.1.2⟩
structure R6(F:Gs)(c:Sr×List WA)(rs:List (List Tm)):Prop where
 row:Qx F c.1.q c.1.n 1 (c.2.map λe=>e.1.v)
 pls:Nj F c.2
 val:jd c.2=rs
 len:c.2.length=c.1.n
theorem R6.le{c:Sr×List WA}{rs:List (List Tm)}(h:R6 F c rs)(k:Gs.le F F'):R6 F' c rs:=⟨h.row.le k,λe he=>(h.pls e he).le k,h.val,h.len⟩
theorem R6.Kx{c:Sr×List WA}{rs:List (List Tm)}(h:R6 F c rs):rs.length=c.1.n:=by rw[<-h.val,<-h.len];simp[jd]
theorem R6.at{c:Sr×List WA}{rs:List (List Tm)}(h:R6 F c rs){i:Nat}(hi:i<c.1.n):XR F (el c.2 i).1 (el c.2 i).2 (J4 (el c.2 i).2)/\J4 (el c.2 i).2=el rs i:=by
 have h1:=h.len;refine⟨h.pls _ (Qv O),?_⟩;rw[<-h.val,JW (show i<c.2.length by omega),JW (by simp[jd];omega)];simp[jd]
def QD7(y:X5)(c:Sr×List WA):List Value:=[.slice y.nm.q y.nm.n y.nm.cap,.slice y.rt.q y.rt.n y.rt.cap,.slice y.st.q y.st.n y.st.cap,.int .i64 ((y.nm.n:Int)+1),c.1.v]
theorem pY(hF:Fits F w)(hGl:JE F)(hy:ZH F y)(ht:Ww y)(he:y.e=0):QV prog 236 [y.v] w F (λ(c:Sr×List WA)=>.tuple #[.agg (QD7 y c).toArray,.int .i64 0]) (λc F=>R6 F c y.rs):=by
 have ho:=hy.ok he;have hrl:=hy.Kx;have hsl:=hy.P3;have hn1:=ho.n1;have hrn:=ho.rn;have hsn:=ho.sn;refine QV.intro (G:=λF=>JE F/\ZH F y) func236 rfl wy rfl rfl hF (λF' hF'=>⟨hGl.le hF',hy.le hF'⟩)<|QI7<|Qs rfl (vs:=[_,_,_]) rfl λb1=>Qc Sf λb2=>wQ rfl<|QG<|QI7<|QA (wI I J8 .u1)<|QI rfl (λ_ _ f k=>Zt (y:=y) f k.1 k.2 ht) λ_=>?_
 rw[he];refine QJK 9 I ?_;refine QR I (λhc=>?_) λhc=>?_
 ·exact absurd hc (wz)
 refine QJL 4 I<|QA (wI I J8 .u1)<|QA (QH rfl Hl VG)<|QA (Qf rfl VG .u1 .h1)<|QA (Qh rfl Ku)<|QA (Qw rfl rfl O)<|QA (Q2 rfl QA5 Sf (.cons (vs:=[_,_,_]) rfl rfl rfl .h3 (.cons (vs:=[_]) rfl rfl rfl (.skip (.skip (.skip .h1))) (.cons (vs:=[_]) rfl rfl rfl (.skip (.skip (.skip (.skip .h1)))) .nil))))<|Qc Sf λb5=>QU (vs:=[_,_,_,_,_]) rfl rfl rfl Ge rfl .here .h5 wW<|QJK 5 I<|QA (QH rfl WZ Yx)<|QA (Qf rfl Yx .u2 (.skip .h1))<|QA (Qh rfl V7)<|QH0 rfl<|QHz<|QW<|JV (ι:=RdJ y) [(2,_),(5,_),(21,_),(22,_)] (λi=>[(23,.int .i64 ((i.i:Nat):Int))]) (λi=>(b5,.cells #[.slice y.nm.q y.nm.n y.nm.cap,.slice y.rt.q y.rt.n y.rt.cap,.slice y.st.q y.st.n y.st.cap,.int .i64 ((y.nm.n:Int)+1),i.v] 235 (0,0))::(b2,.cells [.slice none 0 0,.slice none 0 0,.slice none 0 0,.int .i64 0,.slice none 0 0].toArray 235 (0,0))::i.ob) (λi F=>Nj F i.ps) (λi=>y.rl.length-i.i) (⟨0,.slice none 0 0,[],[],ao _,.nil,rfl⟩) wV wS (tF) (λ_ _ _ h=>by cases h) λi=>?_
 simp only[aa,ab];have hi:=i.le;refine wA 6 I ?_;refine QR I (λhc=>?_) λhc=>?_
 ·have hlt:i.i<y.rl.length:=wk<|QJG hc
  have hem:=Qv hlt;refine QJL 6 I<|QA (Q3 (n:=y.rt.n) i.i (λF h9=>h9.1.1.2.rt) rfl rfl V7 Wh O)<|QA (Q5 (n:=y.rt.n) ((i.i)*1) (λF h9=>h9.1.1.2.rt) O rfl Wh (XL (f:=λe:SD=>e.1.v) (l:=y.rl) O))<|wQ I<|Jp 7 tF mixed wm wm ?_
  simp only[aA,aG,aB,aJ];refine QK (QH I Uh YJ)<|QK (Qf I YJ .here (.skip (.skip (.skip (.skip .h1)))))<|QK (QD I)<|QP I (λ_ _ f k=>Nr f k.1.1.1 (k.1.1.2.pl _ hem).1 (k.1.1.2.pl _ hem).2 (ht.tm _ hem) (ho.pl _ hem) O) λc30=>YU _ (λ_ _ f h=>h.2.2.2.1) λe30=>?_
  refine Qp I (Q4 YW) YI U8 I I (λb31=>?_) (λw h=>h.imp tF tA);refine Y4 (af (l₁:=[_,_])) ?_;refine KM (n:=i.i) (k:=1) (sz:=1) (news:=[c30.1.v]) I I YW YI U8 I kX i.hr (Src.row (off:=0) tB (λj q hq=>by rw[ay];rw[ag];exact hq) rfl) O O (λv hv=>by rw[List.mem_singleton.1 hv];rfl) QIM (λ_ h=>h.1.1) (λv32 ob32 hr32=>?_);refine Y4 (af (l₂:=[_,_]))<|QK (QH I Uh YJ)<|ZV<|QU (vs:=[v32]) I I hr32.one.2 YJ I .here (.skip (.skip (.skip (.skip .h1)))) ⟨hr32.one.1,trivial⟩<|QE<|Qk<|QC<|QB<|QA (Qw I I O)<|wB 2 I ?_
  exact Qm (⟨i.i+1,v32,ob32,i.ps++[c30],hlt,by rw[ak];exact hr32,by unfold jd;rw[ak,O0 hlt,<-e30];exact congrArg (·++_) i.hq⟩) (by show y.rl.length-(i.i+1)<y.rl.length-i.i;omega) wW QIM λF h9=>⟨⟨⟨h9.1.1.1.1.1,h9.1.1.1.1.2⟩,trivial⟩,h9.1.1.2.snoc h9.1.2⟩
 have hge:i.i=y.rl.length:=by have:=QJH hc;have:=i.le;omega
 refine Qz ?_
 repeat first|refine QZ ?_|refine QQ wy ?_
 refine Qa<|QJM 3 I ?_
 have hxl:=i.len;obtain⟨⟨rq,rn,rc⟩,hv2,hrn,hrc,hfix⟩:=Q9.fix (w0:=w) (F0:=F) (bs1:=[_,_]) (G:=_) i.hr;dsimp only at hrn hrc hfix;subst hrn;refine YS hfix ?_;rw[hv2];dsimp only[Sr.v];refine QA (QJ (vs:=[_,_,_,_,_]) I Ge .here .h5 rfl)<|QU (vs:=[_,_,_,_,_]) I I I Ge I .u1 .h5 wW<|wQ I<|QY ?_
 exact Jd (((⟨rq,i.i,rc⟩,i.ps):Sr×List WA)) I (.JX (c:=[_,_,_,_,_]) I Ge .u1 (wN I)) (rfl) λF h9=>⟨h9.2,h9.1.2,by have e:=i.hq;rw[hge]at e;rw[e];exact aS (by unfold X5.rs;rw[ae];exact aD _),hxl⟩
def Uo(rs:List (List Tm))(p:List Tm):Nat->List Tm
 |0=>Xv (Yz 0 p)
 |k+1=>Xv (Uo rs p k++Xv (Zs (Xv (Yz (k+1) p)) (el rs k)))
structure Ck(rs:List (List Tm))(p:List Tm)(N:Nat):Prop where
 n:N=rs.length+1
 n1:N<=1000
 lp:p.length<=100000
 pw:∀t∈p,PW t.2/\t.2.length=N
 sp:∀t∈p,JU t.1<=20000000
 der:∀v,v<=rs.length->KD (Yz v p)<=40000000
 mul:∀k,k<rs.length->k7 (Xv (Yz (k+1) p)) (el rs k) N
 add:∀k,k<rs.length->vJ (Uo rs p k) (Xv (Zs (Xv (Yz (k+1) p)) (el rs k)))
structure QHN(n:Nat) where
 i:Nat
 c:WA
 le:i<=n
theorem XR.eqT{s:Sr}{ts:List ZW}{p:List Tm}(h:XR F s ts p):J4 ts=p:=h.2.2.1
theorem XR.self{s:Sr}{ts:List ZW}{p:List Tm}(h:XR F s ts p):XR F s ts (J4 ts):=by rw[h.eqT];exact h
theorem yv{c:Sr×List WA}{rs:List (List Tm)}{p:WA}{N:Nat}(hF:Fits F w)(hGl:JE F)(hr:R6 F c rs)(hP:XR F p.1 p.2 (J4 p.2))(ho:Ck rs (J4 p.2) N):QV prog 189 [c.1.v,p.1.v] w F (λ(d:WA)=>d.1.v) (λd F=>XR F d.1 d.2 (Uo rs (J4 p.2) rs.length)):=by
 have hrl:=hr.Kx;have hrn:=hr.len;have hn:=ho.n;have hn1:=ho.n1;have hpd:∀v,v<=rs.length->∀t∈p.2,PW t.t.2/\v<t.t.2.length:=λv hv t ht=>⟨(ho.pw _ (aj ht)).1,by rw[(ho.pw _ (aj ht)).2];omega⟩;have hlp:p.2.length<=100000:=by have:=ho.lp;rwa [Ye]at this
 refine QV.intro (G:=λF=>JE F/\R6 F c rs/\XR F p.1 p.2 (J4 p.2)) func189 rfl wy rfl rfl hF (λF' hF'=>⟨hGl.le hF',hr.le hF',hP.le hF'⟩)<|QI7<|wQ rfl<|wR rfl<|QI rfl (λ_ _ f k=>Lk (v:=0) f k.1 k.2.2 (hpd 0 O) hlp (λt ht=>ho.sp _ (aj ht)) (ho.der 0 O)) λc9=>wQ rfl<|QG<|wR rfl<|QA (Qh rfl YW)<|QH0 rfl<|QHz<|QW<|JV (ι:=QHN rs.length) [(1,_),(10,_),(11,_)] (λi=>[(5,.slice i.c.1.q i.c.1.n i.c.1.cap),(12,.int .i64 ((i.i:Nat):Int))]) (λi=>[]) (λi F=>XR F i.c.1 i.c.2 (Uo rs (J4 p.2) i.i)) (λi=>rs.length-i.i) (⟨0,c9,ao _⟩) wU wT QIM tB λi=>?_
 simp only[aa,ab];have hi:=i.le;refine wA 6 I ?_;refine QR I (λhc2=>?_) λhc2=>?_
 ·have hlt:i.i<rs.length:=wk<|QJG hc2
  refine XS _ (λw F hF ⟨⟨⟨hGl,hr,hP⟩,h9⟩,hA⟩=>ar (hr.at (show i.i<c.1.n by omega)).2 hA.eqT) (λhpp=>?_);obtain⟨hea,eA⟩:=hpp;refine QJL 7 I<|QA (Q3 (n:=c.1.n) i.i (λF h9=>h9.1.1.2.1.row) rfl rfl YW YI O)<|QA (Q5 (n:=c.1.n) ((i.i)*1) (λF h9=>h9.1.1.2.1.row) O rfl YI (XL (f:=λe:WA=>e.1.v) (l:=c.2) O))<|QJK 8 I<|QA (Qw I I O) ?_
  rw[show(((i.i:Nat):Int)+1)=((i.i+1:Nat):Int)from rfl];refine QI I (λ_ _ f k=>Lk (v:=i.i+1) f k.1.1.1 k.1.1.2.2 (hpd _ O) hlp (λt ht=>ho.sp _ (aj ht)) (ho.der _ O)) (λc21=>JM _ (λ_ _ f h=>h.2.eqT) λe21=>QH0 I<|QI I (λ_ _ f k=>ze (q:=el c.2 i.i) (N:=N) f k.1.1.1.1 k.2.self (k.1.1.1.2.1.at O).1 hn1 (by rw[e21,hea];exact ho.mul _ hlt)) λc23=>JM _ (λ_ _ f h=>h.2.eqT) λe23=>?_);rw[e21,hea]at e23;refine QI I (λ_ _ f k=>zr (p:=i.c) f k.1.1.1.1.1 k.1.1.2.self k.2.self (by rw[eA,e23];exact ho.add _ hlt)) (λc24=>JM _ (λ_ _ f h=>h.2.eqT) λe24=>?_);rw[eA,e23]at e24;refine wB 2 I<|Qk<|QC<|QB<|QA (Qw I I O)<|wB 2 I ?_
  exact Qm (⟨i.i+1,c24,hlt⟩) (by show rs.length-(i.i+1)<rs.length-i.i;omega) wW QIM λF ⟨⟨⟨⟨⟨⟨hGl,hr,hP⟩,h9⟩,hA⟩,h21⟩,h23⟩,h24⟩=>⟨⟨⟨hGl,hr,hP⟩,h9⟩,by show XR F c24.1 c24.2 (Xv (Uo rs (J4 p.2) i.i++Xv (Zs (Xv (Yz (i.i+1) (J4 p.2))) (el rs i.i))));rw[<-e24];exact h24.self⟩
 have hge:i.i=rs.length:=by have:=QJH hc2;have:=i.le;omega
 refine Qz ?_
 repeat first|refine QZ ?_|refine QQ wy ?_
 refine Qa<|QJM 8 I ?_
 exact QS (i.c) rfl (wN I) (rfl) λF h=>by have h1:=h.2;rw[hge]at h1;exact h1
theorem pe{a:SD}(hF:Fits F w)(hGl:JE F)(hy:ZH F y)(ht:Ww y)(he:y.e=0)(hR:Qx F a.1.q a.1.n 2 (a.2.flatMap DM))(hA:VT F a.2)(hta:Uq a)(hpe:Za (YG a.2) (y.nm.n:Int)=0):QV prog 188 [y.v,a.1.v] w F (λ(c:(Sr×List WA)×WA)=>.tuple #[.agg (QD7 y c.1).toArray,c.2.1.v,.int .i64 0]) (λc F=>R6 F c.1 y.rs/\XR F c.2.1 c.2.2 (X9 (YG a.2))):=by
 have ho:=hy.ok he;have hn1:=ho.n1;have hn0:=ho.n0;refine QV.intro (G:=λF=>JE F/\ZH F y/\Qx F a.1.q a.1.n 2 (a.2.flatMap DM)/\VT F a.2) func188 rfl wy rfl rfl hF (λF' hF'=>⟨hGl.le hF',hy.le hF',hR.le hF',hA.le hF'⟩)<|QI7<|Qs rfl (vs:=[_,_,_]) rfl λb2=>Qc Sf λb4=>QH1 rfl<|wQ rfl<|QI7<|QA (wI I J8 .u1)<|QI rfl (λ_ _ f k=>pY (y:=y) f k.1 k.2.1 ht he) λc11=>QH0 rfl<|QA (QX rfl rfl)<|QA (QX rfl rfl)<|Qc Sf λb7=>QU (vs:=[_,_,_,_,_]) rfl rfl rfl Ge rfl .here .h5 wW<|wQ rfl<|QG<|QI7<|QH0 rfl ?_
 refine QJK 3 I ?_;refine QR I (λhc=>?_) λhc=>?_
 ·refine wA 2 I<|QA (QH I pj JO)<|QA (Qf I JO .here (.skip (.skip (.skip .h1))))<|QA (X3 I I O) ?_
  rw[show((y.nm.n:Int)+1-1)=y.nm.n by omega];refine QI I (λ_ _ f k=>Gy f k.1.1 k.1.2.2.1 k.1.2.2.2 hta.1 hta.2.1 hta.2.2) (λ_=>?_);rw[show HZ (YG a.2) (y.nm.n:Int)=0 by unfold HZ;rw[if_pos ((Bp _).2 O)];exact hpe];refine QJK 10 I ?_;refine QR I (λhc=>?_) λhc=>?_
  ·exact absurd hc (wz)
  refine QJL 3 I<|JH (.cons_cons _ (.cons _ tC)) mixed wm<|QK (QJ (vs:=[_,_,_,_,_]) I Ge .here .h5 rfl)<|QK (QD I)<|QP I (λ_ _ f k=>Nr f k.1.1.1 (a:=a) k.1.1.2.2.1 k.1.1.2.2.2 hta (H9 hpe) O) λc27=>JR (vs:=[_,_,_,_,_]) I I I Ge I .u1 tC tA .h5 wW<|QK (QF I)<|QK (QF I)<|Q7<|QC<|QY ?_
  exact Jd (((c11,c27):(Sr×List WA)×WA)) I (.JX (c:=[_,_,_,_,_]) I Ge .u1 (wO I I)) (rfl) λF h9=>⟨h9.1.1.2,h9.2⟩
 exact absurd hc (wz)
theorem UU{a:SD}(hF:Fits F w)(hGl:JE F)(hy:ZH F y)(ht:Ww y)(he:y.e=0)(hR:Qx F a.1.q a.1.n 2 (a.2.flatMap DM))(hA:VT F a.2)(hta:Uq a)(hpe:Za (YG a.2) (y.nm.n:Int)=0)(hok:Ck y.rs (X9 (YG a.2)) (y.nm.n+1)):Qg prog 114 [y.v,a.1.v] w F (.tuple #[.bool (decide (Uo y.rs (X9 (YG a.2)) y.rs.length=[])),.int .i64 0]):=by
 refine QV.intro (G:=λF=>JE F/\ZH F y/\Qx F a.1.q a.1.n 2 (a.2.flatMap DM)/\VT F a.2) func114 rfl wy rfl rfl hF (λF' hF'=>⟨hGl.le hF',hy.le hF',hR.le hF',hA.le hF'⟩)<|QI7<|Qs rfl (vs:=[_,_,_]) rfl λb2=>QH1 rfl<|wQ rfl<|QI7<|QA (wI I J8 .here)<|QH0 rfl<|QI rfl (λw F hF ⟨hGl,hy,hR,hA⟩=>pe (y:=y) hF hGl hy ht he hR hA hta hpe) λc12=>JM _ (λ_ _ f h=>h.2.2.eqT) λe12=>QH0 rfl<|QA (QX rfl rfl)<|QA (QX rfl rfl)<|QA (QX rfl rfl)<|Qc Sf λb6=>QU (vs:=[_,_,_,_,_]) rfl rfl rfl Ge rfl .here .h5 wW<|QH1 rfl<|wQ rfl<|QG ?_
 refine wA 6 I ?_;refine QR I (λhc=>?_) λhc=>?_
 ·exact absurd hc (wz)
 refine QJL 4 I<|QA (QH I Uh YJ)<|QA (Qf I YJ .here (.skip (.skip (.skip (.skip .h1)))))<|QH0 I<|QI I (λ_ _ f k=>yv (N:=y.nm.n+1) f k.1.1 k.2.1 k.2.2.self (by rw[e12];exact hok)) λc22=>JM _ (λ_ _ f h=>ar h.2.len h.2.2.2.2.2) λe22=>?_
 obtain⟨e22,l22⟩:=e22;rw[e12]at e22;refine QA (Qh I Yp)<|QJK 6 I ?_
 exact Jd (()) I (wO I I) (congrArg (λb=>bT #[.bool b,.int .i64 0]) (decide_eq_decide.2 (by rw[<-List.length_eq_zero_iff,<-e22,l22];omega))) w8
theorem Gi{F:Gs}{a b:List UInt8}(h:Yg y a l b=0):y.e=0/\Jk a=0/\YN y.nm.n l=0/\Jk b=0:=by
 unfold Yg at h;exact⟨JA h _ (.head _),JA h _ (.tail _ (.head _)),JA h _ (.tail _ (.tail _ (.head _))),JA h _ (.tail _ (.tail _ (.tail _ (.head _))))⟩
theorem Xs(h:YN n l=0):l.length=n/\∀s∈l,XX s.1 s.2=0:=by
 unfold YN at h;by_cases g:l.length≠n
 ·rw[if_pos g]at h;cases h
 rw[if_neg g]at h;exact⟨O,λs hs=>JA h _ (aj hs)⟩
def lV(l:List (List UInt8×List UInt8)):List (Rat×Rat):=l.map Q8
theorem Xc(l:List (List UInt8×List UInt8)):(lV l).length=l.length:=by simp[lV]
theorem GX.pn{y:jq}{rs:List (List Tm)}{vs:List (Rat×Rat)}(h:GX F y rs vs)(hk:∀l∈rs,l.length<=k):∀e∈y.ps,e.1.n<=k:=λe he=>by
 have h1:=(h.pls e he).2.2.2.2;have h2:=hk (J4 e.2) (by rw[<-h.val];exact aj (f:=λe:WA=>J4 e.2) he);rw[Ye]at h2;omega
theorem vK.short(h:vK y):∀l∈y.rs,l.length<=64:=λl hl=>by
 unfold X5.rs at hl;obtain⟨e,he,rfl⟩:=List.mem_map.1 hl;unfold X9;rw[ae];exact(h.pl e he).len
theorem J7.nl{r:Sr}{l:List Ys}{vs:List (Rat×Rat)}(h:J7 F r l vs):r.n=vs.length:=h.YH.symm
def jb(y:X5)(a:List UInt8)(l:List (List UInt8×List UInt8))(b:List UInt8)(lw:List (List UInt8×List UInt8)):Int:=if Yg y a l b=0 then Qu [YN y.nm.n lw,Vb (Qo a) (Qo b)]else Yg y a l b
structure QE8(rs:List (List Tm))(fr t2:Rat)(x on:List (Rat×Rat)):Prop where
 mv:jv rs fr t2 x on
 sz:∀v∈Z4 rs fr t2 x on,XN v 100000000
theorem QBT(h:YN n l=0):∀v∈lV l,XN v 2400:=λv hv=>by
 unfold lV at hv;obtain⟨s,hs,rfl⟩:=List.mem_map.1 hv;have h1:=Bs ((Xs h).2 s hs);exact⟨Yf h1.1,Yf h1.2.1⟩
theorem CN{a b:List UInt8}{r:Sr}{rz:Sr}{lw:List (List UInt8×List UInt8)}(hF:Fits F w)(hGl:JE F)(hy:ZH F y)(ht:Ww y)(hx:KO F r l)(hc:GZ r l)(ha:a.length<=1000000)(hb:b.length<=1000000)(hxw:KO F rz lw)(hcw:GZ rz lw)(hok:jb y a l b lw=0->QE8 y.rs (Qo a) (Qo b) (lV l) (lV lw)):Qg prog 19 [y.v,tx a,r.v,tx b,rz.v] w F (.tuple #[.bool (decide (jb y a l b lw=0)&&U7 (Z4 y.rs (Qo a) (Qo b) (lV l) (lV lw)) (lV lw)),.int .i64 (jb y a l b lw)]):=by
 refine QV.intro (G:=λF=>JE F/\ZH F y/\KO F r l/\KO F rz lw) func19 rfl wy rfl rfl hF (λF' hF'=>⟨hGl.le hF',hy.le hF',hx.le hF',hxw.le hF'⟩)<|QI7<|Qs rfl (vs:=[_,_,_]) rfl λb5=>QH1 rfl<|wQ rfl<|QI7<|QA (wI I J8 .here)<|QH0 rfl<|QH0 rfl<|QH0 rfl<|QI rfl (λ_ _ f k=>Wq (y:=y) f k.1 k.2.1 ht k.2.2.1 hc ha hb) λ_=>QH1 rfl<|QE<|QC ?_
 refine Zc [(1,_),(2,_),(3,_),(4,_),(5,_)] [(12,.int .i64 (jb y a l b lw))] wW ?_ ?_
 ·refine wA 6 I ?_;refine QR I (λhc2=>?_) λhc2=>?_
  ·have h20s:Yg y a l b=0:=by simpa using hc2
   have h20:=Gi (F:=F) h20s;refine QB<|QA (wI I J8 .here)<|QH0 I<|QI I (λ_ _ f k=>Y9 (y:=y) f k.1.1 k.1.2.1 k.1.2.2.2 hcw) λ_=>wB 2 I<|QI I (λ_ _ f k=>Vt f k.1.1.1 ⟨h20.2.1,ha⟩ ⟨h20.2.2.2,hb⟩) λ_=>Qb I (Q4 ZJ) YV Hz I I λb27=>QI I (λ_ _ f k=>YY f (Qx.of (cs:=aT Jr [_,_]) k.2 I) wu) λ_=>wB 2 I ?_
   exact JY ⟨rfl,rfl,rfl,rfl,rfl,(congrArg (λb=>some (ah .i64 b)) (by unfold jb;rw[if_pos h20s])),trivial⟩ QIM λ_ h=>h.1.1.1.1
  have h20s:¬Yg y a l b=0:=by simpa using hc2
  refine QO ?_;exact JY ⟨rfl,rfl,rfl,rfl,rfl,(congrArg (λb=>some (ah .i64 b)) (by unfold jb;rw[if_neg h20s])),trivial⟩ QIM w9
 simp only[aa,ab];refine wA 7 I ?_;refine QR I (λhc2=>?_) λhc2=>?_
 ·have h30:=bne_iff_ne.1 hc2;refine wA 8 I ?_;exact Jd (()) I (wO I I) (congrArg (λz=>bT #[.bool z,.int .i64 (jb y a l b lw)]) (by rw[decide_eq_false h30];rfl)) w8
 have h30:=bne_eq_false_iff_eq.1 hc2;have hok:=hok h30;have hs0:Yg y a l b=0:=by
  unfold jb at h30;by_cases g:Yg y a l b=0
  ·exact g
  rw[if_neg g]at h30;exact absurd h30 g
 have hst:=Gi (F:=F) hs0;have hbw:YN y.nm.n lw=0:=by unfold jb at h30;rw[if_pos hs0]at h30;exact JA h30 _ (.head _)
 have ho:=hy.ok hst.1;have hn1:=ho.n1;have hn0:=ho.n0;have hrn:=ho.rn;have hxl:=(Xs hst.2.2.1).1;have hwl:=(Xs hbw).1;have hrs:y.rs.length=y.nm.n:=by unfold X5.rs;rw[ae,hy.Kx,hrn]
 refine QO<|QC<|wR rfl<|QI rfl (λ_ _ f k=>BN f k.1.1 k.1.2.2.2.row k.1.2.2.2.len hcw.n λs hs=>⟨(Xs hbw).2 s hs,hcw.t s hs⟩) λc33=>wQ rfl<|QI7<|QA (wI I J8 .here)<|QI rfl (λ_ _ f k=>ZX (y:=y) f k.1.1.1 k.1.1.2.1 ht ho) λc35=>QH0 rfl<|QH0 rfl<|QH0 rfl<|QI rfl (λ_ _ f k=>Mt f k.1.1.1.1 ⟨hst.2.1,ha⟩ ⟨hst.2.2.2,hb⟩ k.1.1.1.2.2.1 hc (Xs hst.2.2.1).2) λc39=>JM _ (λw F hF ⟨⟨⟨⟨⟨hGl,hy,hx,hxw⟩,_⟩,h33⟩,h35⟩,h39⟩=>ar h33.nl (ar h39.bx.nl (ar h35.Kx (h35.pn ho.short)))) λhnn=>?_
 obtain⟨hn33,hn39,hn35,hp35⟩:=hnn;rw[ae]at hn33 hn39;refine QH0 I<|QI I (λ_ _ f k=>MI f k.1.2 k.2 k.1.1.2 O O O (λe he=>wk<|hp35 e he) hok.mv) λc41=>QH0 I<|QI I (λ_ _ f k=>TT f k.2 k.1.1.1.2 (by rw[k.2.nl,Z3,ae];omega) (by rw[k.2.nl,Z3,ae];omega) hok.sz λv hv=>(QBT hbw v hv).mono wu) λ_=>QJK 5 I ?_
 exact Jd (()) I (wO I I) (by rw[h30];rfl) w8
def Wf(F:Gs)(c:Sr)(vs:List (Rat×Rat)):Prop:=Qx F c.q c.n 2 (vs.flatMap QAT)/\c.n=vs.length/\c.n<=c.cap
theorem Wf.nil(F:Gs):Wf F ⟨none,0,0⟩ []:=⟨Qx.nil F none 2,rfl,aD _⟩
def O9(e:Int)(o:Option (List (Rat×Rat))):Int×List (Rat×Rat):=if e≠0 then(e,[])else match o with
 |none=>(25,[])
 |some v=>(if Jv v=true then 4 else 0,if Jv v=true then[]else v)
theorem S8{e:Int}{o:Option (List (Rat×Rat))}(h:e≠0):O9 e o=(e,[]):=by unfold O9;rw[if_pos h]
theorem Ar:O9 0 none=(25,[]):=rfl
theorem DH(v:List (Rat×Rat)):O9 0 (some v)=(if Jv v=true then 4 else 0,if Jv v=true then[]else v):=rfl
theorem DS{a b:List UInt8}{r:Sr}(hF:Fits F w)(hGl:JE F)(ha:Jk a=0/\a.length<=1000000)(hb:Jk b=0/\b.length<=1000000)(hx:KO F r l)(hc:GZ r l)(ho:∀s∈l,XX s.1 s.2=0):QV prog 73 [tx a,r.v,tx b] w F (λ(c:js)=>c.v) (λc F=>Mg F c (Qo a) (Qo b) (lV l)):=Mt hF hGl ha hb hx hc ho
theorem BA{r:Sr}(hF:Fits F w)(hGl:JE F)(hx:KO F r l)(hc:GZ r l)(ho:∀s∈l,XX s.1 s.2=0):WT prog 68 [r.v] w F (lV l):=BN hF hGl hx.row hx.len hc.n λs hs=>⟨ho s hs,hc.t s hs⟩
def MM(y:X5)(a:List UInt8)(l:List (List UInt8×List UInt8))(b:List UInt8)(bits:Int):Int:=if Qu [Yg y a l b,VM bits]=0 then Vb (Qo a) (Qo b)else Qu [Yg y a l b,VM bits]
theorem Ry(h:VM b=0):0<=b/\b<=64:=by
 unfold VM at h;by_cases g:(decide (b<0)||decide (b>64))=true
 ·rw[if_pos g]at h;cases h
 simp only[aX,decide_eq_true_eq]at g;omega
theorem Nw(h:BF b=0):1<=b/\b<=16:=by
 unfold BF at h;by_cases g:(decide (b<1)||decide (b>16))=true
 ·rw[if_pos g]at h;cases h
 simp only[aX,decide_eq_true_eq]at g;omega
theorem AO{rs:List (List Tm)}(hb:b<=64)(ho:OP rs fr t2 x):∀k v w,v.length=x.length->D1 rs fr t2 x b k v=some w->w.length=x.length/\∀a∈w,XN a 10000000
 |0,v,w,_,h=>by cases h
 |k+1,v,w,hl,h=>by
  unfold D1 at h;by_cases g:Jv v=true
  ·rw[if_pos g]at h;cases h
  rw[if_neg g]at h;have hsm:=DY g;by_cases g2:U7 (Z4 rs fr t2 x v) v=true
  ·rw[if_pos g2]at h;cases h;refine⟨by rw[ae,Z3],λa ha=>?_⟩;obtain⟨u,hu,rfl⟩:=List.mem_map.1 ha;exact(EG (ho.s1 v hl hsm u hu) hb).mono wu
  rw[if_neg g2]at h;exact AO hb ho k _ w (by rw[EM];exact hl) h
theorem RI{rs:List (List Tm)}{w:List (Rat×Rat)}(hb:b<=64)(ho:OP rs fr t2 x)(h:Yq rs fr t2 x b=some w):w.length=x.length/\∀a∈w,XN a 10000000:=AO hb ho 12 _ w (by rw[EM]) h
theorem Aq{a b:List UInt8}{r:Sr}{bits:Int}(hF:Fits F w)(hGl:JE F)(hy:ZH F y)(ht:Ww y)(hx:KO F r l)(hc:GZ r l)(ha:a.length<=1000000)(hb:b.length<=1000000)(hok:MM y a l b bits=0->OP y.rs (Qo a) (Qo b) (lV l)):QV prog 44 [y.v,tx a,r.v,tx b,.int .i64 bits] w F (λ(c:Sr)=>.tuple #[c.v,.int .i64 (O9 (MM y a l b bits) (Yq y.rs (Qo a) (Qo b) (lV l) bits)).1]) (λc F=>Wf F c (O9 (MM y a l b bits) (Yq y.rs (Qo a) (Qo b) (lV l) bits)).2):=by
 refine QV.intro (G:=λF=>JE F/\ZH F y/\KO F r l) func44 rfl wy rfl rfl hF (λF' hF'=>⟨hGl.le hF',hy.le hF',hx.le hF'⟩)<|QI7<|Qs rfl (vs:=[_,_,_]) rfl λb5=>QH1 rfl<|wQ rfl<|QG<|QI7<|QA (wI I J8 .here)<|QH0 rfl<|QH0 rfl<|QH0 rfl<|QI rfl (λ_ _ f k=>Wq (y:=y) f k.1 k.2.1 ht k.2.2 hc ha hb) λ_=>QH0 rfl<|QI rfl (λ_ _ f k=>BQ f) λ_=>Qb rfl (Q4 ZJ) YV Hz rfl rfl λb23=>QI rfl (λ_ _ f k=>YY f (Qx.of (cs:=aT Jr [_,_]) k.2 rfl) wu) λ_=>wQ rfl<|QG<|QB ?_
 refine QJK 4 I ?_;refine QR I (λhc2=>?_) λhc2=>?_
 ·have h26:=bne_iff_ne.1 hc2;have hpe:MM y a l b bits=Qu [Yg y a l b,VM bits]:=by unfold MM;rw[if_neg h26]
  refine wA 8 I ?_;exact Jd ((⟨none,0,0⟩:Sr)) I (wO I I) (by rw[hpe,S8 h26]) λF h9=>by rw[hpe,S8 h26];exact Wf.nil F
 have h26:Qu [Yg y a l b,VM bits]=0:=bne_eq_false_iff_eq.1 hc2;have hpe:MM y a l b bits=Vb (Qo a) (Qo b):=by unfold MM;rw[if_pos h26]
 have hs0:Yg y a l b=0:=JA h26 _ (.head _);have hbt:=Ry (JA h26 _ (.tail _ (.head _)));have hst:=Gi (F:=F) hs0;have ho:=hy.ok hst.1;have hn1:=ho.n1;have hn0:=ho.n0;have hrn:=ho.rn;have hxl:=(Xs hst.2.2.1).1;have hrs:y.rs.length=y.nm.n:=by unfold X5.rs;rw[ae,hy.Kx,hrn]
 refine QJL 7 I<|QI I (λ_ _ f k=>Vt f k.1.1.1.1.1 ⟨hst.2.1,ha⟩ ⟨hst.2.2.2,hb⟩) λ_=>QJK 9 I ?_
 refine QR I (λhc2=>?_) λhc2=>?_
 ·have h32:=bne_iff_ne.1 hc2;refine wA 8 I ?_;exact Jd ((⟨none,0,0⟩:Sr)) I (wO I I) (by rw[hpe,S8 h32]) λF h9=>by rw[hpe,S8 h32];exact Wf.nil F
 have h32:Vb (Qo a) (Qo b)=0:=bne_eq_false_iff_eq.1 hc2;rw[h32]at hpe;have hok:=hok hpe;refine QJL 4 I<|QA (wI I J8 .here)<|QI rfl (λ_ _ f k=>ZX (y:=y) f k.1.1.1.1.1.1 k.1.1.1.1.1.2.1 ht ho) λc36=>QH0 rfl<|QH0 rfl<|QH0 rfl<|QI rfl (λ_ _ f k=>DS f k.1.1.1.1.1.1.1 ⟨hst.2.1,ha⟩ ⟨hst.2.2.2,hb⟩ k.1.1.1.1.1.1.2.2 hc (Xs hst.2.2.1).2) λc40=>JM _ (λw F hF ⟨⟨⟨⟨⟨⟨⟨⟨hGl,hy,hx⟩,_⟩,_⟩,hs23⟩,_⟩,_⟩,h36⟩,h40⟩=>ar h40.bx.nl (ar h36.Kx (h36.pn ho.short))) λhnn=>?_
 obtain⟨hn40,hn36,hp36⟩:=hnn;rw[Xc]at hn40;refine QH0 I<|QI I (λ_ _ f k=>Ob f k.1.1.1.1.1.1.1.1 k.1.2 k.2 O O O (λe he=>wk<|hp36 e he) hbt hok) λc42=>QJK 11 I<|QA (XB I)<|QE<|QC ?_
 refine QR I (λhc2=>?_) λhc2=>?_
 ·have hv:Yq y.rs (Qo a) (Qo b) (lV l) bits=none:=by cases hv:Yq y.rs (Qo a) (Qo b) (lV l) bits with
   |none=>rfl
   |some v=>rw[hv]at hc2;cases hc2
  refine wA 7 I ?_;exact Jd ((⟨none,0,0⟩:Sr)) I (wO I I) (by rw[hpe,hv,Ar]) λF h9=>by rw[hpe,hv,Ar];exact Wf.nil F
 obtain⟨v,hv⟩:∃v,Yq y.rs (Qo a) (Qo b) (lV l) bits=some v:=by cases hv:Yq y.rs (Qo a) (Qo b) (lV l) bits with
  |none=>rw[hv]at hc2;cases hc2
  |some v=>exact⟨v,rfl⟩
 have hv2:=RI hbt.2 hok hv;refine XS _ (λw F hF ⟨⟨⟨⟨⟨⟨⟨⟨⟨hGl,hy,hx⟩,_⟩,_⟩,hs23⟩,_⟩,_⟩,h36⟩,h40⟩,h42⟩=>(show J7 F c42.1 c42.2 v by rw[hv]at h42;exact h42).nl) (λhn42=>?_);rw[Xc]at hv2;refine QJL 5 I<|QI I (λw F hF ⟨⟨⟨⟨⟨⟨⟨⟨⟨hGl,hy,hx⟩,_⟩,_⟩,hs23⟩,_⟩,_⟩,h36⟩,h40⟩,h42⟩=>BM (r:=c42.1) (l:=c42.2) (vs:=v) hF hGl (by rw[hv]at h42;exact h42) O λs hs=>(hv2.2 s hs).mono wu) λc48=>QJK 7 I ?_
 exact Jd (c48) rfl (wO I I) (by rw[hpe,hv,DH];rfl) λF h9=>by rw[hpe,hv,DH];exact h9.2
def Ez(y:X5)(a:List UInt8)(l:List (List UInt8×List UInt8))(b:List UInt8)(lw:List (List UInt8×List UInt8))(o:Int):Int:=if Yg y a l b=0 then Qu [YN y.nm.n lw,BF o,Vb (Qo a) (Qo b)]else Yg y a l b
theorem Io{a b:List UInt8}{r:Sr}{rz:Sr}{lw:List (List UInt8×List UInt8)}{o:Int}(hF:Fits F w)(hGl:JE F)(hy:ZH F y)(ht:Ww y)(hx:KO F r l)(hc:GZ r l)(ha:a.length<=1000000)(hb:b.length<=1000000)(hxw:KO F rz lw)(hcw:GZ rz lw)(hok:Ez y a l b lw o=0->Cg y.rs (Qo a) (Qo b) (lV l) (lV lw) o.toNat/\∀v∈Xy y.rs (Qo a) (Qo b) (lV l) (lV lw) o.toNat,XN v 100000000):QV prog 18 [y.v,tx a,r.v,tx b,rz.v,.int .i64 o] w F (λ(c:Sr)=>.tuple #[c.v,.int .i64 (O9 (Ez y a l b lw o) (some (Xy y.rs (Qo a) (Qo b) (lV l) (lV lw) o.toNat))).1]) (λc F=>Wf F c (O9 (Ez y a l b lw o) (some (Xy y.rs (Qo a) (Qo b) (lV l) (lV lw) o.toNat))).2):=by
 refine QV.intro (G:=λF=>JE F/\ZH F y/\KO F r l/\KO F rz lw) func18 rfl wy rfl rfl hF (λF' hF'=>⟨hGl.le hF',hy.le hF',hx.le hF',hxw.le hF'⟩)<|QI7<|Qs rfl (vs:=[_,_,_]) rfl λb6=>QH1 rfl<|wQ rfl<|QI7<|QA (wI I J8 .here)<|QH0 rfl<|QH0 rfl<|QH0 rfl<|QI rfl (λ_ _ f k=>Wq (y:=y) f k.1 k.2.1 ht k.2.2.1 hc ha hb) λ_=>QH1 rfl<|QE<|QC ?_
 refine Zc [(1,_),(2,_),(3,_),(4,_),(5,_),(6,_)] [(14,.int .i64 (Ez y a l b lw o))] wX ?_ ?_
 ·refine wA 6 I ?_;refine QR I (λhc2=>?_) λhc2=>?_
  ·have h21s:Yg y a l b=0:=by simpa using hc2
   have h21:=Gi (F:=F) h21s;refine QB<|QA (wI I J8 .here)<|QH0 I<|QI I (λ_ _ f k=>Y9 (y:=y) f k.1.1 k.1.2.1 k.1.2.2.2 hcw) λ_=>QH0 I<|QI I (λ_ _ f k=>Vs f) λ_=>wB 2 I<|QI I (λ_ _ f k=>Vt f k.1.1.1.1 ⟨h21.2.1,ha⟩ ⟨h21.2.2.2,hb⟩) λ_=>Qb I (Q4 ZJ) YV Hz I I λb30=>QI I (λ_ _ f k=>YY f (Qx.of (cs:=aT Jr [_,_,_]) k.2 I) wu) λ_=>wB 2 I ?_
   exact JY ⟨rfl,rfl,rfl,rfl,rfl,rfl,(congrArg (λb=>some (ah .i64 b)) (by unfold Ez;rw[if_pos h21s])),trivial⟩ QIM λ_ h=>h.1.1.1.1.1
  have h21s:¬Yg y a l b=0:=by simpa using hc2
  refine QO ?_;exact JY ⟨rfl,rfl,rfl,rfl,rfl,rfl,(congrArg (λb=>some (ah .i64 b)) (by unfold Ez;rw[if_neg h21s])),trivial⟩ QIM w9
 simp only[aa,ab];refine wA 7 I ?_;refine QR I (λhc2=>?_) λhc2=>?_
 ·have h33:=bne_iff_ne.1 hc2;refine wA 8 I ?_;exact Jd ((⟨none,0,0⟩:Sr)) I (wO I I) (by rw[S8 h33]) λF h9=>by rw[S8 h33];exact Wf.nil F
 have h33:Ez y a l b lw o=0:=bne_eq_false_iff_eq.1 hc2;have hok:=hok h33;have hs0:Yg y a l b=0:=by
  unfold Ez at h33;by_cases g:Yg y a l b=0
  ·exact g
  rw[if_neg g]at h33;exact absurd h33 g
 have hz3:Qu [YN y.nm.n lw,BF o,Vb (Qo a) (Qo b)]=0:=by unfold Ez at h33;rw[if_pos hs0]at h33;exact h33
 have hbw:YN y.nm.n lw=0:=JA hz3 _ (.head _);have hor:=Nw (JA hz3 _ (.tail _ (.head _)));have hwl:=(Xs hbw).1;have hst:=Gi (F:=F) hs0;have ho:=hy.ok hst.1;have hn1:=ho.n1;have hn0:=ho.n0;have hrn:=ho.rn;have hxl:=(Xs hst.2.2.1).1;have hrs:y.rs.length=y.nm.n:=by unfold X5.rs;rw[ae,hy.Kx,hrn]
 obtain⟨n,rfl⟩:∃n:Nat,o=(n:Int):=⟨o.toNat,O⟩;rw[ai]at hok;refine QJL 4 I<|QA (wI I J8 .here)<|QI rfl (λ_ _ f k=>ZX (y:=y) f k.1.1 k.1.2.1 ht ho) λc36=>QH0 rfl<|QH0 rfl<|QH0 rfl<|QI rfl (λ_ _ f k=>DS f k.1.1.1 ⟨hst.2.1,ha⟩ ⟨hst.2.2.2,hb⟩ k.1.1.2.2.1 hc (Xs hst.2.2.1).2) λc40=>JM _ (λw F hF ⟨⟨⟨⟨hGl,hy,hx,hxw⟩,_⟩,h36⟩,h40⟩=>ar h40.bx.nl (ar h36.Kx (h36.pn ho.short))) λhnn=>?_
 obtain⟨hn40,hn36,hp36⟩:=hnn;rw[Xc]at hn40;refine QH0 I<|QI I (λ_ _ f k=>BA f k.1.1.1.1 k.1.1.1.2.2.2 hcw (Xs hbw).2) λc42=>QH0 I<|JM _ (λ_ _ f k=>k.2.nl) λhn42=>?_
 rw[Xc]at hn42;refine QI I (λ_ _ f k=>Ms (n:=n) f k.1.1.2 k.1.2 k.2 O O O O O (λe he=>wk<|hp36 e he) hok.1) (λc44=>JM _ (λ_ _ f h=>h.2.nl) λhn44=>?_);rw[show(Xy y.rs (Qo a) (Qo b) (lV l) (lV lw) n).length=l.length by simp[Xy,lV]]at hn44;refine QI I (λ_ _ f k=>BM (r:=c44.1) (l:=c44.2) (vs:=(Xy y.rs (Qo a) (Qo b) (lV l) (lV lw) n)) f k.1.1.1.1.1.1 k.2 O hok.2) (λc45=>QJK 7 I ?_);exact Jd (c45) rfl (wO I I) (by rw[h33,ai,DH];rfl) λF h9=>by rw[h33,ai,DH];exact h9.2
structure kz(rs:List (List Tm))(fr t2:Rat)(x:List (Rat×Rat))(n:Nat)(b:Int):Prop where
 tr:OP rs fr t2 x
 tb:∀v,Yq rs fr t2 x b=some v->Cg rs fr t2 x v n/\∀s∈Xy rs fr t2 x v n,XN s 10000000
abbrev vd:=(Sr×List Ys)×(Sr×List Ys)
def mdV(c:vd):Value:=.agg #[c.1.1.v,c.2.1.v]
def stF(F:Gs)(o:Option (List (Rat×Rat)×List (Rat×Rat)))(c:vd):Prop:=match o with
 |none=>c.1.1=⟨none,0,0⟩/\c.2.1=⟨none,0,0⟩
 |some v=>J7 F c.1.1 c.1.2 v.1/\J7 F c.2.1 c.2.2 v.2
theorem Bb{rs:List (List Tm)}(h:Yq rs fr t2 x b=none):KP rs fr t2 x n b=none:=by unfold KP;rw[h];rfl
theorem Ba{rs:List (List Tm)}{v:List (Rat×Rat)}(h:Yq rs fr t2 x b=some v):KP rs fr t2 x n b=some (v,(Xy rs fr t2 x v n).map (Z7 · b)):=by unfold KP;rw[h];rfl
theorem D9{rs:List (List Tm)}{p:List (Rat×Rat)×List (Rat×Rat)}(hb:b<=64)(ho:kz rs fr t2 x n b)(h:KP rs fr t2 x n b=some p):(p.1.length=x.length/\p.2.length=x.length)/\(∀a∈p.1,XN a 100000000)/\∀a∈p.2,XN a 100000000:=by
 cases hv:Yq rs fr t2 x b with
 |none=>rw[Bb hv]at h;cases h
 |some v =>
  rw[Ba hv]at h;cases h;have h1:=RI hb ho.tr hv;refine⟨⟨h1.1,by simp[Xy]⟩,λa ha=>(h1.2 a ha).mono wu,λa ha=>?_⟩;obtain⟨u,hu,rfl⟩:=List.mem_map.1 ha;exact(EG ((ho.tb v hv).2 u hu) hb).mono wu
theorem xg{y:jq}{x:js}{rs:List (List Tm)}{vs vx:List (Rat×Rat)}{n:Nat}(hF:Fits F w)(hGl:JE F)(hy:GX F y rs vs)(hx:Mg F x fr t2 vx)(hn:y.rt.n=x.bx.n)(hnx:x.bx.n<=1000)(hn0:0<x.bx.n)(hpn:∀e∈y.ps,e.1.n<=100000)(hor:n<=300)(hb:0<=b/\b<=64)(ho:kz rs fr t2 vx n b):
  QV prog 91 [.pointer (some ⟨y.b,0,none⟩),x.v,.int .i64 (n:Int),.int .i64 b] w F (λc=>.tuple #[mdV c,.bool (KP rs fr t2 vx n b).isSome]) (λc F=>stF F (KP rs fr t2 vx n b) c):=by
 have hxn:=hx.bx.nl;refine QV.intro (G:=λF=>JE F/\GX F y rs vs/\Mg F x fr t2 vx) func91 rfl wy rfl rfl hF (λF' hF'=>⟨hGl.le hF',hy.le hF',hx.le hF'⟩)<|QI7<|Qs rfl (vs:=[_,_,_,_,_,_,_,_,_]) rfl λb5=>Qc Mr λb8=>wQ rfl<|wR rfl<|QA (QJ (vs:=[_,_,_,_,_,_,_,_,_]) rfl H4 .u1 .h9 rfl)<|QH0 rfl<|QI rfl (λ_ _ f k=>Ob f k.1 k.2.1 k.2.2 hn O O (λe he=>wk<|hpn e he) hb ho.tr) λc16=>QJK 11 I ?_
 refine QA (XB I)<|QE<|QC ?_
 refine QR I (λhc2=>?_) λhc2=>?_
 ·have hv:Yq rs fr t2 vx b=none:=by cases hv:Yq rs fr t2 vx b with
   |none=>rfl
   |some v=>rw[hv]at hc2;cases hc2
  refine QI7<|QA (Q2 I zh Mr .nil)<|QU (vs:=[_,_]) I I I KU I .here .h2 wT<|wQ I<|QY ?_
  exact Jd (((⟨none,0,0⟩,[]),(⟨none,0,0⟩,[]))) I (.JX (c:=[_,_]) I KU .here (wN I)) (by rw[Bb hv];rfl) λF h9=>by rw[Bb hv];exact⟨rfl,rfl⟩
 obtain⟨v,hv⟩:∃v,Yq rs fr t2 vx b=some v:=by cases hv:Yq rs fr t2 vx b with
  |none=>rw[hv]at hc2;cases hc2
  |some v=>exact⟨v,rfl⟩
 have hk:=ho.tb v hv;have hv2:=RI hb.2 ho.tr hv;refine XS _ (λw F hF ⟨⟨hGl,hy,hx⟩,h16⟩=>(show J7 F c16.1 c16.2 v by rw[hv]at h16;exact h16).nl) (λhn16=>QJL 6 I<|QA (QJ (vs:=[_,_,_,_,_,_,_,_,_]) I H4 .u1 .h9 rfl)<|wB 2 I<|QI I (λw F hF ⟨⟨hGl,hy,hx⟩,h16⟩=>Ms (ro:=c16.1) (lo:=c16.2) hF hy hx (by rw[hv]at h16;exact h16) O O O O O hpn hk.1) λc27=>JM _ (λ_ _ f h=>h.2.nl) λhn27=>?_);rw[show(Xy rs fr t2 vx v n).length=vx.length by simp[Xy]]at hn27;refine QH0 I<|QI I (λ_ _ f k=>C9 f k.2 hb O hk.2) λc29=>QA (Q2 I zh Mr (wP I I I))<|QU (vs:=[_,_]) I I I KU I .here .h2 wT<|wQ I<|QY ?_
 exact Jd ((c16,c29)) I (.JX (c:=[_,_]) I KU .here (wN I)) (by rw[Ba hv];rfl) λF ⟨⟨⟨⟨hGl,hy,hx⟩,h16⟩,h27⟩,h29⟩=>by rw[Ba hv];exact⟨by rw[hv]at h16;exact h16,h29⟩
def mbL(v:List (Rat×Rat))(bad:Bool):List (Rat×Rat):=if bad=true then[]else v
def mbE(bad:Bool):Int:=if bad=true then 4 else 0
def mbT(s:List UInt8)(bad:Bool):List UInt8:=if bad=true then[]else s
theorem yO{c:vd}{v u:List (Rat×Rat)}(hF:Fits F w)(hGl:JE F)(hv:J7 F c.1.1 c.1.2 v)(hu:J7 F c.2.1 c.2.2 u)(hnv:v.length<=1000000)(hnu:u.length<=1000000)(hzv:∀a∈v,XN a 100000000)(hzu:∀a∈u,XN a 100000000):
  QV prog 92 [mdV c,tx s] w F (λ(d:Sr×Sr)=>.tuple #[.agg #[tx (mbT s (Jv v||Jv u)),d.1.v,d.2.v],.int .i64 (mbE (Jv v||Jv u))]) (λd F=>Wf F d.1 (mbL v (Jv v||Jv u))/\Wf F d.2 (mbL u (Jv v||Jv u))):=by
 have hvn:=hv.nl;have hun:=hu.nl;unfold mdV;refine QV.intro (G:=λF=>JE F/\J7 F c.1.1 c.1.2 v/\J7 F c.2.1 c.2.2 u) func92 rfl wy rfl rfl hF (λF' hF'=>⟨hGl.le hF',hv.le hF',hu.le hF'⟩)<|QI7<|Qs rfl (vs:=[_,_]) rfl λb2=>Qc Du λb4=>wQ rfl<|QI7<|QA (QH rfl pk JF)<|QA (Qf rfl JF .u1 .h1)<|QI rfl (λ_ _ f k=>BM (r:=c.1.1) (l:=c.1.2) (vs:=v) f k.1 k.2.1 O hzv) λc12=>QH0 rfl<|QA (QX rfl rfl)<|QA (QX rfl rfl)<|QH1 rfl<|wQ rfl<|QG<|wR rfl<|QA (QT rfl rfl rfl) ?_
 refine QE<|QC ?_
 refine QR I (λhc2=>?_) λhc2=>?_
 ·have hL:Jv v=true:=by
   cases e:Jv v with
   |true=>rfl
   |false=>rw[e]at hc2;cases hc2
  have hbad:(Jv v||Jv u)=true:=by rw[hL];rfl
  refine QI7<|QA (Q2 I Ap Du .nil)<|QH0 I<|QU (vs:=[_,_,_]) I I I YO I .here .h3 wU<|wQ I<|QY ?_
  exact Jd (((⟨none,0,0⟩:Sr),(⟨none,0,0⟩:Sr))) I (.JX (c:=[_,_,_]) I YO .here (wN I)) (by rw[hbad,hL];rfl) λF h9=>by rw[hbad];exact⟨Wf.nil F,Wf.nil F⟩
 have hL:Jv v=false:=by
  cases e:Jv v with
  |false=>rfl
  |true=>rw[e]at hc2;cases hc2
 refine QJL 4 I<|QA (QH I CT JF)<|QA (Qf I JF .u1 (.skip .h1))<|QI I (λ_ _ f k=>BM (r:=c.2.1) (l:=c.2.2) (vs:=u) f k.1.1 k.1.2.2 O hzu) λc22=>QJK 14 I ?_
 refine QR I (λhc2=>?_) λhc2=>?_
 ·have hL2:Jv u=true:=by
   cases e:Jv u with
   |true=>rfl
   |false=>rw[e]at hc2;cases hc2
  have hbad:(Jv v||Jv u)=true:=by rw[hL2,Bool.or_true]
  refine QI7<|QA (Q2 I Ap Du .nil)<|QH0 I<|QU (vs:=[_,_,_]) I I I YO I .here .h3 wU<|wQ I<|QY ?_
  exact Jd (((⟨none,0,0⟩:Sr),(⟨none,0,0⟩:Sr))) I (.JX (c:=[_,_,_]) I YO .here (wN I)) (by rw[hbad,hL2];rfl) λF h9=>by rw[hbad];exact⟨Wf.nil F,Wf.nil F⟩
 have hL2:Jv u=false:=by
  cases e:Jv u with
  |false=>rfl
  |true=>rw[e]at hc2;cases hc2
 have hbad:(Jv v||Jv u)=false:=by rw[hL,hL2];rfl
 refine QJL 7 I<|QA (Q2 I Ap Du (.cons (vs:=[_]) I I I .h1 (.cons (vs:=[_]) I I I (.skip .h1) (.cons (vs:=[_]) I I I (.skip (.skip .h1)) .nil))))<|QU (vs:=[_,_,_]) I I I YO I .here .h3 wU<|wQ I<|QY ?_
 exact Jd ((c12,c22)) I (.JX (c:=[_,_,_]) I YO .here (wN I)) (by rw[hbad];rfl) λF ⟨⟨⟨hGl,hv,hu⟩,h12⟩,h22⟩=>by rw[hbad];rw[hL]at h12;rw[hL2]at h22;exact⟨h12,h22⟩
def vW(e:Int)(o:Option (List (Rat×Rat)×List (Rat×Rat)))(s:List UInt8):(List UInt8×List (Rat×Rat)×List (Rat×Rat))×Int:=if e≠0 then(([],[],[]),e)else match o with
 |none=>(([],[],[]),25)
 |some p=>((mbT s (Jv p.1||Jv p.2),mbL p.1 (Jv p.1||Jv p.2),mbL p.2 (Jv p.1||Jv p.2)),mbE (Jv p.1||Jv p.2))
theorem QAB{e:Int}{o:Option (List (Rat×Rat)×List (Rat×Rat))}(h:e≠0):vW e o s=(([],[],[]),e):=by unfold vW;rw[if_pos h]
theorem IJ:vW 0 none s=(([],[],[]),25):=rfl
theorem II(p:List (Rat×Rat)×List (Rat×Rat))(s:List UInt8):vW 0 (some p) s=((mbT s (Jv p.1||Jv p.2),mbL p.1 (Jv p.1||Jv p.2),mbL p.2 (Jv p.1||Jv p.2)),mbE (Jv p.1||Jv p.2)):=rfl
def ME(y:X5)(a:List UInt8)(l:List (List UInt8×List UInt8))(b:List UInt8)(o bits:Int):Int:=if Qu [Yg y a l b,BF o,VM bits]=0 then Vb (Qo a) (Qo b)else Qu [Yg y a l b,BF o,VM bits]
theorem gj{a b:List UInt8}{r:Sr}{o bits:Int}(hF:Fits F w)(hGl:JE F)(hy:ZH F y)(ht:Ww y)(hx:KO F r l)(hc:GZ r l)(ha:a.length<=1000000)(hb:b.length<=1000000)(hok:ME y a l b o bits=0->kz y.rs (Qo a) (Qo b) (lV l) o.toNat bits):QV prog 45 [y.v,tx a,r.v,tx b,.int .i64 o,.int .i64 bits] w F (λ(d:Sr×Sr)=>.tuple #[.agg #[tx (vW (ME y a l b o bits) (KP y.rs (Qo a) (Qo b) (lV l) o.toNat bits) b).1.1,d.1.v,d.2.v],.int .i64 (vW (ME y a l b o bits) (KP y.rs (Qo a) (Qo b) (lV l) o.toNat bits) b).2]) (λd F=>Wf F d.1 (vW (ME y a l b o bits) (KP y.rs (Qo a) (Qo b) (lV l) o.toNat bits) b).1.2.1/\Wf F d.2 (vW (ME y a l b o bits) (KP y.rs (Qo a) (Qo b) (lV l) o.toNat bits) b).1.2.2):=by
 refine QV.intro (G:=λF=>JE F/\ZH F y/\KO F r l) func45 rfl wy rfl rfl hF (λF' hF'=>⟨hGl.le hF',hy.le hF',hx.le hF'⟩)<|QI7<|Qs rfl (vs:=[_,_,_]) rfl λb6=>Qc Du λb12=>wQ rfl<|QI7<|QA (wI I J8 .u1)<|QH0 rfl<|QH0 rfl<|QH0 rfl<|QI rfl (λ_ _ f k=>Wq (y:=y) f k.1 k.2.1 ht k.2.2 hc ha hb) λ_=>QH0 rfl<|QI rfl (λ_ _ f k=>Vs f) λ_=>QH0 rfl<|QI rfl (λ_ _ f k=>BQ f) λ_=>Qb rfl (Q4 ZJ) YV Hz rfl rfl λb26=>QI rfl (λ_ _ f k=>YY f (Qx.of (cs:=aT Jr [_,_,_]) k.2 rfl) wu) λ_=>QH1 rfl<|QE<|QC ?_
 refine Zc [(1,_),(2,_),(3,_),(4,_),(5,_),(6,_),(12,_)] [(14,.int .i64 (ME y a l b o bits))] wY ?_ ?_
 ·refine wA 6 I ?_;refine QR I (λhc2=>?_) λhc2=>?_
  ·have h29s:Qu [Yg y a l b,BF o,VM bits]=0:=by simpa using hc2
   have h29:=Gi (F:=F) (JA h29s (Yg y a l b) (.head _));refine wA 3 I<|QI I (λ_ _ f k=>Vt f k.1.1.1.1.1.1 ⟨h29.2.1,ha⟩ ⟨h29.2.2.2,hb⟩) λ_=>wB 2 I ?_
   exact JY ⟨rfl,rfl,rfl,rfl,rfl,rfl,rfl,(congrArg (λb=>some (ah .i64 b)) (by unfold ME;rw[if_pos h29s])),trivial⟩ QIM tA
  have h29s:¬Qu [Yg y a l b,BF o,VM bits]=0:=by simpa using hc2
  refine QO ?_;exact JY ⟨rfl,rfl,rfl,rfl,rfl,rfl,rfl,(congrArg (λb=>some (ah .i64 b)) (by unfold ME;rw[if_neg h29s])),trivial⟩ QIM w9
 simp only[aa,ab];refine wA 7 I ?_;refine QR I (λhc2=>?_) λhc2=>?_
 ·have h34:=bne_iff_ne.1 hc2;refine QI7<|QA (Q2 I Ap Du .nil)<|QH0 I<|QU (vs:=[_,_,_]) I I I YO I .here .h3 wU<|wQ I<|QY ?_
  exact Jd (((⟨none,0,0⟩:Sr),(⟨none,0,0⟩:Sr))) I (.JX (c:=[_,_,_]) I YO .here (wN I)) (by rw[QAB h34];rfl) λF h9=>by rw[QAB h34];exact⟨Wf.nil F,Wf.nil F⟩
 have h34:ME y a l b o bits=0:=bne_eq_false_iff_eq.1 hc2;have hok:=hok h34;have hz3:Qu [Yg y a l b,BF o,VM bits]=0:=by
  unfold ME at h34;by_cases g:Qu [Yg y a l b,BF o,VM bits]=0
  ·exact g
  rw[if_neg g]at h34;exact absurd h34 g
 have hs0:Yg y a l b=0:=JA hz3 _ (.head _);have hor:=Nw (JA hz3 _ (.tail _ (.head _)));have hbt:=Ry (JA hz3 _ (.tail _ (.tail _ (.head _))));have hst:=Gi (F:=F) hs0;have ho:=hy.ok hst.1;have hn1:=ho.n1;have hn0:=ho.n0;have hrn:=ho.rn;have hxl:=(Xs hst.2.2.1).1;have hrs:y.rs.length=y.nm.n:=by unfold X5.rs;rw[ae,hy.Kx,hrn]
 obtain⟨n,rfl⟩:∃n:Nat,o=(n:Int):=⟨o.toNat,O⟩;rw[ai]at hok;refine QJL 4 I<|QA (wI I J8 .u1)<|QI rfl (λ_ _ f k=>ZX (y:=y) f k.1.1.1.1.1.1 k.1.1.1.1.1.2.1 ht ho) λc39=>QH0 rfl<|QH0 rfl<|QH0 rfl<|QI rfl (λ_ _ f k=>DS f k.1.1.1.1.1.1.1 ⟨hst.2.1,ha⟩ ⟨hst.2.2.2,hb⟩ k.1.1.1.1.1.1.2.2 hc (Xs hst.2.2.1).2) λc43=>JM _ (λw F hF ⟨⟨⟨⟨⟨⟨⟨⟨hGl,hy,hx⟩,_⟩,_⟩,_⟩,hs26⟩,_⟩,h39⟩,h43⟩=>ar h43.bx.nl (ar h39.Kx (h39.pn ho.short))) λhnn=>?_
 obtain⟨hn43,hn39,hp39⟩:=hnn;rw[Xc]at hn43;refine wB 2 I<|QI I (λ_ _ f k=>xg (n:=n) f k.1.1.1.1.1.1.1.1 k.1.2 k.2 O O O (λe he=>wk<|hp39 e he) O hbt hok) λc46=>wB 3 I<|Qc Mr λb15=>QU (vs:=[_,_]) I I I KU I .here .h2 wT<|QJK 7 I<|QA (XB I)<|QE<|QC ?_
 refine QR I (λhc2=>?_) λhc2=>?_
 ·have hv:KP y.rs (Qo a) (Qo b) (lV l) n bits=none:=by cases hv:KP y.rs (Qo a) (Qo b) (lV l) n bits with
   |none=>rfl
   |some v=>rw[hv]at hc2;cases hc2
  refine QI7<|QA (Q2 I Ap Du .nil)<|QU (vs:=[_,_,_]) I I I YO I .u1 .h3 wU<|wQ I<|QY ?_
  exact Jd (((⟨none,0,0⟩:Sr),(⟨none,0,0⟩:Sr))) I (.JX (c:=[_,_,_]) I YO .u1 (wN I)) (by rw[h34,ai,hv,IJ];rfl) λF h9=>by rw[h34,ai,hv,IJ];exact⟨Wf.nil F,Wf.nil F⟩
 obtain⟨v,hv⟩:∃v,KP y.rs (Qo a) (Qo b) (lV l) n bits=some v:=by cases hv:KP y.rs (Qo a) (Qo b) (lV l) n bits with
  |none=>rw[hv]at hc2;cases hc2
  |some v=>exact⟨v,rfl⟩
 have hz:=D9 hbt.2 hok hv;rw[Xc]at hz;refine QJL 4 I<|QA (wH I KU .here)<|QH0 I<|QI I (λw F hF ⟨⟨⟨⟨⟨⟨⟨⟨⟨hGl,hy,hx⟩,_⟩,_⟩,_⟩,hs26⟩,_⟩,h39⟩,h43⟩,h46⟩=>yO (c:=c46) (v:=v.1) (u:=v.2) (s:=b) hF hGl (by rw[hv]at h46;exact h46.1) (by rw[hv]at h46;exact h46.2) O O hz.2.1 hz.2.2) λc54=>wB 2 I<|QU (vs:=[_,_,_]) I I I YO I .u1 .h3 wU<|wQ I<|QY ?_
 exact Jd (c54) rfl (.JX (c:=[_,_,_]) I YO .u1 (wN I)) (by rw[h34,ai,hv,II];rfl) λF h9=>by rw[h34,ai,hv,II];exact h9.2
instance :Inhabited Sr:=⟨⟨none,0,0⟩⟩
def BE(y:X5)(t:List UInt8×List UInt8)(l:List (List UInt8×List UInt8)):Int:=Qu [y.e,XX t.1 t.2,YN y.nm.n l]
def Sv(y:X5)(t:List UInt8×List UInt8)(l:List (List UInt8×List UInt8))(o:Int):Int:=Qu [y.e,XX t.1 t.2,YN y.nm.n l,BF o]
def seR(e:Int)(tt:List (List (Rat×Rat))):Int×List (List (Rat×Rat)):=if e≠0 then(e,[])else(if tt.any Jv=true then 4 else 0,if tt.any Jv=true then[]else tt)
theorem ur{e:Int}(h:e≠0):seR e tt=(e,[]):=by unfold seR;rw[if_pos h]
theorem I5(tt:List (List (Rat×Rat))):seR 0 tt=(if tt.any Jv=true then 4 else 0,if tt.any Jv=true then[]else tt):=rfl
structure I2(F:Gs)(c:Sr×List Sr)(tt:List (List (Rat×Rat))):Prop where
 row:Qx F c.1.q c.1.n 1 (c.2.map Sr.v)
 len:c.2.length=c.1.n
 QAh:c.1.n=tt.length
 el:∀j,j<tt.length->Wf F (el c.2 j) (el tt j)
theorem I2.nil(F:Gs):I2 F (⟨none,0,0⟩,[]) []:=⟨Qx.nil F none 1,rfl,rfl,λj h=>absurd h (ba _)⟩
structure SeJ(tt:List (List (Rat×Rat))) where
 i:Nat
 v:Value
 ob:List (Nat×Obj)
 rs:List Sr
 le:i<=tt.length
 len:rs.length=i
 hr:Q9 24 1 v i (rs.map Sr.v) ob
 no:∀j,j<i->Jv (el tt j)=false
theorem uM(h:i<tt.length)(k:Jv (el tt i)=true):tt.any Jv=true:=List.any_eq_true.2 ⟨_,Qv h,k⟩
theorem any_none(h:∀j,j<tt.length->Jv (el tt j)=false):tt.any Jv=false:=by
 cases e:tt.any Jv with
 |false=>rfl
 |true =>
  obtain⟨x,hx,k⟩:=List.any_eq_true.1 e;obtain⟨j,hj,rfl⟩:=bO hx;have:=h j hj;rw[JW hj,k]at this;cases this
theorem QBD{l:List U6}{j:Nat}{v:Value}(h:i<l.length)(hv:[(el l i).1.v][j]?=some v):(l.map λe=>e.1.v)[i*1+j]?=some v:=by
 match j,hv with
 |0,hv=>rw[Nat.add_zero,bY,List.getElem?_map,List.getElem?_eq_getElem h,bA,<-JW h];exact hv
 |j+1,hv=>simp at hv
theorem SK[Inhabited α]{l:List α}{x:α}{j:Nat}(h:j<l.length):el (l++[x]) j=el l j:=by rw[JW h,JW (by rw[aF];omega),List.getElem_append_left h]
theorem CX[Inhabited α](l:List α)(x:α):el (l++[x]) l.length=x:=by rw[JW wz];simp
theorem El{t:List UInt8×List UInt8}{r:Sr}(hF:Fits F w)(hGl:JE F)(hy:ZH F y)(ht:Ww y)(htl:t.1.length<=1000000/\t.2.length<=1000000)(hx:KO F r l)(hc:GZ r l):Qg prog 107 [y.v,.agg #[tx t.1,tx t.2],r.v] w F (.int .i64 (BE y t l)):=by
 refine QV.intro (G:=λF=>JE F/\ZH F y/\KO F r l) func107 rfl wy rfl rfl hF (λF' hF'=>⟨hGl.le hF',hy.le hF',hx.le hF'⟩)<|QI7<|Qs rfl (vs:=[_,_,_]) rfl λb3=>Qs rfl (vs:=[_,_]) rfl λb4=>wQ rfl<|QG<|JH QIM mixed wm<|QK (wI I J8 .u1)<|QP rfl (λ_ _ f k=>Zt (y:=y) f k.1 k.2.1 ht) λ_=>QK (wH I Jq .here)<|QP rfl (λ_ _ f k=>Wr f k.1.1 htl) λ_=>QK (wI I J8 .u1)<|QK (QD rfl)<|QP rfl (λw F hF ⟨⟨⟨hGl,hy,hx⟩,_⟩,_⟩=>Y9 (y:=y) hF hGl hy hx hc) λ_=>?_
 refine Qp I (Q4 ZJ) YV Hz I I (λb14=>?_) (λw h=>h.imp tC λF h=>h.1.1.1);refine QP I (λ_ _ f k=>YY f (Qx.of (cs:=aT Jr [_,_,_]) k.2 I) wu) (λ_=>QK (QF I)<|Q7<|QC<|QY ?_);exact QJO I I (rfl) w8
theorem Ro{t:List UInt8×List UInt8}(hF:Fits F w)(hGl:JE F)(h:XX t.1 t.2=0)(hl:t.1.length<=1000000/\t.2.length<=1000000):Xn prog 67 [.agg #[tx t.1,tx t.2]] w F (Q8 t):=CV hF hGl (Bs h).1 (Bs h).2.1 hl
theorem Ou{t:List UInt8×List UInt8}{r:Sr}{o:Int}(hF:Fits F w)(hGl:JE F)(hy:ZH F y)(ht:Ww y)(htl:t.1.length<=1000000/\t.2.length<=1000000)(hx:KO F r l)(hc:GZ r l)(hok:Sv y t l o=0->SB y.rs (Q8 t) (lV l) o.toNat/\∀b∈(Jb y.rs (Q8 t) (lV l) o.toNat),∀a∈b,XN a 100000000):
  QV prog 16 [y.v,.agg #[tx t.1,tx t.2],r.v,.int .i64 o] w F (λ(c:Sr×List Sr)=>.tuple #[c.1.v,.int .i64 (seR (Sv y t l o) (Jb y.rs (Q8 t) (lV l) o.toNat)).1]) (λc F=>I2 F c (seR (Sv y t l o) (Jb y.rs (Q8 t) (lV l) o.toNat)).2):=by
 refine QV.intro (G:=λF=>JE F/\ZH F y/\KO F r l) func16 rfl wy rfl rfl hF (λF' hF'=>⟨hGl.le hF',hy.le hF',hx.le hF'⟩)<|QI7<|Qs rfl (vs:=[_,_,_]) rfl λb4=>Qs rfl (vs:=[_,_]) rfl λb5=>QH1 rfl<|wQ rfl<|QG<|QG<|JH QIM mixed wm<|QK (wI I J8 .u1)<|QP rfl (λ_ _ f k=>Zt (y:=y) f k.1 k.2.1 ht) λ_=>QK (wH I Jq .here)<|QP rfl (λ_ _ f k=>Wr f k.1.1 htl) λ_=>QK (wI I J8 .u1)<|QK (QD rfl)<|QP rfl (λw F hF ⟨⟨⟨hGl,hy,hx⟩,_⟩,_⟩=>Y9 (y:=y) hF hGl hy hx hc) λ_=>QK (QD rfl)<|QP rfl (λ_ _ f k=>Vs f) λ_=>?_
 refine Qp I (Q4 ZJ) YV Hz I I (λb25=>?_) (λw h=>h.imp tF λF h=>h.1.1.1.1);refine QP I (λ_ _ f k=>YY f (Qx.of (cs:=aT Jr [_,_,_,_]) k.2 I) wu) (λ_=>QK (QF I)<|Q7<|QJM 7 I ?_);refine QR I (λhc2=>?_) λhc2=>?_
 ·have h28:Sv y t l o≠0:=bne_iff_ne.1 hc2;refine wA 8 I ?_;exact Jd (((⟨none,0,0⟩,[]):Sr×List Sr)) I (wO I I) (by rw[ur h28];rfl) λF h9=>by rw[ur h28];exact I2.nil F
 have h28:Sv y t l o=0:=bne_eq_false_iff_eq.1 hc2;have hok:=hok h28;have hye:y.e=0:=JA h28 _ (.head _);have hts:=JA h28 (XX t.1 t.2) (.tail _ (.head _));have hbx:YN y.nm.n l=0:=JA h28 _ (.tail _ (.tail _ (.head _)));have hor:=Nw (JA h28 (BF o) (.tail _ (.tail _ (.tail _ (.head _)))));have ho:=hy.ok hye;have hn1:=ho.n1;have hn0:=ho.n0;have hrn:=ho.rn;have hxl:=(Xs hbx).1;have hrs:y.rs.length=y.nm.n:=by unfold X5.rs;rw[ae,hy.Kx,hrn]
 obtain⟨n,rfl⟩:∃n:Nat,o=(n:Int):=⟨o.toNat,O⟩;rw[ai]at hok;have htl2:(Jb y.rs (Q8 t) (lV l) n).length=l.length:=by rw[Zp,Xc]
 refine QJL 4 I<|wQ rfl<|QG<|QG<|JH QIM mixed wm<|QK (wI I J8 .u1)<|QP rfl (λ_ _ f k=>ZX (y:=y) f k.1.1.1.1.1.1.1 k.1.1.1.1.1.1.2.1 ht ho) λc31=>QK (wH I Jq .here)<|QP rfl (λ_ _ f k=>Ro f k.1.1.1.1.1.1.1.1 hts htl) λc33=>QK (QD rfl)<|QP rfl (λ_ _ f k=>BA f k.1.1.1.1.1.1.1.1.1 k.1.1.1.1.1.1.1.1.2.2 hc (Xs hbx).2) λc35=>YU _ (λw F hF ⟨⟨⟨⟨⟨⟨⟨⟨⟨⟨hGl,hy,hx⟩,_⟩,_⟩,_⟩,_⟩,hs25⟩,_⟩,h31⟩,h33⟩,h35⟩=>ar h35.nl (ar h31.Kx (h31.pn ho.short))) λhnn=>?_
 obtain⟨hn35,hn31,hp31⟩:=hnn;rw[Xc]at hn35;refine QK (QD I)<|QP I (λ_ _ f k=>Pv (n:=n) (x:=c33) f k.1.1.2 k.1.2 k.2 O O O O (λe he=>wk<|hp31 e he) hok.1) λc37=>YU _ (λ_ _ f h=>ar h.2.2.2.1 h.2.2.2.2.1) λh37p=>?_
 obtain⟨hq37,hl37⟩:=h37p;have hn37:c37.1.n=l.length:=by rw[<-hl37,<-Xc l,<-Zp y.rs (Q8 t) (lV l) n,<-hq37,ae]
 refine QK (Qh I W1)<|QK (QD I)<|Q7<|QC<|QW<|JV (ι:=SeJ (Jb y.rs (Q8 t) (lV l) n)) [(37,_),(38,_)] (λi=>[(11,i.v),(39,.int .i64 ((i.i:Nat):Int))]) (λi=>i.ob) (λi F=>∀j,j<i.i->Wf F (el i.rs j) (el (Jb y.rs (Q8 t) (lV l) n) j)) (λi=>l.length-i.i) (⟨0,.slice none 0 0,[],[],ao _,rfl,.nil,λj h=>absurd h (ba _)⟩) wT wT (tD) (λ_ _ j h=>absurd h (ba _)) λi=>?_
 simp only[aa,ab];have hi:=i.le;refine wA 6 I ?_;refine QR I (λhc2=>?_) λhc2=>?_
 ·have hlt:i.i<l.length:=wk<|QJG hc2
  have hil:=i.len;refine XS _ (λw F hF ⟨⟨⟨⟨⟨⟨⟨⟨⟨⟨⟨⟨hGl,hy,hx⟩,_⟩,_⟩,_⟩,_⟩,hs25⟩,_⟩,h31⟩,h33⟩,h35⟩,h37⟩,hS⟩=>(Vc h37.2.1 hq37 (show i.i<c37.2.length by omega)).nl) (λhnel=>?_);rw[Zj _ _ _ _ (by rw[Xc];exact hlt)]at hnel;refine QJL 6 I<|QA (Q3 (n:=c37.1.n) i.i (λF h9=>h9.1.2.1) rfl rfl W1 XG O)<|QA (JK (n:=c37.1.n) (vs:=[(el c37.2 i.i).1.v]) (i.i*1) (λF h9=>h9.1.2.1) O rfl XG I λj v hv=>QBD (show i.i<c37.2.length by omega) hv)<|Qc WB λb13=>QU (vs:=[_]) I I I XG I .here .h1 wS<|QHz<|QI7<|QA (QH I Xh JF)<|QA (Qf I JF .here .h1)<|QI I (λw F hF ⟨⟨⟨⟨⟨⟨⟨⟨⟨⟨⟨⟨hGl,hy,hx⟩,_⟩,_⟩,_⟩,_⟩,hs25⟩,_⟩,h31⟩,h33⟩,h35⟩,h37⟩,hS⟩=>BM (r:=(el c37.2 i.i).1) (l:=(el c37.2 i.i).2) (vs:=el (Jb y.rs (Q8 t) (lV l) n) i.i) hF hGl (Vc h37.2.1 hq37 O) (by rw[hnel];omega) (hok.2 _ (Qv (by rw[Zp,Xc];omega)))) λc46=>QJK 8 I ?_
  refine wA 6 I ?_;refine QR I (λhc2=>?_) λhc2=>?_
  ·have hL:Jv (el (Jb y.rs (Q8 t) (lV l) n) i.i)=true:=by
    cases e:Jv (el (Jb y.rs (Q8 t) (lV l) n) i.i)with
    |true=>rfl
    |false=>rw[e]at hc2;cases hc2
   have hany:=uM (show i.i<(Jb y.rs (Q8 t) (lV l) n).length by omega) hL;refine wA 8 I ?_
   repeat first|refine Q6 ?_|refine Qy ?_
   exact Jd (((⟨none,0,0⟩,[]):Sr×List Sr)) I (wO I I) (by rw[h28,I5,ai,if_pos hany,hL];rfl) λF h9=>by rw[h28,I5,ai,if_pos hany,if_pos hany];exact I2.nil F
  have hL:Jv (el (Jb y.rs (Q8 t) (lV l) n) i.i)=false:=by
   cases e:Jv (el (Jb y.rs (Q8 t) (lV l) n) i.i)with
   |false=>rfl
   |true=>rw[e]at hc2;cases hc2
  refine QJL 5 I<|Qb I (Q4 DB) JZ QDU I I λb54=>?_
  refine KB (bs1:=[_]) (ob:=i.ob) (n:=i.i) (k:=1) (sz:=1) (news:=[c46.v]) I I DB JZ QDU I QEo i.hr (Src.row (off:=0) tB (λj q hq=>by rw[ay];rw[ag];exact hq) rfl) O O (λv hv=>by rw[List.mem_singleton.1 hv];rfl) (λv55 ob55 hr55=>?_);refine wB 2 I<|Qk<|QC<|QB<|QA (Qw I I O)<|wB 2 I ?_
  exact Qm (⟨i.i+1,v55,ob55,i.rs++[c46],O,by rw[aF,i.len];rfl,by rw[ak];exact hr55,λj hj=>by
      rcases Nat.lt_succ_iff_lt_or_eq.1 hj with h | rfl
      ·exact i.no j h
      ·exact hL⟩) (by show l.length-(i.i+1)<l.length-i.i;omega) wV ((.cons _ QIM)) (λF ⟨⟨⟨⟨⟨⟨⟨⟨⟨⟨⟨⟨⟨⟨hGl,hy,hx⟩,_⟩,_⟩,_⟩,_⟩,hs25⟩,_⟩,h31⟩,h33⟩,h35⟩,h37⟩,hS⟩,h46⟩,hs54⟩=>⟨⟨⟨⟨⟨⟨⟨⟨⟨⟨⟨⟨hGl,hy,hx⟩,trivial⟩,trivial⟩,trivial⟩,trivial⟩,hs25⟩,trivial⟩,h31⟩,h33⟩,h35⟩,h37⟩,λj hj=>by
      rcases Nat.lt_succ_iff_lt_or_eq.1 hj with h | rfl
      ·show Wf F (el (i.rs++[c46]) j) _;rw[SK O];exact hS j h
      show Wf F (el (i.rs++[c46]) i.i) _;rw[show el (i.rs++[c46]) i.i=c46 by conv=>{ lhs;rw[<-hil] };exact CX _ _];rw[hL]at h46;exact h46⟩)
 have hge:i.i=l.length:=by have:=QJH hc2;have:=i.le;omega
 have hno:(Jb y.rs (Q8 t) (lV l) n).any Jv=false:=any_none λj hj=>i.no j O;refine Qz ?_
 repeat first|refine QZ ?_|refine QQ wy ?_
 refine Qa<|QJM 3 I ?_
 have hxl:=i.len;obtain⟨⟨rq,rn,rc⟩,hv2,hrn,hrc,hfix⟩:=Q9.fix (w0:=w) (F0:=F) (bs1:=[]) (G:=_) i.hr;dsimp only at hrn hrc hfix;subst hrn;refine YS hfix ?_;rw[hv2];dsimp only[Sr.v];refine QJK 6 I ?_;exact Jd (((⟨rq,i.i,rc⟩,i.rs):Sr×List Sr)) I (wO I I) (by rw[h28,I5,ai,hno];rfl) λF h9=>by rw[h28,I5,ai,hno];show I2 F (⟨rq,i.i,rc⟩,i.rs) (Jb y.rs (Q8 t) (lV l) n);exact⟨h9.2,hxl,by show i.i=_;rw[htl2];exact hge,λj hj=>h9.1.2 j (by rw[htl2]at hj;omega)⟩
structure NtJ(n:Nat) where
 i:Nat
 le:i<=n
def zC(xs:List (Fr×Rat)):List (List UInt8):=xs.map λp=>Js p.2
theorem zB(h:i<xs.length):(zC (xs.take (i+1))).map tx=(zC (xs.take i)).map tx++[tx (Js (el xs i).2)]:=by rw[XU h];simp[zC]
theorem gv(h:i<=xs.length):((zC (xs.take i)).map tx).length=i:=by simp[zC];omega
theorem dH{vs:List Value}{z v:Value}(h:vs.length=i)(hi:i<n):K8 (vs++Xb [z] (n-i)) (0+i*1) [v] ((vs++[v])++Xb [z] (n-(i+1))):=zT h hi
theorem Lm{q:Option Addr}{c:Nat}(hF:Fits F w)(hGl:JE F)(hR:Qx F q n 4 (Fo xs))(hX:R8 F xs)(hn:xs.length=n)(hl:n<=1000000)(hz:∀p∈xs,JU p.2<=100000000):
  QV prog 88 [.slice q n c] w F (λ(c:Sr)=>c.v) (λc F=>Qx F c.q c.n 1 ((zC xs).map tx)/\c.n=n/\c.n<=c.cap):=by
 refine QV.intro (G:=λF=>JE F/\Qx F q n 4 (Fo xs)/\R8 F xs) func88 rfl wy rfl rfl hF (λF' hF'=>⟨hGl.le hF',hR.le hF',hX.le hF'⟩)<|QI7<|wQ rfl<|wR rfl<|QA (Qh rfl XZ)<|Mq (n:=n) (bytes:=16) rfl rfl KE JP Cn rfl QEn O O λbk=>YS (E':=⟨w,F,[(bk,.cells ((zC (xs.take 0)).map tx++Xb [tx []] (n-0)).toArray 27 (0,0))],λF=>JE F/\Qx F q n 4 (Fo xs)/\R8 F xs⟩) w9<|wQ rfl<|QG<|wR rfl<|QA (Qh rfl XZ)<|QH0 rfl<|QHz<|QW<|JV (ι:=NtJ xs.length) [(3,_),(9,_),(10,_)] (λi=>[(11,.int .i64 ((i.i:Nat):Int))]) (λi=>[(bk,.cells ((zC (xs.take i.i)).map tx++Xb [tx []] (n-i.i)).toArray 27 (0,0))]) (λi F=>True) (λi=>xs.length-i.i) (⟨0,ao _⟩) wU wS QIM w8 λi=>?_
 simp only[aa,ab];have hi:=i.le;refine wA 6 I ?_;refine QR I (λhc2=>?_) λhc2=>?_
 ·have hlt:i.i<xs.length:=wk<|QJG hc2
  have hem:=Qv hlt;refine QJL 7 I<|QA (Q3 (n:=n) i.i (λF h9=>h9.1.2.1) rfl rfl XZ QN O)<|QA (JK (n:=n) (vs:=[.int .i64 (el xs i.i).1.n.s,.slice (el xs i.i).1.n.q (el xs i.i).1.n.n (el xs i.i).1.n.cap,.int .i64 (el xs i.i).1.d.s,.slice (el xs i.i).1.d.q (el xs i.i).1.d.n (el xs i.i).1.d.cap]) ((i.i)*4) (λF h9=>h9.1.2.1) O rfl QN I λj v hv=>JQ (f:=(λe=>Kl e.1)) (l:=xs) (λ_=>rfl) O hv)<|Qc Jy λb5=>QH1 I<|QU (vs:=[_,_,_,_]) I I I QN I .here .h4 wV<|QJK 5 I<|QA (wJ I QN .here)<|QI I (λ_ _ f k=>N4 f k.1.1 (k.1.2.2 _ hem) (hz _ hem)) λ_=>QA (JJ (i:=i.i) rfl rfl KE JP O)<|QU (vs:=[tx (Js (el xs i.i).2)]) I I I JP I .u1 (dH (gv O) O) wS<|QE<|Qk<|QC<|QB ?_
  refine QA (Qw I I O)<|wB 2 I ?_
  exact Qm (⟨i.i+1,hlt⟩) (by show xs.length-(i.i+1)<xs.length-i.i;omega) wV ((by rw[zB hlt];exact .cons _ QIM)) λF h=>⟨h.1.1,trivial⟩
 have hge:i.i=xs.length:=by have:=QJH hc2;have:=i.le;omega
 refine Qz ?_
 repeat first|refine QZ ?_|refine QQ wy ?_
 refine Qa<|QJM 3 I ?_
 have hzz:Xb [tx []] (n-i.i)=[]:=by rw[show n-i.i=0 from by omega];rfl
 rw[hzz,aK,hge,aP];refine Yw (b:=bk) .here<|QJK 5 I ?_
 exact QS ((⟨some ⟨bk,0,none⟩,n,n⟩:Sr)) I (wN I) (rfl) λF h9=>⟨Qx.of h9.2 (by simp[zC];omega),rfl,aD _⟩
end Go.Proofs.YtbpmnjieoncbcaaGreatDoor
