/- Steps of the proof of the theorem in the last file. -/
import Derived.Test.YtjcphjpkimmmjaaGreatDoorE0XCo
set_option linter.all false
set_option maxHeartbeats 4000000
open Go.Proofs.Tryz
open List renaming cons_append → aa,nil_append → ab,length_range → af,take_of_length_le → aj,length_map → ak,getElem_of_mem → aq,range → ar,take_length → av,length_take → ax,all_eq_true → ay,drop_of_length_le → aB,getElem?_toArray → aG,not_mem_nil → aL,map_append → aM,mem_cons → aN,perm_append_comm → aO,foldl_append → aP,map_map → aT
open Go.Value renaming bool → ae,int → ah,okWide → aS
open Bool renaming not_not → ag,or_eq_false_iff → ai,not_eq_false' → au,and_eq_true → aA,and_eq_false_iff → aH,not_eq_true' → aJ
open Nat renaming zero_le → ao,le_refl → aD,zero_add → aF,le_trans → aK,not_lt_zero → aR
open Go.DataW renaming trod → aC,Trod → aU
open List.cons renaming inj → aE
open Option.some renaming inj → aI
open And renaming intro → aQ
namespace Go.Proofs.YtjcphjpkimmmjaaGreatDoor
variable{i k n:Nat}{l:List (List UInt8×List UInt8)}{w:World}{F:Gs}{y:Xz}{tb:List Wl}
open Go.RowKit Ig
def cW{r:Rat}(h:JW r<=k)(hk:k<=1800):Jh r=false:=by
 unfold Jh Dp;have a:∀z:Int,sz z<=k->decide (lim<=z.natAbs)=false:=λz hz=>by
  have h1:=(XD z 1800).1 O;have h2:=CC;refine decide_eq_false λe=>?_;exact absurd (Nat.lt_trans (Nat.lt_of_le_of_lt e h1) h2) (Nat.lt_irrefl _)
 rw[a _ (aK (Jv r) h),a _ (aK (Jt r) h)];rfl
def Xij{l:List Int}(h:∀x∈l,x=0):Qs l=0:=by
 induction l with
 |nil=>rfl
 |cons a l ih=>unfold Qs;rw[if_pos (h a tJ)];exact ih λx hx=>h x (by simp[hx])
def QCD(x:Int):Qs [x]=x:=by
 unfold Qs;split
 ·rename_i h;rw[h];rfl
 rfl
theorem Xg0{r:Sr}(hF:Fits F w)(hGl:JE F)(hy:X4 F y)(ht:GJ y)(hx:IF F r tb)(hc:QCR r tb):Qf prog 159 [y.v,r.v] w F (.int .i64 (Qs [y.e,Dz y.nm.n tb])):=by
 refine QU.intro (G:=λF=>JE F/\X4 F y/\IF F r tb) func159 rfl tH rfl rfl hF (λF' hF'=>⟨hGl.le hF',hy.le hF',hx.le hF'⟩)<|wa<|Qp rfl (vs:=[_,_,_]) rfl λb2=>wZ rfl<|QG<|wa<|QA (wO I J6 .here)<|QI rfl (λ_ _ f k=>Zs (y:=y) f k.1 k.2.1 ht) λ_=>wZ rfl<|wb rfl<|QA (QT rfl rfl rfl)<|QE<|QC ?_
 refine QQ I (λhc2=>?_) λhc2=>?_
 ·have h9:y.e≠0:=bne_iff_ne.1 hc2;refine wA 7 I ?_;exact wg I I (congrArg (ah .i64) (by rw[Zf h9])) tL
 have h9:y.e=0:=bne_eq_false_iff_eq.1 hc2;refine wC 4 I<|QA (wO I J6 .here)<|wW I<|QI I (λ_ _ f k=>F3 (y:=y) f k.1.1 k.1.2.1 k.1.2.2 hc) λ_=>wD 4 I ?_
 exact wg I I (congrArg (ah .i64) (by rw[h9,Zn,QCD])) tL
instance :Inhabited Yx:=⟨(default,(0,0))⟩
def AZ(s:List UInt8×List UInt8):Bool:=!(decide ((s.1.length:Int)>40)||decide ((s.2.length:Int)>40))
def Ts(l:List (List UInt8×List UInt8)):Bool:=l.all AZ&&decide (l.length<=30)
def AY(h:Ts l=true):l.length<=30/\∀s∈l,s.1.length<=40/\s.2.length<=40:=by
 unfold Ts at h;rw[aA,ay,decide_eq_true_eq]at h;refine⟨h.2,λs hs=>?_⟩;have:=h.1 s hs;unfold AZ at this;simp at this;omega
theorem gW{n:Nat}{r:Sr}(hF:Fits F w)(hx:Ks F r l)(hc:BS r l):Qf prog 31 [.int .i64 (n:Int),r.v] w F (.int .i64 (YZ n l)):=by
 have hl:=hx.len;have hn:=hc.n;refine QU.intro (G:=λF=>Ks F r l) func31 rfl tH rfl rfl hF (λF' hF'=>hx.le hF')<|wa<|wZ rfl<|QG<|wb rfl<|QA (Qg rfl XF)<|wW rfl<|QA (QT rfl rfl rfl)<|QE<|QC ?_
 refine QQ I (λhc2=>?_) λhc2=>?_
 ·have h8:=bne_iff_ne.1 hc2;refine wA 6 I ?_;exact wg I I (congrArg (ah .i64) (by unfold YZ;rw[if_pos O])) tL
 have h8:=bne_eq_false_iff_eq.1 hc2;refine wC 5 I<|QI I (λ_ _ f k=>jG f k.row ⟨hl,hc.t⟩ hn) λ_=>wD 4 I ?_
 exact wg I I (congrArg (ah .i64) (by unfold YZ;rw[if_neg O])) tL
theorem um{r:Sr}(hF:Fits F w)(hx:Ks F r l)(hn:r.n<=9223372036854775807):Qf prog 24 [r.v] w F (.bool (Ts l)):=by
 have hl:=hx.len;refine QU.intro (G:=λF=>Ks F r l) func24 rfl tH rfl rfl hF (λF' hF'=>hx.le hF')<|wa<|wZ rfl<|QG<|wa<|wZ rfl<|QV<|J9 (ι:=Wo l AZ) [(0,_)] (λi=>[(3,.int .i64 ((i.i:Nat):Int))]) (λi=>l.length-i.i) (Wo.start _ _) wk wk λi=>?_
 simp only[aa,ab];have hi:=i.le;refine wA 5 I<|QA (Qg I XF)<|wD 3 I ?_
 refine QQ I (λhc2=>?_) λhc2=>?_
 ·have hlt:i.i<l.length:=tD<|wi hc2
  have hem:=Qw hlt;refine wC 4 I ?_;refine ZZ [(0,_),(3,_)] [(25,.bool (!(AZ (el l i.i))))] wm ?_ ?_
  ·refine wA 3 I<|QA (Q3 (n:=r.n) i.i (λF hx=>hx.row) rfl rfl XF Jd O)<|QA (QH I V6 JF)<|QA (JA (n:=r.n) ((i.i)*2+0) (λF hx=>hx.row) O rfl JF (JN (f:=NU) (l:=l) K1 O rfl))<|QA (Xc I Bw)<|wB 2 I ?_
   refine Qn (t:=17) rfl (λhb17=>?_) λhb17=>?_
   ·refine wB 9 I ?_;exact JY ⟨rfl,rfl,(congrArg (λb=>some (ae b)) (by unfold AZ;rw[ag,hb17];rfl)),trivial⟩ we tM
   refine wB 5 I<|QA (Q3 (n:=r.n) i.i (λF hx=>hx.row) rfl rfl XF Jd O)<|QL I I<|QA (QH I We JF)<|QL I I<|QA (JA (n:=r.n) ((i.i)*2+1) (λF hx=>hx.row) O rfl JF (JN (f:=NU) (l:=l) K1 O rfl))<|QL I I<|QA (Xc I Bw)<|wB 4 I ?_
   exact JY ⟨rfl,rfl,(congrArg (λb=>some (ae b)) (by unfold AZ;rw[ag,hb17];rfl)),trivial⟩ we tM
  simp only[aa,ab];refine QQ I (λhc2=>?_) λhc2=>?_
  ·have h25:AZ (el l i.i)=false:=by simpa using hc2
   refine wA 6 I ?_
   repeat first|refine Q6 ?_|refine Qv ?_
   exact wg I I (congrArg ae (by unfold Ts;rw[i.hit hlt h25];rfl)) tL
  have h25:AZ (el l i.i)=true:=by simpa using hc2
  refine QN<|Qj<|wE 3 I<|QA (Qu I I O)<|wB 2 I ?_
  exact Ql (i.next hlt h25) (by show l.length-(i.i+1)<l.length-i.i;omega) wm we tM
 have hge:l.length<=i.i:=tD<|wj hc2
 refine Qx ?_
 repeat first|refine QY ?_|refine QO tH ?_
 refine QZ<|wE 4 I<|QA (Qg I XF)<|wD 5 I ?_
 exact wg I I (congrArg ae (by unfold Ts;rw[i.stop hge,Bool.true_and,hl];exact decide_eq_decide.2 O)) tL
structure vG(y:Xz):Prop where
 nn:y.nm.n<=9223372036854775807
 nc:y.nm.n<=y.nm.cap
 nt:∀s∈y.nl,s.length<=9223372036854775807
 rn:y.rt.n<=9223372036854775807
 sn:y.st.n<=9223372036854775807
 rl:∀e∈y.rl,e.2.length=e.1.n/\e.1.n<=9223372036854775807/\∀t∈e.2,t.k.length=t.r.n
def shT(t:V0):Bool:=!(decide ((t.r.n:Int)>30)||decide ((t.f.length:Int)>30))
def shP(e:NQ):Bool:=!(decide ((e.1.n:Int)>70))&&e.2.all shT
def shN(y:Xz):Bool:=decide ((y.nm.n:Int)>30)||decide ((y.rt.n:Int)>30)||decide ((y.st.n:Int)>30)
def shS(y:Xz):Bool:=!(shN y)&&(y.rl.all shP&&y.sl.all AZ)
structure QId(y:Xz):Prop where
 n:y.nm.n<=30/\y.rt.n<=30/\y.st.n<=30
 r:∀e∈y.rl,e.1.n<=70/\∀t∈e.2,t.r.n<=30/\t.f.length<=30
 s:∀s∈y.sl,s.1.length<=40/\s.2.length<=40
def QHL{s:List UInt8×List UInt8}(h:AZ s=true):s.1.length<=40/\s.2.length<=40:=by
 unfold AZ at h;simp at h;omega
def QIJ(h:shS y=true):QId y:=by
 unfold shS at h;simp only[aA,ay]at h;obtain⟨h1,h2,h3⟩:=h;refine⟨?_,λe he=>?_,λs hs=>QHL (h3 s hs)⟩
 ·unfold shN at h1;simp at h1;omega
 have:=h2 e he;unfold shP at this;simp only[aA,ay]at this;refine⟨by have:=this.1;simp at this;omega,λt ht=>?_⟩;have h4:=this.2 t ht;unfold shT at h4;simp at h4;omega
theorem vG.t(h:vG y)(k:QId y):GJ y :=
 ⟨tD k.n,h.nc,h.nt,tD k.n,λe he=>⟨(h.rl e he).1,λt ht=>⟨tD<|(k.r e he).2 t ht,by rw[(h.rl e he).2.2 t ht];have:=(k.r e he).2 t ht;omega⟩,by rw[(h.rl e he).1];have:=(k.r e he).1;omega⟩,tD k.n,λs hs=>tD<|k.s s hs⟩
def vG.ts(h:vG y)(k:shS y=true):GJ y:=h.t (QIJ k)
def yX(y:Xz)(v g:Int):Bool:=!(!(shS y)||(y.e != 0)||decide ((y.rt.n:Int)>v)||(!(decide ((y.st.n:Int)<=v)&&y.sl.all (cx g))&&decide ((y.st.n:Int)>0)))
def pT(y:Xz)(v d g:Int):Bool:=yX y v g&&y.rl.all λe=>fpB (ZX e.2) (y.rt.n:Int) 4 d g
def QFQ{v g:Int}(h:yX y v g=true):shS y=true/\y.e=0/\(y.rt.n:Int)<=v/\(y.st.n=0\/((y.st.n:Int)<=v/\∀s∈y.sl,cx g s=true)):=by
 unfold yX at h;simp only[aJ,ai,au,bne_eq_false_iff_eq,decide_eq_false_iff_not]at h;obtain⟨⟨⟨h1,h2⟩,h3⟩,h4⟩:=h;refine⟨by simpa using h1,h2,O,?_⟩;by_cases g:y.st.n=0
 ·exact .inl g
 right;have:decide ((y.st.n:Int)>0)=true:=decide_eq_true O;rw[this,Bool.and_true]at h4;simp only[au,aA,decide_eq_true_eq,ay]at h4;exact h4
def gK{nl:List (List UInt8)}{rl:List Pt}{sl:List (List UInt8×List UInt8)}(h1:nl.length≠0)(h2:¬nl.length>24)(h3:rl.length=nl.length/\sl.length=nl.length):Bz nl rl sl=Qs [DX nl,Qs (rl.map λp=>Zh p nl.length),Qs (sl.map λs=>Xd s.1 s.2)]:=by
 unfold Bz;rw[if_neg h1,if_neg h2,if_neg O]
theorem QHP{q:Option Addr}{c:Nat}{l:List (List UInt8)}{v:List UInt8}(hF:Fits F w)(hR:Qy F q n 1 (l.map tx))(hn:l.length=n)(hb:n<=1000000000):Qf prog 211 [.slice q n c,tx v] w F (.bool (decide (v∈l))):=by
 refine QU.intro (G:=λF=>Qy F q n 1 (l.map tx)) func211 rfl tH rfl rfl hF (λF' hF'=>hR.le hF')<|wa<|wZ rfl<|QG<|wa<|wZ rfl<|QV<|J9 (ι:=NoI l v) [(0,_),(1,_)] (λi=>[(5,.int .i64 ((i.i:Nat):Int))]) (λi=>l.length-i.i) (⟨0,ao _,λj h=>absurd h (aR _)⟩) wm wk λi=>?_
 simp only[aa,ab];have hi:=i.le;refine wA 5 I<|QA (Qg I Kw)<|wD 3 I ?_
 refine QQ I (λhc2=>?_) λhc2=>?_
 ·have hlt:i.i<l.length:=tD<|wi hc2
  have hem:=Qw hlt;refine wC 8 I<|QA (Q3 (n:=n) i.i tM rfl rfl Kw Du O)<|QA (JA (n:=n) ((i.i)*1) tM O rfl Du (XT (f:=tx) (l:=l) O))<|wW I<|QA (VE I I)<|QE<|QC ?_
  refine QQ I (λhc2=>?_) λhc2=>?_
  ·have h17:el l i.i=v:=eq_of_beq hc2;refine wA 6 I ?_
   repeat first|refine Q6 ?_|refine Qv ?_
   exact wg I I (congrArg ae (decide_eq_true (by rw[<-h17];exact hem))) tL
  have h17:¬el l i.i=v:=by simpa using hc2
  refine QN<|Qj<|wE 3 I<|QA (Qu I I O)<|wB 2 I ?_
  exact Ql (⟨i.i+1,hlt,λj hj=>by rcases Nat.lt_succ_iff_lt_or_eq.1 hj with h | rfl;exact i.h j h;exact h17⟩) (by show l.length-(i.i+1)<l.length-i.i;omega) wu we tM
 have hge:l.length<=i.i:=tD<|wj hc2
 refine Qx ?_
 repeat first|refine QY ?_|refine QO tH ?_
 refine QZ<|wE 7 I ?_
 exact wg I I (congrArg ae (decide_eq_false (i.stop hge))) tL
theorem QHS{q:Option Addr}{c:Nat}{l:List (List UInt8)}{v:List UInt8}(hF:Fits F w)(hR:Qy F q n 1 (l.map tx))(hn:l.length=n)(hb:n<=1000000000):Qf prog 117 [.slice q n c,tx v] w F (.bool (decide (v∈l))):=by
 refine QU.intro (G:=λF=>Qy F q n 1 (l.map tx)) func117 rfl tH rfl rfl hF (λF' hF'=>hR.le hF')<|wa<|wZ rfl<|wb rfl<|wW rfl<|QI rfl (λ_ _ f k=>QHP f k hn hb) λ_=>wZ rfl<|QX ?_
 exact wg I I (rfl) tL
theorem QA3(hF:Fits F w)(hGl:JE F)(hy:X4 F y)(ht:GJ y):Qf prog 26 [y.v] w F (.int .i64 y.e):=by
 obtain⟨⟨qn,nn,cn⟩,nl,⟨qr,nr,cr⟩,rl,⟨qs,ns,cs⟩,sl⟩:=y;have hnl:=hy.jL;have hrl:=hy.Ka;have hsl:=hy.P0;have hnn:=ht.nn;have hrn:=ht.rn;have hsn:=ht.sn;dsimp only at *
 dsimp only[Xz.v];refine QU.intro (G:=λF=>JE F/\X4 F ⟨⟨qn,nn,cn⟩,nl,⟨qr,nr,cr⟩,rl,⟨qs,ns,cs⟩,sl⟩) func26 rfl tH rfl rfl hF (λF' hF'=>⟨hGl.le hF',hy.le hF'⟩)<|wa<|Qp rfl (vs:=[_,_,_]) rfl λb1=>wZ rfl<|wa<|QA (QH rfl Hj VU)<|QA (Qe rfl VU .here .h1)<|QA (Qg rfl Kw)<|wZ rfl<|QG<|wb rfl<|QA (QT rfl rfl rfl)<|QE<|QC ?_
 refine QQ I (λhc2=>?_) λhc2=>?_
 ·have h11:nl.length=0:=by have:(nn:Int)=0:=eq_of_beq hc2;omega
  refine wA 6 I ?_;exact wg I I (congrArg (ah .i64) (by show Bz nl (rl.map λe=>ZX e.2) sl=12;unfold Bz;rw[if_pos h11])) tL
 have h11:nl.length≠0:=by have:¬(nn:Int)=0:=(by simpa using hc2);omega
 refine wC 9 I ?_;refine QQ I (λhc2=>?_) λhc2=>?_
 ·have h13:nl.length>24:=tD<|wi hc2
  refine wA 6 I ?_;exact wg I I (congrArg (ah .i64) (by show Bz nl (rl.map λe=>ZX e.2) sl=5;unfold Bz;rw[if_neg h11,if_pos h13])) tL
 have h13:¬nl.length>24:=tD<|wj hc2
 refine wC 3 I ?_;refine ZZ [(1,_),(3,_)] [(25,.bool (((nr:Int) != nn||(ns:Int) != nn)))] wm ?_ ?_
 ·refine QB<|QA (QH I VY Z6)<|QA (Qe I Z6 .here (.skip .h1))<|QA (Qg I VJ)<|wB 3 I ?_
  refine Qn (t:=19) rfl (λhb19=>?_) λhb19=>?_
  ·refine wB 7 I ?_;exact JY ⟨rfl,rfl,(congrArg (λb=>some (ae b)) (by rw[hb19];rfl)),trivial⟩ we tM
  refine QL I I<|QA (QH I YM J0)<|QL I I<|QA (Qe I J0 .here (.skip (.skip .h1)))<|QL I I<|QA (Qg I XF)<|wB 6 I ?_
  exact JY ⟨rfl,rfl,(congrArg (λb=>some (ae b)) (by rw[hb19];rfl)),trivial⟩ we tM
 simp only[aa,ab];refine QQ I (λhc2=>?_) λhc2=>?_
 ·have h25:(rl.map λe=>ZX e.2).length≠nl.length\/sl.length≠nl.length:=by simp only[Bool.or_eq_true,bne_iff_ne]at hc2;rw[ak];omega
  refine wA 6 I ?_;exact wg I I (congrArg (ah .i64) (by show Bz nl (rl.map λe=>ZX e.2) sl=2;unfold Bz;rw[if_neg h11,if_neg h13,if_pos h25])) tL
 have h25:(rl.map λe=>ZX e.2).length=nl.length/\sl.length=nl.length:=by simp only[ai,bne_eq_false_iff_eq]at hc2;rw[ak];omega
 have h25r:rl.length=nl.length:=by rw[<-h25.1,ak]
 refine wC 9 I<|J9 (ι:=X7 (ar nl.length) (EL nl)) [(1,_),(3,_)] (λi=>[(4,.int .i64 ((i.i:Nat):Int))]) (λi=>nl.length-i.i) (X7.start _ _) wm wk λi=>?_
 simp only[aa,ab];have hi:=i.le;rw[af]at hi;refine wA 8 I ?_;refine QQ I (λhc2=>?_) λhc2=>?_
 ·have hlt:i.i<nl.length:=tD<|wi hc2
  have hem:=Qw hlt;refine wC 7 I<|QA (QH I Hj VU)<|QA (Qe I VU .here .h1)<|wW I<|QA (Q3 (n:=nn) i.i (λF h9=>h9.2.nm) rfl rfl Kw Du O)<|QA (JA (n:=nn) ((i.i)*1) (λF h9=>h9.2.nm) O rfl Du (XT (f:=tx) (l:=nl) O))<|QI I (λ_ _ f k=>QEo f (ht.nt _ hem)) λ_=>QA (XL I)<|QE<|QC ?_
  refine QQ I (λhc2=>?_) λhc2=>?_
  ·have h37:(!cN (el nl i.i))=true:=hc2;have hnE:EL nl i.i≠0:=by unfold EL;rw[if_pos h37,Zf tF];decide
   refine wA 6 I ?_
   repeat first|refine Q6 ?_|refine Qv ?_
   exact wg I I (congrArg (ah .i64) (by show Bz nl (rl.map λe=>ZX e.2) sl=8;rw[gK h11 h13 h25];have h9:=i.hit (by rw[af];exact hlt) (by rw[ZG hlt];exact hnE);rw[ZG hlt]at h9;rw[show DX nl=EL nl i.i from h9,Zf hnE];unfold EL;rw[if_pos h37,Zf tF])) tL
  have h37:(!cN (el nl i.i))=false:=hc2;refine wC 3 I<|JG we mixed tE<|QK (QH I Hj VU)<|QK (Qe I VU .here .h1)<|QK (QD I)<|QK (NV i.i I I I Kw Du (by have:=ht.nc;dsimp only at this;omega))<|QK (QH I Hj VU)<|QK (Qe I VU .here .h1)<|QK (QD I)<|QK (Q3 (n:=nn) i.i (λF h9=>h9.1.2.nm) rfl rfl Kw Du O)<|QK (JA (n:=nn) ((i.i)*1) (λF h9=>h9.1.2.nm) O rfl Du (XT (f:=tx) (l:=nl) O))<|QR I (λ_ _ f k=>QHS f (Qy.QCd (l:=nl) k.1.2.nm hnl hi) (by rw[ax];omega) O) λ_=>Q7<|QC ?_
  refine QQ I (λhc2=>?_) λhc2=>?_
  ·have h47:decide (el nl i.i∈nl.take i.i)=true:=hc2;have hnE:EL nl i.i≠0:=by unfold EL;rw[if_neg (by rw[h37];decide),if_pos h47,Zn,Zf tF];decide
   refine wA 6 I ?_
   repeat first|refine Q6 ?_|refine Qv ?_
   exact wg I I (congrArg (ah .i64) (by show Bz nl (rl.map λe=>ZX e.2) sl=9;rw[gK h11 h13 h25];have h9:=i.hit (by rw[af];exact hlt) (by rw[ZG hlt];exact hnE);rw[ZG hlt]at h9;rw[show DX nl=EL nl i.i from h9,Zf hnE];unfold EL;rw[if_neg (by rw[h37];decide),if_pos h47,Zn,Zf tF])) tL
  have h47:decide (el nl i.i∈nl.take i.i)=false:=hc2;refine QN<|Qj<|wE 3 I<|QA (Qu I I O)<|wB 2 I ?_
  exact Ql (i.next (by rw[af];exact hlt) (by rw[ZG hlt];unfold EL;rw[if_neg (by rw[h37];decide),if_neg (by rw[h47];decide)];rfl)) (by show nl.length-(i.i+1)<nl.length-i.i;omega) wu we λF h=>h.1.1
 have hge:nl.length<=i.i:=tD<|wj hc2
 have hnz:DX nl=0:=i.stop (by rw[af];exact hge);refine Qx ?_
 repeat first|refine QY ?_|refine QO tH ?_
 refine QZ<|wE 8 I<|J9 (ι:=X7 rl λe=>Zh (ZX e.2) (nn:Int)) [(1,_),(3,_)] (λi2=>[(5,.int .i64 ((i2.i:Nat):Int))]) (λi2=>rl.length-i2.i) (X7.start _ _) wm wk λi2=>?_
 simp only[aa,ab];have hi2:=i2.le;refine wA 8 I ?_;refine QQ I (λhc2=>?_) λhc2=>?_
 ·have hlt2:i2.i<rl.length:=tD<|wi hc2
  have hem:=Qw hlt2;refine wC 6 I<|QA (QH I VY Z6)<|QA (Qe I Z6 .here (.skip .h1))<|wW I<|QA (Q3 (n:=nr) (i2.i) (λF h9=>h9.2.rt) rfl rfl VJ Vu O)<|QA (JA (n:=nr) ((i2.i)*1) (λF h9=>h9.2.rt) O rfl Vu (XT (f:=λe:NQ=>e.1.v) (l:=rl) O))<|wW I<|QI I (λ_ _ f k=>Iw (q:=(el rl i2.i).1.q) (n:=(el rl i2.i).1.n) (cap:=(el rl i2.i).1.cap) f k.1 (k.2.pl _ hem).1 (k.2.pl _ hem).2 (ht.tm _ hem).1 (λt htt=>tD<|(ht.tm _ hem).2.1 t htt) (tD<|(ht.tm _ hem).2.2) O) λ_=>wD 9 I ?_
  refine QQ I (λhc2=>?_) λhc2=>?_
  ·have h61:=bne_iff_ne.1 hc2;refine wA 7 I ?_
   repeat first|refine Q6 ?_|refine Qv ?_
   exact wg I I (congrArg (ah .i64) (by show Bz nl (rl.map λe=>ZX e.2) sl=_;rw[gK h11 h13 h25,hnz,Zn,aT,hnl];have h9:=i2.hit hlt2 h61;rw[show Qs (rl.map ((λp=>Zh p (nn:Int))∘λe=>ZX e.2))=Zh (ZX (el rl i2.i).2) (nn:Int)from h9,Zf h61])) tL
  have h61:=bne_eq_false_iff_eq.1 hc2;refine QN<|Qj<|wE 3 I<|QA (Qu I I O)<|wB 2 I ?_
  exact Ql (i2.next hlt2 h61) (by show rl.length-(i2.i+1)<rl.length-i2.i;omega) wu we tN
 have hge2:rl.length<=i2.i:=tD<|wj hc2
 refine Qx ?_
 repeat first|refine QY ?_|refine QO tH ?_
 refine QZ<|QC<|wa<|QA (QH I YM J0)<|QA (Qe I J0 .here (.skip (.skip .h1)))<|QI I (λ_ _ f k=>jG f k.2.st ⟨hsl,ht.st⟩ hsn) λ_=>wD 4 I ?_
 exact wg I I (congrArg (ah .i64) (by show Bz nl (rl.map λe=>ZX e.2) sl=_;rw[gK h11 h13 h25,hnz,Zn,aT,hnl];have h9:=i2.stop hge2;rw[show Qs (rl.map ((λp=>Zh p (nn:Int))∘λe=>ZX e.2))=0 from h9,Zn,QCD])) tL
theorem uk(hF:Fits F w)(hy:X4 F y)(ht:vG y):Qf prog 105 [y.v] w F (.bool (shS y)):=by
 have hnl:=hy.jL;have hrl:=hy.Ka;have hsl:=hy.P0;have hnn:=ht.nn;have hrn:=ht.rn;have hsn:=ht.sn;refine QU.intro (G:=λF=>X4 F y) func105 rfl tH rfl rfl hF (λF' hF'=>hy.le hF')<|wa<|Qp rfl (vs:=[_,_,_]) rfl λb1=>wZ rfl<|QG ?_
 refine ZZ [(1,_)] [(21,.bool (shN y))] wk ?_ ?_
 ·refine QB<|QA (QH I Hj VU)<|QA (Qe I VU .here .h1)<|QA (Qg I Kw)<|wB 2 I ?_
  refine Qn (t:=10) rfl (λhb10=>?_) λhb10=>?_
  ·refine wB 12 I ?_;exact JY ⟨rfl,(congrArg (λb=>some (ae b)) (by unfold shN;rw[hb10];rfl)),trivial⟩ we tM
  refine QL I I<|QA (QH I VY Z6)<|QL I I<|QA (Qe I Z6 .here (.skip .h1))<|QL I I<|QA (Qg I VJ)<|wB 4 I ?_
  refine Qn (t:=16) rfl (λhb16=>?_) λhb16=>?_
  ·refine wB 6 I ?_;exact JY ⟨rfl,(congrArg (λb=>some (ae b)) (by unfold shN;rw[hb10,hb16];rfl)),trivial⟩ we tM
  refine QL I I<|QA (QH I YM J0)<|QL I I<|QA (Qe I J0 .here (.skip (.skip .h1)))<|QL I I<|QA (Qg I XF)<|wB 4 I ?_
  exact JY ⟨rfl,(congrArg (λb=>some (ae b)) (by unfold shN;rw[hb10,hb16];rfl)),trivial⟩ we tM
 simp only[aa,ab];refine QQ I (λhc2=>?_) λhc2=>?_
 ·have h21:shN y=true:=hc2;refine wA 6 I ?_;exact wg I I (congrArg ae (by unfold shS;rw[h21];rfl)) tL
 have h21:shN y=false:=hc2;refine wC 9 I<|J9 (ι:=Wo y.rl shP) [(1,_)] (λi=>[(3,.int .i64 ((i.i:Nat):Int))]) (λi=>y.rl.length-i.i) (Wo.start _ _) wk wk λi=>?_
 simp only[aa,ab];have hi:=i.le;refine wA 4 I<|QA (QH I VY Z6)<|QA (Qe I Z6 .here (.skip .h1))<|QA (Qg I VJ)<|wD 3 I ?_
 refine QQ I (λhc2=>?_) λhc2=>?_
 ·have hlt:i.i<y.rl.length:=tD<|wi hc2
  have hem:=Qw hlt;have hpl:=(ht.rl _ hem).1;have hpn:=(ht.rl _ hem).2.1;refine wC 7 I<|QA (QH I VY Z6)<|QA (Qe I Z6 .here (.skip .h1))<|wW I<|QA (Q3 (n:=y.rt.n) i.i (λF hy=>hy.rt) rfl rfl VJ Vu O)<|QA (JA (n:=y.rt.n) ((i.i)*1) (λF hy=>hy.rt) O rfl Vu (XT (f:=λe:NQ=>e.1.v) (l:=y.rl) O))<|QA (Qg I Zg)<|wD 3 I ?_
  refine QQ I (λhc2=>?_) λhc2=>?_
  ·have h35:((el y.rl i.i).1.n:Int)>70:=wi hc2;refine wA 6 I ?_
   repeat first|refine Q6 ?_|refine Qv ?_
   exact wg I I (congrArg ae (by unfold shS;rw[h21,i.hit hlt (by unfold shP;rw[decide_eq_true h35];rfl)];rfl)) tL
  have h35:¬((el y.rl i.i).1.n:Int)>70:=wj hc2;refine wC 8 I<|J9 (ι:=Wo (el y.rl i.i).2 shT) [(1,_),(3,_)] (λi2=>[(4,.int .i64 ((i2.i:Nat):Int))]) (λi2=>(el y.rl i.i).2.length-i2.i) (Wo.start _ _) wm wk λi2=>?_
  simp only[aa,ab];have hi2:=i2.le;refine wA 4 I<|QA (QH I VY Z6)<|QA (Qe I Z6 .here (.skip .h1))<|wW I<|QA (Q3 (n:=y.rt.n) i.i (λF hy=>hy.rt) rfl rfl VJ Vu O)<|QA (JA (n:=y.rt.n) ((i.i)*1) (λF hy=>hy.rt) O rfl Vu (XT (f:=λe:NQ=>e.1.v) (l:=y.rl) O))<|QA (Qg I Zg)<|wD 3 I ?_
  refine QQ I (λhc2=>?_) λhc2=>?_
  ·have hlt2:i2.i<(el y.rl i.i).2.length:=tD<|wi hc2
   refine wC 4 I ?_;refine ZZ [(1,_),(3,_),(4,_)] [(69,.bool (!(shT (el (el y.rl i.i).2 i2.i))))] wu ?_ ?_
   ·refine QB<|QA (QH I VY Z6)<|QA (Qe I Z6 .here (.skip .h1))<|wW I<|QA (Q3 (n:=y.rt.n) i.i (λF hy=>hy.rt) rfl rfl VJ Vu O)<|QA (JA (n:=y.rt.n) ((i.i)*1) (λF hy=>hy.rt) O rfl Vu (XT (f:=λe:NQ=>e.1.v) (l:=y.rl) O))<|wW I<|QA (Q3 (n:=(el y.rl i.i).1.n) (i2.i) (λF hy=>(hy.pl _ hem).1) rfl rfl Zg Xh O)<|QA (QH I Yh JM)<|QA (JA (n:=(el y.rl i.i).1.n) ((i2.i)*2+1) (λF hy=>(hy.pl _ hem).1) O rfl JM (JN (f:=VM) (l:=(el y.rl i.i).2) YR O rfl))<|QA (Qg I Q2)<|wB 2 I ?_
    refine Qn (t:=57) rfl (λhb57=>?_) λhb57=>?_
    ·refine wB 13 I ?_;exact JY ⟨rfl,rfl,rfl,(congrArg (λb=>some (ae b)) (by unfold shT;rw[ag,hb57];rfl)),trivial⟩ we tM
    refine QL I I<|QA (QH I VY Z6)<|QL I I<|QA (Qe I Z6 .here (.skip .h1))<|wB 3 I<|QA (Q3 (n:=y.rt.n) i.i (λF hy=>hy.rt) rfl rfl VJ Vu O)<|QL I I<|QA (JA (n:=y.rt.n) ((i.i)*1) (λF hy=>hy.rt) O rfl Vu (XT (f:=λe:NQ=>e.1.v) (l:=y.rl) O))<|wB 3 I<|QA (Q3 (n:=(el y.rl i.i).1.n) (i2.i) (λF hy=>(hy.pl _ hem).1) rfl rfl Zg Xh O)<|QL I I<|QA (QH I GM JF)<|QL I I<|QA (JA (n:=(el y.rl i.i).1.n) ((i2.i)*2+0) (λF hy=>(hy.pl _ hem).1) O rfl JF (JN (f:=VM) (l:=(el y.rl i.i).2) YR O rfl))<|QL I I<|QA (Xc I Bw)<|wB 4 I ?_
    exact JY ⟨rfl,rfl,rfl,(congrArg (λb=>some (ae b)) (by unfold shT;rw[ag,hb57];rfl)),trivial⟩ we tM
   simp only[aa,ab];refine QQ I (λhc2=>?_) λhc2=>?_
   ·have h69:shT (el (el y.rl i.i).2 i2.i)=false:=by simpa using hc2
    refine wA 6 I ?_
    repeat first|refine Q6 ?_|refine Qv ?_
    exact wg I I (congrArg ae (by unfold shS;rw[h21,i.hit hlt (by unfold shP;rw[i2.hit hlt2 h69,Bool.and_false])];rfl)) tL
   have h69:shT (el (el y.rl i.i).2 i2.i)=true:=by simpa using hc2
   refine QN<|Qj<|wE 3 I<|QA (Qu I I O)<|wB 2 I ?_
   exact Ql (i2.next hlt2 h69) (by show(el y.rl i.i).2.length-(i2.i+1)<(el y.rl i.i).2.length-i2.i;omega) wu we tM
  have hge2:(el y.rl i.i).2.length<=i2.i:=tD<|wj hc2
  refine Qx ?_
  repeat first|refine QY ?_|refine QO tH ?_
  refine QZ<|Qj<|wE 3 I<|QA (Qu I I O)<|wB 2 I ?_
  exact Ql (i.next hlt (by unfold shP;rw[decide_eq_false h35,i2.stop hge2];rfl)) (by show y.rl.length-(i.i+1)<y.rl.length-i.i;omega) wm we tM
 have hge:y.rl.length<=i.i:=tD<|wj hc2
 have hra:=i.stop hge;refine Qx ?_
 repeat first|refine QY ?_|refine QO tH ?_
 refine QZ<|wE 8 I<|J9 (ι:=Wo y.sl AZ) [(1,_)] (λi3=>[(5,.int .i64 ((i3.i:Nat):Int))]) (λi3=>y.sl.length-i3.i) (Wo.start _ _) wk wk λi3=>?_
 simp only[aa,ab];have hi3:=i3.le;refine wA 4 I<|QA (QH I YM J0)<|QA (Qe I J0 .here (.skip (.skip .h1)))<|QA (Qg I XF)<|wD 3 I ?_
 refine QQ I (λhc2=>?_) λhc2=>?_
 ·have hlt3:i3.i<y.sl.length:=tD<|wi hc2
  refine wC 4 I ?_;refine ZZ [(1,_),(5,_)] [(94,.bool (!(AZ (el y.sl i3.i))))] wm ?_ ?_
  ·refine QB<|QA (QH I YM J0)<|QA (Qe I J0 .here (.skip (.skip .h1)))<|wW I<|QA (Q3 (n:=y.st.n) (i3.i) (λF hy=>hy.st) rfl rfl XF Jd O)<|QA (QH I V6 JF)<|QA (JA (n:=y.st.n) ((i3.i)*2+0) (λF hy=>hy.st) O rfl JF (JN (f:=NU) (l:=y.sl) K1 O rfl))<|QA (Xc I Bw)<|wB 2 I ?_
   refine Qn (t:=85) rfl (λhb85=>?_) λhb85=>?_
   ·refine wB 10 I ?_;exact JY ⟨rfl,rfl,(congrArg (λb=>some (ae b)) (by unfold AZ;rw[ag,hb85];rfl)),trivial⟩ we tM
   refine QL I I<|QA (QH I YM J0)<|QL I I<|QA (Qe I J0 .here (.skip (.skip .h1)))<|wB 3 I<|QA (Q3 (n:=y.st.n) (i3.i) (λF hy=>hy.st) rfl rfl XF Jd O)<|QL I I<|QA (QH I We JF)<|QL I I<|QA (JA (n:=y.st.n) ((i3.i)*2+1) (λF hy=>hy.st) O rfl JF (JN (f:=NU) (l:=y.sl) K1 O rfl))<|QL I I<|QA (Xc I Bw)<|wB 4 I ?_
   exact JY ⟨rfl,rfl,(congrArg (λb=>some (ae b)) (by unfold AZ;rw[ag,hb85];rfl)),trivial⟩ we tM
  simp only[aa,ab];refine QQ I (λhc2=>?_) λhc2=>?_
  ·have h94:AZ (el y.sl i3.i)=false:=by simpa using hc2
   refine wA 6 I ?_
   repeat first|refine Q6 ?_|refine Qv ?_
   exact wg I I (congrArg ae (by unfold shS;rw[h21,hra,i3.hit hlt3 h94];rfl)) tL
  have h94:AZ (el y.sl i3.i)=true:=by simpa using hc2
  refine QN<|Qj<|wE 3 I<|QA (Qu I I O)<|wB 2 I ?_
  exact Ql (i3.next hlt3 h94) (by show y.sl.length-(i3.i+1)<y.sl.length-i3.i;omega) wm we tM
 have hge3:y.sl.length<=i3.i:=tD<|wj hc2
 refine Qx ?_
 repeat first|refine QY ?_|refine QO tH ?_
 refine QZ<|wE 7 I ?_
 exact wg I I (congrArg ae (by unfold shS;rw[h21,hra,i3.stop hge3];rfl)) tL
theorem QGM{v d g:Int}(hF:Fits F w)(hGl:JE F)(hy:X4 F y)(hl:vG y)(hg:0<=g/\g<=1000):Qf prog 55 [y.v,.int .i64 v,.int .i64 d,.int .i64 g] w F (.bool (pT y v d g)):=by
 have hnl:=hy.jL;have hrl:=hy.Ka;have hsl:=hy.P0;refine QU.intro (G:=λF=>JE F/\X4 F y) func55 rfl tH rfl rfl hF (λF' hF'=>⟨hGl.le hF',hy.le hF'⟩)<|wa<|Qp rfl (vs:=[_,_,_]) rfl λb4=>wZ rfl<|QG ?_
 refine ZZ [(2,_),(3,_),(4,_)] [(38,.bool (!(yX y v g)))] wu ?_ ?_
 ·refine QB<|QA (wO I J6 .here)<|QI I (λ_ _ f k=>uk (y:=y) f k.2 hl) λ_=>QA (XL I)<|wW I ?_
  refine Qn (t:=13) rfl (λhb13=>?_) λhb13=>?_
  ·refine wB 19 I<|Jn I I<|Jn I I<|Jn I I<|Jn I I<|wB 2 I ?_
   refine QE ?_;exact JY ⟨rfl,rfl,rfl,(congrArg (λb=>some (ae b)) (by unfold yX;rw[ag,hb13];rfl)),trivial⟩ we tN
  have ht:GJ y:=hl.ts (by simpa using hb13);refine QL I I<|QA (wO I J6 .here)<|QL I I<|QI I (λ_ _ f k=>QA3 (y:=y) f k.1.1 k.1.2 ht) λ_=>wB 4 I ?_
  refine Qn (t:=18) rfl (λhb18=>?_) λhb18=>?_
  ·refine wB 14 I<|Jn I I<|Jn I I<|Jn I I<|Jn I I<|wB 3 I ?_
   exact JY ⟨rfl,rfl,rfl,(congrArg (λb=>some (ae b)) (by unfold yX;rw[ag,hb13,hb18];rfl)),trivial⟩ we λ_ h=>h.1.1
  refine QL I I<|QA (QH I VY Z6)<|QL I I<|QA (Qe I Z6 .here (.skip .h1))<|QL I I<|QA (Qg I VJ)<|wB 6 I ?_
  refine Qn (t:=25) rfl (λhb25=>?_) λhb25=>?_
  ·refine wB 7 I<|Jn I I<|Jn I I<|Jn I I<|Jn I I<|wB 3 I ?_
   exact JY ⟨rfl,rfl,rfl,(congrArg (λb=>some (ae b)) (by unfold yX;rw[ag,hb13,hb18,hb25];rfl)),trivial⟩ we λ_ h=>h.1.1
  refine QL I I<|QA (QH I YM J0)<|QL I I<|QA (Qe I J0 .here (.skip (.skip .h1)))<|wB 5 I<|QI I (λ_ _ f k=>gU f k.1.1.2.st hsl hg (tD ht.sn)) λ_=>QL I I<|QA (XL I)<|wB 2 I ?_
  refine Qn (t:=32) rfl (λhb32=>?_) λhb32=>?_
  ·refine QL I I<|QA (QH I YM J0)<|QL I I<|QA (Qe I J0 .here (.skip (.skip .h1)))<|QL I I<|QA (Qg I XF)<|wB 6 I ?_
   exact JY ⟨rfl,rfl,rfl,(congrArg (λb=>some (ae b)) (by unfold yX;rw[ag,hb13,hb18,hb25,hb32];rfl)),trivial⟩ we λ_ h=>h.1.1.1
  refine wB 8 I ?_;exact JY ⟨rfl,rfl,rfl,(congrArg (λb=>some (ae b)) (by unfold yX;rw[ag,hb13,hb18,hb25,hb32];rfl)),trivial⟩ we λ_ h=>h.1.1.1
 simp only[aa,ab];refine QQ I (λhc2=>?_) λhc2=>?_
 ·have h38:yX y v g=false:=by simpa using hc2
  refine wA 6 I ?_;exact wg I I (congrArg ae (by unfold pT;rw[h38];rfl)) tL
 have h38:yX y v g=true:=by simpa using hc2
 obtain⟨hS1,he1,hv1,hs1⟩:=QFQ h38;have ht:GJ y:=hl.ts hS1;have hrn:=ht.rn;have ho:=hy.ok he1;have hon:=ho.n1;have hor:=ho.rn;refine wC 9 I<|J9 (ι:=Wo y.rl λe=>fpB (ZX e.2) (y.rt.n:Int) 4 d g) [(2,_),(3,_),(4,_)] (λi=>[(9,.int .i64 ((i.i:Nat):Int))]) (λi=>y.rl.length-i.i) (Wo.start _ _) wu wk λi=>?_
 simp only[aa,ab];have hi:=i.le;refine wA 4 I<|QA (QH I VY Z6)<|QA (Qe I Z6 .here (.skip .h1))<|QA (Qg I VJ)<|wD 3 I ?_
 refine QQ I (λhc2=>?_) λhc2=>?_
 ·have hlt:i.i<y.rl.length:=tD<|wi hc2
  have hem:=Qw hlt;refine wC 5 I<|JG we mixed tE<|QK (QH I VY Z6)<|QK (Qe I Z6 .here (.skip .h1))<|QK (QD I)<|QK (Q3 (n:=y.rt.n) i.i (λF h9=>h9.2.rt) rfl rfl VJ Vu O)<|QK (JA (n:=y.rt.n) ((i.i)*1) (λF h9=>h9.2.rt) O rfl Vu (XT (f:=λe:NQ=>e.1.v) (l:=y.rl) O))<|QK (QH I VY Z6)<|QK (Qe I Z6 .here (.skip .h1))<|QK (Qg I VJ)<|QK (QD I)<|QK (QD I)<|QR I (λ_ _ f k=>uw (q:=(el y.rl i.i).1.q) (n:=(el y.rl i.i).1.n) (cap:=(el y.rl i.i).1.cap) f k.1 (k.2.pl _ hem).1 (k.2.pl _ hem).2 (ht.tm _ hem).1 (λt htt=>tD<|(ht.tm _ hem).2.1 t htt) (tD<|(ht.tm _ hem).2.2) O O) λ_=>QK (XL I)<|Q7<|QC ?_
  refine QQ I (λhc2=>?_) λhc2=>?_
  ·have h57:fpB (ZX (el y.rl i.i).2) (y.rt.n:Int) 4 d g=false:=by simpa using hc2
   refine wA 6 I ?_
   repeat first|refine Q6 ?_|refine Qv ?_
   exact wg I I (congrArg ae (by unfold pT;rw[h38,i.hit hlt h57];rfl)) tL
  have h57:fpB (ZX (el y.rl i.i).2) (y.rt.n:Int) 4 d g=true:=by simpa using hc2
  refine QN<|Qj<|wE 3 I<|QA (Qu I I O)<|wB 2 I ?_
  exact Ql (i.next hlt h57) (by show y.rl.length-(i.i+1)<y.rl.length-i.i;omega) wv we tN
 have hge:y.rl.length<=i.i:=tD<|wj hc2
 refine Qx ?_
 repeat first|refine QY ?_|refine QO tH ?_
 refine QZ<|wE 7 I ?_
 exact wg I I (congrArg ae (by unfold pT;rw[h38,i.stop hge];rfl)) tL
def Xfb(tb:List Wl)(i:Nat):List UInt8:=if i=0 then[48]else(el tb (i-1)).e
def Xh9:Jp [48]=0/\Qz [48]=((0:Int):Rat):=tG
def Xhm(h:Jp (el tb i).e≠0):k6 n tb i=Jp (el tb i).e:=by
 unfold k6 Nb;rw[if_pos h,Zf h]
def Xhk(h0:Jp (el tb i).e=0)(h:Yw (Qz (el tb i).e) (Hd tb i)<=0):k6 n tb i=11:=by
 unfold k6 Nb Wc;rw[if_neg (by simpa using h0),if_pos (decide_eq_true h),Zf tF]
def Xhg(h0:Jp (el tb i).e=0)(h:¬Yw (Qz (el tb i).e) (Hd tb i)<=0):Nb (Hd tb i) (el tb i).e=0:=by
 unfold Nb Wc;rw[if_neg (by simpa using h0),if_neg (by rw[decide_eq_false h];decide)]
def Xhj(h0:Jp (el tb i).e=0)(h:¬Yw (Qz (el tb i).e) (Hd tb i)<=0)(h1:YZ n (el tb i).wl≠0):k6 n tb i=YZ n (el tb i).wl:=by
 unfold k6;rw[Xhg h0 h,Zn,Zf h1]
def Xhf(h0:Jp (el tb i).e=0)(h:¬Yw (Qz (el tb i).e) (Hd tb i)<=0)(h1:YZ n (el tb i).wl=0):k6 n tb i=YZ n (el tb i).ll:=by
 unfold k6;rw[Xhg h0 h,Zn,h1,Zn,QCD]
def Xf6(s:X7 (ar tb.length) (k6 n tb))(hl:¬tb.length>1000)(h:s.i<tb.length){e:Int}(he:k6 n tb s.i=e)(h0:e≠0):Dz n tb=e:=by
 unfold Dz;rw[if_neg hl];have h9:=s.hit (by rw[af];exact h) (by rw[ZG h,he];exact h0);rw[ZG h]at h9;rw[h9,he]
def Xgg(s:X7 (ar tb.length) (k6 n tb))(hl:¬tb.length>1000)(h:tb.length<=s.i):Dz n tb=0:=by
 unfold Dz;rw[if_neg hl];exact s.stop (by rw[af];exact h)
structure CfJ(n:Nat)(tb:List Wl) extends X7 (ar tb.length) (k6 n tb) where
 ok:Jp (Xfb tb i)=0/\Qz (Xfb tb i)=Hd tb i
def Xfa(tb:List Wl)(i:Nat):Xfb tb (i+1)=(el tb i).e:=by unfold Xfb;rw[if_neg O,Nat.add_sub_cancel]
theorem Xfn{n:Nat}{r:Sr}(hF:Fits F w)(hx:IF F r tb)(hc:QCR r tb):Qf prog 52 [.int .i64 (n:Int),r.v] w F (.int .i64 (Dz n tb)):=by
 have hxr:=hx.len;have hcn:=hc.n;refine QU.intro (G:=λF=>IF F r tb) func52 rfl tH rfl rfl hF (λF' hF'=>hx.le hF')<|wa<|wZ rfl<|QG<|wb rfl<|QA (Qg rfl EC)<|QA (QT rfl rfl rfl)<|QE<|QC ?_
 refine QQ I (λhc2=>?_) λhc2=>?_
 ·have h12:tb.length>1000:=tD<|wi hc2
  refine wA 6 I ?_;exact wg I I (congrArg (ah .i64) (by unfold Dz;rw[if_pos h12])) tL
 have h12:¬tb.length>1000:=tD<|wj hc2
 have hct:∀b∈tb,b.e.length<=1000000/\BS b.w b.wl/\BS b.l b.ll:=hc.t.resolve_left O;refine wC 14 I<|J9 (ι:=CfJ n tb) [(0,_),(1,_)] (λi=>[(5,tx (Xfb tb i.i)),(6,.int .i64 ((i.i:Nat):Int))]) (λi=>tb.length-i.i) (⟨X7.start _ _,Xh9⟩) wm wm λi=>?_
 simp only[aa,ab];have hi:=i.le;rw[af]at hi;refine wA 5 I<|QA (Qg I EC)<|wD 3 I ?_
 refine QQ I (λhc2=>?_) λhc2=>?_
 ·have hlt:i.i<tb.length:=tD<|wi hc2
  have hem:=Qw hlt;refine wC 9 I<|QA (Q3 (n:=r.n) i.i (λF hx=>hx.row) rfl rfl EC X8 O)<|QA (QH I Ec JF)<|QA (JA (n:=r.n) ((i.i)*3+0) (λF hx=>hx.row) O rfl JF (JN (f:=uI) (l:=tb) Cb O rfl))<|QI I (λ_ _ f k=>vN f (tD<|(hct _ hem).1)) λ_=>wD 9 I ?_
  refine QQ I (λhc2=>?_) λhc2=>?_
  ·have h26:=bne_iff_ne.1 hc2;refine wA 7 I ?_
   repeat first|refine Q6 ?_|refine Qv ?_
   exact wg I I (congrArg (ah .i64) (Xf6 i.toX7 h12 hlt (Xhm h26) h26)) tL
  have h26:=bne_eq_false_iff_eq.1 hc2;refine wC 7 I<|QA (Q3 (n:=r.n) i.i (λF h9=>h9.1.row) rfl rfl EC X8 O)<|QA (QH I Ec JF)<|QA (JA (n:=r.n) ((i.i)*3+0) (λF h9=>h9.1.row) O rfl JF (JN (f:=uI) (l:=tb) Cb O rfl))<|wW I<|QI I (λ_ _ f k=>QCs f h26 i.ok.1) λ_=>wD 3 I ?_
  refine QQ I (λhc2=>?_) λhc2=>?_
  ·have h35:=wi hc2;rw[i.ok.2]at h35;refine wA 6 I ?_
   repeat first|refine Q6 ?_|refine Qv ?_
   exact wg I I (congrArg (ah .i64) (Xf6 i.toX7 h12 hlt (Xhk h26 h35) tF)) tL
  have h35:=wj hc2;rw[i.ok.2]at h35;refine wC 8 I<|QA (Q3 (n:=r.n) i.i (λF h9=>h9.1.1.row) rfl rfl EC X8 O)<|QA (QH I Ub J0)<|QA (JA (n:=r.n) ((i.i)*3+1) (λF h9=>h9.1.1.row) O rfl J0 (JN (f:=uI) (l:=tb) Cb O rfl))<|QI I (λ_ _ f k=>gW f (k.1.1.bx _ hem).1 (hct _ hem).2.1) λ_=>wD 9 I ?_
  refine QQ I (λhc2=>?_) λhc2=>?_
  ·have h44:=bne_iff_ne.1 hc2;refine wA 7 I ?_
   repeat first|refine Q6 ?_|refine Qv ?_
   exact wg I I (congrArg (ah .i64) (Xf6 i.toX7 h12 hlt (Xhj h26 h35 h44) h44)) tL
  have h44:=bne_eq_false_iff_eq.1 hc2;refine wC 8 I<|QA (Q3 (n:=r.n) i.i (λF h9=>h9.1.1.1.row) rfl rfl EC X8 O)<|QA (QH I N6 J0)<|QA (JA (n:=r.n) ((i.i)*3+2) (λF h9=>h9.1.1.1.row) O rfl J0 (JN (f:=uI) (l:=tb) Cb O rfl))<|QI I (λ_ _ f k=>gW f (k.1.1.1.bx _ hem).2 (hct _ hem).2.2) λ_=>wD 9 I ?_
  refine QQ I (λhc2=>?_) λhc2=>?_
  ·have h54:=bne_iff_ne.1 hc2;refine wA 7 I ?_
   repeat first|refine Q6 ?_|refine Qv ?_
   exact wg I I (congrArg (ah .i64) (Xf6 i.toX7 h12 hlt (Xhf h26 h35 h44) h54)) tL
  have h54:=bne_eq_false_iff_eq.1 hc2;refine wC 5 I<|QA (Q3 (n:=r.n) i.i (λF h9=>h9.1.1.1.1.row) rfl rfl EC X8 O)<|QA (QH I Ec JF)<|QA (JA (n:=r.n) ((i.i)*3+0) (λF h9=>h9.1.1.1.1.row) O rfl JF (JN (f:=uI) (l:=tb) Cb O rfl))<|wB 2 I<|Qj<|wE 3 I<|QA (Qu I I O)<|wB 2 I ?_
  exact Ql (⟨i.toX7.next (by rw[af];exact hlt) (by rw[ZG hlt,Xhf h26 h35 h44];exact h54),by show Jp (Xfb tb (i.i+1))=0/\Qz (Xfb tb (i.i+1))=Hd tb (i.i+1);rw[Xfa,RU];exact⟨h26,rfl⟩⟩) (by show tb.length-(i.i+1)<tb.length-i.i;omega) ⟨rfl,rfl,(congrArg (λs=>some (tx s)) (Xfa tb i.i).symm),rfl,trivial⟩ we λF h=>h.1.1.1.1
 have hge:tb.length<=i.i:=tD<|wj hc2
 refine Qx ?_
 repeat first|refine QY ?_|refine QO tH ?_
 refine QZ<|wE 7 I ?_
 exact wg I I (congrArg (ah .i64) (Xgg i.toX7 h12 hge)) tL
def QDg{l:List (List UInt8)}(h:i<l.length)(k:decide ((el l i).length>14)=true):l.any (λs=>decide (s.length>14))=true:=List.any_eq_true.2 ⟨_,Qw h,k⟩
structure LgJ(l:List (List UInt8)) where
 i:Nat
 le:i<=l.length
 no:∀j,j<i->¬(el l j).length>14
theorem LgJ.stop{l:List (List UInt8)}(s:LgJ l)(h:l.length<=s.i):l.any (λs=>decide (s.length>14))=false:=by
 cases e:l.any (λs=>decide (s.length>14))with
 |false=>rfl
 |true =>
  obtain⟨x,hx,k⟩:=List.any_eq_true.1 e;obtain⟨j,hj,rfl⟩:=aq hx;exact absurd (wi k) (by have:=s.no j O;rwa [Jb hj]at this)
theorem QGb{q:Option Addr}{c:Nat}{l:List (List UInt8)}(hF:Fits F w)(hR:Qy F q n 1 (l.map tx))(hn:l.length=n)(hb:n<=1000000000):Qf prog 15 [.slice q n c] w F (.bool (l.any λs=>decide (s.length>14))):=by
 refine QU.intro (G:=λF=>Qy F q n 1 (l.map tx)) func15 rfl tH rfl rfl hF (λF' hF'=>hR.le hF')<|wa<|wZ rfl<|QG<|wa<|wZ rfl<|QV<|J9 (ι:=LgJ l) [(0,_)] (λi=>[(3,.int .i64 ((i.i:Nat):Int))]) (λi=>l.length-i.i) (⟨0,ao _,λj h=>absurd h (aR _)⟩) wk wk λi=>?_
 simp only[aa,ab];have hi:=i.le;refine wA 5 I<|QA (Qg I YG)<|wD 3 I ?_
 refine QQ I (λhc=>?_) λhc=>?_
 ·have hlt:i.i<l.length:=tD<|wi hc
  refine wC 8 I<|QA (Q3 (n:=n) i.i tM rfl rfl YG JF O)<|QA (JA (n:=n) ((i.i)*1) tM O rfl JF (XT (f:=tx) (l:=l) O))<|QA (Xc I Bw)<|wD 3 I ?_
  refine QQ I (λhc=>?_) λhc=>?_
  ·have h15:(el l i.i).length>14:=tD<|wi hc
   refine wA 6 I ?_
   repeat first|refine Q6 ?_|refine Qv ?_
   exact wg I I (congrArg ae (QDg hlt (decide_eq_true h15))) tL
  have h15:¬(el l i.i).length>14:=tD<|wj hc
  refine QN<|Qj<|wE 3 I<|QA (Qu I I O)<|wB 2 I ?_
  exact Ql (⟨i.i+1,hlt,λj hj=>by rcases Nat.lt_succ_iff_lt_or_eq.1 hj with h | rfl;exact i.no j h;exact h15⟩) (by show l.length-(i.i+1)<l.length-i.i;omega) wm we tM
 have hge:l.length<=i.i:=tD<|wj hc
 refine Qx ?_
 repeat first|refine QY ?_|refine QO tH ?_
 refine QZ<|wE 7 I ?_
 exact wg I I (congrArg ae (i.stop hge)) tL
def Xhc{α:Type}[Inhabited α]{l:List α}{n i:Nat}(h:i<(l.take n).length):el (l.take n) i=el l i:=by
 have h2:i<l.length:=by rw[ax]at h;omega
 rw[Jb h,Jb h2,List.getElem_take]
def Ff(y:Xz)(n:Int):Bool:=!(shS y)||((y.e==0)&&!(pT y n 3 6))
theorem yQ{n:Int}(h:Ff y n=false):shS y=true/\(y.e=0->pT y n 3 6=true):=by
 unfold Ff at h;simp only[ai,au,aH,beq_eq_false_iff_ne]at h;exact⟨h.1,λe=>h.2.resolve_left λk=>k e⟩
def Xf7(y:Xz)(tb:List Wl):Int:=if y.e≠0 then y.e else Dz y.rt.n tb
structure ATk where
 fr:List UInt8
 te:List UInt8
 bx:Sr
 bl:List (List UInt8×List UInt8)
 wh:Sr
 wl:List (List UInt8×List UInt8)
 o:Int
 b:Int
@[reducible] def ATk.v (x:ATk):Value:=.agg #[tx x.fr,tx x.te,.slice x.bx.q x.bx.n x.bx.cap,.slice x.wh.q x.wh.n x.wh.cap,.int .i64 x.o,.int .i64 x.b]
def cT(l:List (List UInt8)):Bool:=l.any λs=>decide (s.length>14)
def stX(b:Wl):Bool:=!(cT [b.e]||!(Ts b.wl)||!(Ts b.ll))
def stN(n:Nat):Bool:=(decide ((n:Int)>4)&&decide ((n:Int)<=1000))||decide ((n:Int)>1005)
def Xdo(tb:List Wl):Bool:=!(stN tb.length)&&(tb.take 4).all stX
def Xhi{b:Wl}(h:stX b=true)(hw:b.wl.length=b.w.n)(hl:b.ll.length=b.l.n):b.e.length<=14/\BS b.w b.wl/\BS b.l b.ll:=by
 simp only[stX,aJ,ai,au]at h;obtain⟨⟨h1,h2⟩,h3⟩:=h;have h4:=AY h2;have h5:=AY h3;refine⟨by unfold cT at h1;simp at h1;omega,⟨O,λs hs=>tD<|h4.2 s hs⟩,⟨O,λs hs=>tD<|h5.2 s hs⟩⟩
def Xh2{r:Sr}(hn:tb.length=r.n)(hx:∀b∈tb,b.wl.length=b.w.n/\b.ll.length=b.l.n)(h:Xdo tb=true):QCR r tb:=by
 unfold Xdo at h;rw[aA,ay]at h;have h1:stN tb.length=false:=by simpa using h.1
 unfold stN at h1;simp only[ai,aH,decide_eq_false_iff_not]at h1;refine⟨O,?_⟩;rcases Nat.lt_or_ge 1000 r.n with g | g
 ·exact .inl g
 right;intro b hb;rw[aj O]at h;have h2:=Xhi (h.2 b hb) (hx b hb).1 (hx b hb).2;exact⟨O,h2.2⟩
theorem QFF{n:Int}(hF:Fits F w)(hGl:JE F)(hy:X4 F y)(hl:vG y):Qf prog 23 [y.v,.int .i64 n] w F (.bool (Ff y n)):=by
 refine QU.intro (G:=λF=>JE F/\X4 F y) func23 rfl tH rfl rfl hF (λF' hF'=>⟨hGl.le hF',hy.le hF'⟩)<|wa<|Qp rfl (vs:=[_,_,_]) rfl λb2=>wZ rfl<|wa<|QA (wO I J6 .here)<|QI rfl (λ_ _ f k=>uk (y:=y) f k.2 hl) λ_=>QA (XL rfl)<|wW rfl ?_
 refine Qn (t:=8) rfl (λhb8=>?_) λhb8=>?_
 ·refine wB 4 I<|Jn I I<|Jn I I<|Jn I I<|Jn I I<|wD 6 I ?_
  exact wg I I (congrArg ae (by unfold Ff;rw[hb8];rfl)) tL
 have ht:GJ y:=hl.ts (by simpa using hb8);refine QL I I<|QA (wO I J6 .here)<|QL I I<|QI I (λ_ _ f k=>QA3 (y:=y) f k.1.1 k.1.2 ht) λ_=>wB 4 I ?_
 refine Qn (t:=12) rfl (λhb12=>?_) λhb12=>?_
 ·refine QL I I<|QA (wO I J6 .here)<|wB 3 I<|QI I (λ_ _ f k=>QGM (y:=y) f k.1.1.1 k.1.1.2 hl tF) λ_=>QL I I<|QA (XL I)<|wD 7 I ?_
  exact wg I I (congrArg ae (by unfold Ff;rw[hb8,hb12];rfl)) tL
 refine wD 11 I ?_;exact wg I I (congrArg ae (by unfold Ff;rw[hb8,hb12];rfl)) tL
theorem Xgn{r:Sr}(hF:Fits F w)(hGl:JE F)(hy:X4 F y)(ht:GJ y)(hx:IF F r tb)(hc:QCR r tb):Qf prog 64 [y.v,r.v] w F (.int .i64 (Xf7 y tb)):=by
 refine QU.intro (G:=λF=>JE F/\X4 F y/\IF F r tb) func64 rfl tH rfl rfl hF (λF' hF'=>⟨hGl.le hF',hy.le hF',hx.le hF'⟩)<|wa<|Qp rfl (vs:=[_,_,_]) rfl λb2=>wZ rfl<|QG<|wa<|QA (wO I J6 .here)<|QI rfl (λ_ _ f k=>QA3 (y:=y) f k.1 k.2.1 ht) λ_=>wZ rfl<|wb rfl<|QA (QT rfl rfl rfl)<|QE<|QC ?_
 refine QQ I (λhc2=>?_) λhc2=>?_
 ·have h9:=bne_iff_ne.1 hc2;refine wA 7 I ?_;exact wg I I (congrArg (ah .i64) (by unfold Xf7;rw[if_pos h9])) tL
 have h9:=bne_eq_false_iff_eq.1 hc2;refine wC 4 I<|QA (QH I VY Z6)<|QA (Qe I Z6 .here (.skip .h1))<|QA (Qg I VJ)<|wW I<|QI I (λ_ _ f k=>Xfn (n:=y.rt.n) f k.1.2.2 hc) λ_=>wD 4 I ?_
 exact wg I I (congrArg (ah .i64) (by unfold Xf7;rw[if_neg (by rw[h9];decide)])) tL
theorem Xgm{r:Sr}(hF:Fits F w)(hx:IF F r tb)(hn:r.n<=9223372036854775807)(hz:∀b∈tb,b.w.n<=9223372036854775807/\b.l.n<=9223372036854775807):Qf prog 46 [r.v] w F (.bool (Xdo tb)):=by
 have hxr:=hx.len;have hem4:∀ {i:Nat},i<(tb.take 4).length->i<tb.length:=λh=>by rw[ax]at h;omega
 refine QU.intro (G:=λF=>IF F r tb) func46 rfl tH rfl rfl hF (λF' hF'=>hx.le hF')<|wa<|wZ rfl<|QG ?_
 refine ZZ [(0,_)] [(16,.bool (stN tb.length))] wk ?_ ?_
 ·refine wA 2 I<|QA (Qg I EC)<|wB 2 I ?_
  refine Qn (t:=7) rfl (λhb7=>?_) λhb7=>?_
  ·refine wB 3 I<|QA (Qg I EC)<|wB 4 I ?_
   refine Qn (t:=12) rfl (λhb12=>?_) λhb12=>?_
   ·refine wB 5 I ?_;exact JY ⟨rfl,(congrArg (λb=>some (ae b)) (by unfold stN;rw[hxr,hb7,hb12];rfl)),trivial⟩ we tM
   refine wB 3 I<|QA (Qg I EC)<|wB 4 I ?_
   exact JY ⟨rfl,(congrArg (λb=>some (ae b)) (by unfold stN;rw[hxr,hb7,hb12];rfl)),trivial⟩ we tM
  refine wB 8 I<|QA (Qg I EC)<|wB 4 I ?_
  exact JY ⟨rfl,(congrArg (λb=>some (ae b)) (by unfold stN;rw[hxr,hb7];rfl)),trivial⟩ we tM
 simp only[aa,ab];refine QQ I (λhc2=>?_) λhc2=>?_
 ·have h16:stN tb.length=true:=hc2;refine wA 6 I ?_;exact wg I I (congrArg ae (by unfold Xdo;rw[h16];rfl)) tL
 have h16:stN tb.length=false:=hc2;refine wC 9 I<|J9 (ι:=Wo (tb.take 4) stX) [(0,_)] (λi=>[(3,.int .i64 ((i.i:Nat):Int))]) (λi=>(tb.take 4).length-i.i) (Wo.start _ _) wk wk λi=>?_
 simp only[aa,ab];have hi:=i.le;have hi4:i.i<=tb.length:=by rw[ax]at hi;omega
 refine QG ?_;refine ZZ [(0,_),(3,_)] [(24,.bool (decide (i.i<(tb.take 4).length)))] wm ?_ ?_
 ·refine wA 3 I<|QA (Qg I EC)<|wB 2 I ?_
  refine Qn (t:=21) rfl (λhb21=>?_) λhb21=>?_
  ·refine wB 6 I ?_;exact JY ⟨rfl,rfl,(congrArg (λb=>some (ae b)) (by rw[ax];have hb:=wi hb21;exact decide_eq_decide.2 O)),trivial⟩ we tM
  refine wB 4 I ?_;exact JY ⟨rfl,rfl,(congrArg (λb=>some (ae b)) (by rw[ax];have hb:=wj hb21;rw[decide_eq_false O])),trivial⟩ we tM
 simp only[aa,ab];refine QQ I (λhc2=>?_) λhc2=>?_
 ·have hlt4:i.i<(tb.take 4).length:=wi hc2;have hlt:i.i<tb.length:=hem4 hlt4;have hem:=Qw hlt;have he4:el (tb.take 4) i.i=el tb i.i:=Xhc hlt4;refine wC 4 I ?_;refine ZZ [(0,_),(3,_)] [(51,.bool (!(stX (el tb i.i))))] wm ?_ ?_
  ·refine wA 3 I<|QA (Q3 (n:=r.n) i.i (λF hx=>hx.row) rfl rfl EC X8 O)<|QA (QH I Ec JF)<|QA (JA (n:=r.n) ((i.i)*3+0) (λF hx=>hx.row) O rfl JF (JN (f:=uI) (l:=tb) Cb O rfl))<|Qb I (Q5 YG) JF Im I I λb32=>QI I (λ_ _ f k=>QGb (l:=[(el tb i.i).e]) f (Qy.of (n:=1) (sz:=1) (cs:=[(el tb i.i).e].map tx) k.2 I) rfl tF) λ_=>wW I ?_
   refine Qn (t:=34) rfl (λhb34=>?_) λhb34=>?_
   ·refine wB 18 I ?_;exact JY ⟨rfl,rfl,(congrArg (λb=>some (ae b)) (by unfold stX;rw[ag,show cT [(el tb i.i).e]=true from hb34];rfl)),trivial⟩ we λ_ h=>h.1.1
   refine wB 5 I<|QA (Q3 (n:=r.n) i.i (λF h9=>h9.1.1.row) rfl rfl EC X8 O)<|QL I I<|QA (QH I Ub J0)<|QL I I<|QA (JA (n:=r.n) ((i.i)*3+1) (λF h9=>h9.1.1.row) O rfl J0 (JN (f:=uI) (l:=tb) Cb O rfl))<|QL I I<|QI I (λ_ _ f k=>um f (k.1.1.bx _ hem).1 (hz _ hem).1) λ_=>QL I I<|QA (XL I)<|wB 2 I ?_
   refine Qn (t:=43) rfl (λhb43=>?_) λhb43=>?_
   ·refine wB 9 I ?_;exact JY ⟨rfl,rfl,(congrArg (λb=>some (ae b)) (by unfold stX;rw[ag,show cT [(el tb i.i).e]=false from hb34,hb43];rfl)),trivial⟩ we λ_ h=>h.1.1.1
   refine wB 5 I<|QA (Q3 (n:=r.n) i.i (λF h9=>h9.1.1.1.row) rfl rfl EC X8 O)<|QL I I<|QA (QH I N6 J0)<|QL I I<|QA (JA (n:=r.n) ((i.i)*3+2) (λF h9=>h9.1.1.1.row) O rfl J0 (JN (f:=uI) (l:=tb) Cb O rfl))<|QL I I<|QI I (λ_ _ f k=>um f (k.1.1.1.bx _ hem).2 (hz _ hem).2) λ_=>QL I I<|QA (XL I)<|wB 2 I ?_
   exact JY ⟨rfl,rfl,(congrArg (λb=>some (ae b)) (by unfold stX;rw[ag,show cT [(el tb i.i).e]=false from hb34,hb43];rfl)),trivial⟩ we λ_ h=>h.1.1.1.1
  simp only[aa,ab];refine QQ I (λhc2=>?_) λhc2=>?_
  ·have h51:stX (el (tb.take 4) i.i)=false:=by rw[he4];simpa using hc2
   refine wA 6 I ?_
   repeat first|refine Q6 ?_|refine Qv ?_
   exact wg I I (congrArg ae (by unfold Xdo;rw[h16,i.hit hlt4 h51];rfl)) tL
  have h51:stX (el (tb.take 4) i.i)=true:=by rw[he4];simpa using hc2
  refine QN<|Qj<|wE 3 I<|QA (Qu I I O)<|wB 2 I ?_
  exact Ql (i.next hlt4 h51) (by show(tb.take 4).length-(i.i+1)<(tb.take 4).length-i.i;omega) wm we tM
 have hge4:(tb.take 4).length<=i.i:=tD<|wj hc2
 refine Qx ?_
 repeat first|refine QY ?_|refine QO tH ?_
 refine QZ<|wE 7 I ?_
 exact wg I I (congrArg ae (by unfold Xdo;rw[h16,i.stop hge4];rfl)) tL
section
open Go.RowKit Go.ChangeShapes Go.WideShapes Ig
section
variable{H:Type}{enc:TypeId×Value->H}{w:World}
def QGx(n:Nat):Prop:=n<=9223372036854775807
set_option maxRecDepth 100000 in
theorem QFd{m:Nat}{cs:List Value}{x:DataW H×List MemPlace}(h:aC enc prog w 0 (λ_=>true) true m 36 cs=some x):∃(r:Sr) (l:List (List UInt8×List UInt8)),cs=[.slice r.q r.n r.cap]/\Ks (Vx w) r l/\QGx r.n:=by
 obtain⟨q,n,cap,l,h1,h2,h3,h4,_,_⟩:=Pe (f:=NU) (Q:=λ_=>True) underlying36 (show prog.cellsOf 40=2 by kernel_rfl) tF (λ_=>rfl) (λn cs x h=>by obtain⟨y,hy⟩:=xF n cs x h;exact⟨y,hy,trivial⟩) h;exact⟨⟨q,n,cap⟩,l,h1,⟨h2,h3⟩,h4⟩
theorem QAc(n:Nat)(cs:List Value)(x:DataW H×List MemPlace)(h:aC enc prog w 0 (λ_=>true) true n 9 cs=some x):∃y:List UInt8,cs=[tx y]/\y.length<=9223372036854775807:=by
 obtain⟨s,rfl,_,hs⟩:=DataW.trod_string underlying9 h;refine⟨s.data.toList,by simp[tx],?_⟩;unfold maxLen at hs;have:s.data.toList.length=s.size:=tJ;omega
set_option maxRecDepth 100000 in
theorem QBJ(m:Nat)(cs:List Value)(x:DataW H×List MemPlace)(h:aC enc prog w 0 (λ_=>true) true m 76 cs=some x):
  ∃a:NQ,cs=[a.1.v]/\(Qy (Vx w) a.1.q a.1.n 2 (a.2.flatMap VM)/\Yy (Vx w) a.2)/\a.2.length=a.1.n/\QGx a.1.n/\∀t∈a.2,QGw t:=by
 obtain⟨q,n,cap,l,h1,h2,h3,h4,h5,h6⟩:=Pe (cs:=cs) (f:=VM) (Q:=λy=>J8 (Vx w) y.r y.k/\QGw y) underlying76 (show prog.cellsOf 108=2 by kernel_rfl) tF (λ_=>rfl) ua h;exact⟨(⟨q,n,cap⟩,l),h1,⟨h2,λt ht=>(h5 t ht).1⟩,h3,h4,λt ht=>(h5 t ht).2⟩
def QFP(l:List NQ):(l.flatMap λa=>[a.1.v])=l.map λe=>e.1.v:=by
 induction l with
 |nil=>rfl
 |cons a l ih=>rw[List.flatMap_cons,ih];rfl
set_option maxRecDepth 100000 in
theorem QEz{b:Nat}{v:Value}{d:DataW H}{p:List MemPlace}(hv:aS prog w .any b 38 v)(h:aU enc prog w 0 (λ_=>true) true 38 v d p):∃y:Xz,v=y.v/\X4 (Vx w) y/\vG y:=by
 obtain⟨v0,v1,v2,yz0,y1,y2,n,rfl,_,_,h0,h1,h2⟩:=Joins.open_agg3 underlying38 tE tE hv h;obtain⟨q0,n0,c0,nl,e0,a1,a2,a3,a4,a5⟩:=Pe (cs:=[v0]) (f:=λy=>[tx y]) (Q:=λy=>y.length<=9223372036854775807) underlying34 (show prog.cellsOf 9=1 by kernel_rfl) tF (λ_=>rfl) QAc h0;obtain⟨q1,n1,c1,rl,e1,b1,b2,b3,b4,b5⟩:=Pe (cs:=[v1]) (f:=λa:NQ=>[a.1.v]) (Q:=λa=>(Qy (Vx w) a.1.q a.1.n 2 (a.2.flatMap VM)/\Yy (Vx w) a.2)/\a.2.length=a.1.n/\QGx a.1.n/\∀t∈a.2,QGw t) underlying35 (show prog.cellsOf 76=1 by kernel_rfl) tF (λ_=>rfl) QBJ h1;obtain⟨r2,sl,e2,s1,s2⟩:=QFd h2;obtain rfl:=(aE e0).1;obtain rfl:=(aE e1).1;obtain rfl:=(aE e2).1;rw[QGf]at a1;rw[QFP]at b1;exact⟨⟨⟨q0,n0,c0⟩,nl,⟨q1,n1,c1⟩,rl,r2,sl⟩,rfl,⟨a1,b1,λe he=>(b4 e he).1,s1.row,a2,b2,s1.len⟩,⟨a3,a5,a4,b3,s2,λe he=>⟨(b4 e he).2.1,(b4 e he).2.2.1,λt ht=>((b4 e he).1.2 t ht).2.1⟩⟩⟩
theorem trod_struct3{t:TypeId}{f0 f1 f2:Field}{fuel:Nat}{cs:List Value}{x:DataW H×List MemPlace}(ht:prog.underlying t=some (.struct #[f0,f1,f2]))(h:aC enc prog w 0 (λ_=>true) true fuel t cs=some x):
  ∃yz0 y1 y2 n,cs.length=prog.cellsOf t/\aC enc prog w 0 (λ_=>true) true n f0.type ((cs.drop f0.offset).take (prog.cellsOf f0.type))=some yz0/\aC enc prog w 0 (λ_=>true) true n f1.type ((cs.drop f1.offset).take (prog.cellsOf f1.type))=some y1 /\
   aC enc prog w 0 (λ_=>true) true n f2.type ((cs.drop f2.offset).take (prog.cellsOf f2.type))=some y2:=by
 obtain⟨xs,n,_,rfl,hl,hlen,hf⟩:=DataW.trod_struct ht h
 match xs,hlen with
 |[yz0,y1,y2],_=>exact⟨yz0,y1,y2,n,hl,by simpa using hf 0 f0 rfl,by simpa using hf 1 f1 rfl,by simpa using hf 2 f2 rfl⟩
set_option maxRecDepth 100000 in
theorem Xgz(m:Nat)(cs:List Value)(x:DataW H×List MemPlace)(h:aC enc prog w 0 (λ_=>true) true m 123 cs=some x):∃y:Wl,cs=uI y/\(Ks (Vx w) y.w y.wl/\Ks (Vx w) y.l y.ll)/\QGx y.w.n/\QGx y.l.n:=by
 obtain⟨yz0,y1,y2,n,hl,h0,h1,h2⟩:=trod_struct3 underlying123 h;have c3:prog.cellsOf 123=3:=tE;have c1:prog.cellsOf 22=1:=tE;have c2:prog.cellsOf 36=1:=tE;rw[c3]at hl
 match cs,hl with
 |[a,b,c],_ =>
  dsimp only at h0 h1 h2;rw[c1]at h0;rw[c2]at h1 h2;obtain⟨e,rfl⟩:=LG jD (v:=a) h0;obtain⟨r1,l1,e1,p1,q1⟩:=QFd (cs:=[b]) h1;obtain⟨r2,l2,e2,p2,q2⟩:=QFd (cs:=[c]) h2;obtain rfl:=(aE e1).1;obtain rfl:=(aE e2).1;exact⟨⟨e,r1,l1,r2,l2⟩,rfl,⟨p1,p2⟩,q1,q2⟩
set_option maxRecDepth 100000 in
theorem Xgk{b:Nat}{v:Value}{d:DataW H}{p:List MemPlace}(hv:aS prog w .any b 77 v)(h:aU enc prog w 0 (λ_=>true) true 77 v d p):∃(r:Sr) (tb:List Wl),v=r.v/\IF (Vx w) r tb/\QGx r.n/\∀b∈tb,QGx b.w.n/\QGx b.l.n:=by
 obtain⟨q,n,cap,l,h1,h2,h3,h4,h5⟩:=QDZ (f:=uI) (Q:=λy=>(Ks (Vx w) y.w y.wl/\Ks (Vx w) y.l y.ll)/\QGx y.w.n/\QGx y.l.n) underlying77 (show prog.cellsOf 123=3 by kernel_rfl) tF Cb Xgz hv h;exact⟨⟨q,n,cap⟩,l,h1,⟨h2,h3,λb hb=>(h5 b hb).1⟩,h4,λb hb=>(h5 b hb).2⟩
end
end
def eqI8(a:Int):It .eql (.int .i64 a) (.int .i64 a)=some (.bool true):=by simp[It]
theorem Xlq{s:List UInt8}(hF:Fits F w)(h:Jp s=0):Qf prog 19 [tx s] w F (.int .i64 (Dm (Qz s).num)):=by
 have h1:=uj (x:=Qz s) hF;rw[<-(XM h).1]at h1;exact h1
structure WnJ(xs:List Rat) where
 i:Nat
 v:Value
 ob:List (Nat×Obj)
 le:i<=xs.length
 hr:Q8 22 1 v i (((xs.take i).map JP).map tx) ob
def WnJ.next{xs:List Rat}(s:WnJ xs)(h:s.i<xs.length){v:Value}{ob:List (Nat×Obj)}{x:Rat}(hx:x=el xs s.i)(hr:Q8 22 1 v (s.i+1) (((xs.take s.i).map JP).map tx++[tx (JP x)]) ob):WnJ xs:=⟨s.i+1,v,ob,h,by rw[XE h,aM,aM,<-hx];exact hr⟩
def atT:List Wl->Rat->Option (List (List UInt8×List UInt8))
 |[],_=>none
 |b::tb,t=>if Yw (Qz b.e) t=0 then some b.ll else if Yw (Qz b.e) t>0 then some b.wl else atT tb t
def atE(y:Xz)(tb:List Wl)(t:List UInt8):Int:=Qs [Qs [y.e,Dz y.nm.n tb],Jp t]
def atV(y:Xz)(tb:List Wl)(t:Rat):Option (List (List UInt8×List UInt8)):=if Dm t.num<0 then none else if Dm t.num=0 then some y.sl else atT tb t
def atR(e:Int)(o:Option (List (List UInt8×List UInt8))):List (List UInt8×List UInt8)×Int:=if e≠0 then([],e)else match o with
 |none=>([],3)
 |some l=>(l,0)
def Xl8{e:Int}{o:Option (List (List UInt8×List UInt8))}(h:e≠0):atR e o=([],e):=by unfold atR;rw[if_pos h]
structure AtI(tb:List Wl)(t:Rat) where
 i:Nat
 le:i<=tb.length
 h:atT tb t=atT (tb.drop i) t
def Xk9{t:Rat}(h:i<tb.length):atT (tb.drop i) t=if Yw (Qz (el tb i).e) t=0 then some (el tb i).ll else if Yw (Qz (el tb i).e) t>0 then some (el tb i).wl else atT (tb.drop (i+1)) t:=by rw[Bp h];rfl
def Ks.nil(F:Gs)(c:Nat):Ks F ⟨none,0,c⟩ []:=⟨Qy.nil F none 2,rfl⟩
def Xl6(l:List (List UInt8×List UInt8)):∀v∈l.flatMap NU,v.oneCell'=true:=λv hv=>by
 obtain⟨s,_,h⟩:=List.mem_flatMap.1 hv;simp only[NU,aN,aL,or_false]at h;rcases h with rfl | rfl<;>rfl
theorem Xk5{r:Sr}(hF:Fits F w)(hx:Ks F r l)(hn:r.n<=1000000):QU prog 167 [r.v] w F (λ(c:Sr)=>c.v) (λc F=>Ks F c l):=by
 obtain⟨q,n,c⟩:=r;dsimp only[Sr.v];have hl:=hx.len;dsimp only at hl hn;refine QU.intro (G:=λF=>Ks F ⟨q,n,c⟩ l) func167 rfl tH rfl rfl hF (λF' hF'=>hx.le hF')<|wa<|wZ rfl<|QG<|wb rfl<|QA (gj rfl rfl XF)<|QE<|QC ?_
 refine QQ I (λhc2=>?_) λhc2=>?_
 ·obtain rfl:q=none:=by
   cases q with
   |none=>rfl
   |some a=>cases hc2
  have h0:n=0:=hx.row.cM I;obtain rfl:l=[]:=List.length_eq_zero_iff.1 O;refine wA 6 I ?_;exact QP ((⟨none,0,0⟩:Sr)) I (wT I) (rfl) λF hR=>Ks.nil F 0
 obtain⟨a,rfl⟩:∃a,q=some a:=by
  cases q with
  |none=>cases hc2
  |some a=>exact⟨a,rfl⟩
 refine wC 4 I<|Gf (Q5 XF) Jd λb5=>wW I<|Z4 (bs1:=[]) (ob:=[(b5,.cells ([]++[]:List Value).toArray 40 (0,0))]) (n:=0) (k:=n) (sz:=2) (news:=l.flatMap NU) rfl rfl XF Jd Xa I QAH (.some rfl rfl (aD _) tF) (Src.QEk (λF hR=>hR.row) (by rw[Dq (f:=NU) K1 l,hl])) O O (Xl6 l) λv7 ob7 hr7=>?_
 rw[aF,ab]at hr7;obtain⟨⟨rq,rn,rc⟩,hv2,hrn,hrc,hfix⟩:=Q8.fix (w0:=w) (F0:=F) (bs1:=[]) (G:=_) hr7;dsimp only at hrn hrc hfix;subst hrn;refine Zj hfix ?_;rw[hv2];dsimp only[Sr.v];refine wD 4 I ?_;exact QP ((⟨rq,rn,rc⟩:Sr)) I (wT I) (rfl) λF ⟨hR,hrow⟩=>⟨hrow,hl⟩
theorem Xm6{r:Sr}{t:List UInt8}(hF:Fits F w)(hGl:JE F)(hy:X4 F y)(ht:GJ y)(hx:IF F r tb)(hc:QCR r tb)(htl:t.length<=1000000):QU prog 73 [y.v,r.v,tx t] w F (λ(c:Sr)=>.tuple #[c.v,.int .i64 (atR (atE y tb t) (atV y tb (Qz t))).2]) (λc F=>Ks F c (atR (atE y tb t) (atV y tb (Qz t))).1):=by
 have hxr:=hx.len;have hcn:=hc.n;refine QU.intro (G:=λF=>JE F/\X4 F y/\IF F r tb) func73 rfl tH rfl rfl hF (λF' hF'=>⟨hGl.le hF',hy.le hF',hx.le hF'⟩)<|wa<|Qp rfl (vs:=[_,_,_]) rfl λb3=>wX rfl<|wZ rfl<|QG<|wa<|QA (wO I J6 .here)<|wW rfl<|QI rfl (λ_ _ f k=>Xg0 (y:=y) f k.1 k.2.1 ht k.2.2 hc) λ_=>wW rfl<|QI rfl (λ_ _ f k=>Eo f k.1.1 htl) λ_=>Qb rfl (Q5 ZM) YS Ht rfl rfl λb18=>QI rfl (λ_ _ f k=>YV f (Qy.of (cs:=List.map Jo [_,_]) k.2 rfl) tF) λ_=>wZ rfl<|wb rfl<|QA (QT rfl rfl rfl) ?_
 refine QE<|QC ?_
 refine QQ I (λhc2=>?_) λhc2=>?_
 ·have h21:atE y tb t≠0:=bne_iff_ne.1 hc2;refine wA 8 I ?_;exact Je ((⟨none,0,0⟩:Sr)) I (wU I I) (by rw[Xl8 h21]<;>rfl) λF h9=>by rw[Xl8 h21];exact Ks.nil F 0
 have h21:atE y tb t=0:=bne_eq_false_iff_eq.1 hc2;have hct:Jp t=0:=Q9 h21 _ (.tail _ (.head _));have hfz:=Q9 h21 (Qs [y.e,Dz y.nm.n tb]) (.head _);have hto:=gA (Q9 hfz (Dz y.nm.n tb) (.tail _ (.head _)));have hct2:∀b∈tb,b.e.length<=1000000/\BS b.w b.wl/\BS b.l b.ll:=hc.t.resolve_left (tD hto.len);refine wC 5 I<|QI I (λ_ _ f k=>Ki f k.1.1.1.1.1 (XM hct).1 O) λc24=>Qc Jw λb9=>QW (vs:=[_,_,_,_]) I I I QS I .here .h4 wv<|wD 5 I<|QA (wP I QS .here)<|QI I (λ_ _ f k=>UW f k.2) λ_=>wD 3 I ?_
 refine QQ I (λhc2=>?_) λhc2=>?_
 ·have hO:(atV y tb (Qz t))=none:=by unfold atV;rw[if_pos (wi hc2)]
  refine wA 7 I ?_;exact Je ((⟨none,0,0⟩:Sr)) I (wU I I) (by rw[h21,hO]<;>rfl) λF h9=>by rw[h21,hO];exact Ks.nil F 0
 have h27:¬Dm (Qz t).num<0:=wj hc2;refine wC 5 I<|QA (wP I QS .here)<|QI I (λ_ _ f k=>UW f k.1.2) λ_=>wD 3 I ?_
 refine QQ I (λhc2=>?_) λhc2=>?_
 ·have hO:(atV y tb (Qz t))=some y.sl:=by unfold atV;rw[if_neg h27,if_pos (eq_of_beq hc2)]
  refine wa<|QA (QH I YM J0)<|QA (Qe I J0 .u1 (.skip (.skip .h1)))<|QI I (λ_ _ f k=>Xk5 f ⟨k.1.1.1.1.1.1.1.2.1.st,k.1.1.1.1.1.1.1.2.1.P0⟩ ht.sn) λc33=>wD 5 I ?_
  exact Je (c33) rfl (wU I I) (by rw[h21,hO]<;>rfl) λF h9=>by rw[h21,hO];exact h9.2
 have hO:(atV y tb (Qz t))=atT tb (Qz t):=by unfold atV;rw[if_neg h27,if_neg (by simpa using hc2)]
 refine wC 6 I<|QA (Qg I EC)<|wD 4 I<|J9 (ι:=AtI tb (Qz t)) [(9,_),(34,_),(35,_)] (λi=>[(36,.int .i64 ((i.i:Nat):Int))]) (λi=>tb.length-i.i) (⟨0,ao _,rfl⟩) wu wk λi=>?_
 simp only[aa,ab];have hi:=i.le;refine wA 6 I ?_;refine QQ I (λhc2=>?_) λhc2=>?_
 ·have hlt:i.i<tb.length:=tD<|wi hc2
  have hem:=Qw hlt;refine wC 6 I<|QA (Q3 (n:=r.n) i.i (λF h9=>h9.1.1.1.1.1.1.1.2.2.row) rfl rfl EC X8 O)<|QA (JZ (n:=r.n) (vs:=[tx (el tb i.i).e,.slice (el tb i.i).w.q (el tb i.i).w.n (el tb i.i).w.cap,.slice (el tb i.i).l.q (el tb i.i).l.n (el tb i.i).l.cap]) ((i.i)*3) (λF h9=>h9.1.1.1.1.1.1.1.2.2.row) O rfl X8 I λj v hv=>JN (f:=uI) (l:=tb) Cb O hv)<|Qc Wt λb11=>QW (vs:=[_,_,_]) I I I X8 I .here .h3 wu<|wY<|QG<|JG we mixed tE<|QK (QH I Ec JF)<|QK (Qe I JF .here .h1)<|QR I (λ_ _ f k=>Ki f k.1.1.1.1.1.1.1.1 (XM (hto.e _ hlt)).1 (tD<|(hct2 _ hem).1)) λc42=>QK (wP I QS .u1)<|QR I (λ_ _ f k=>G3 f k.2 k.1.1.1.2 (tD<|KO (hto.e _ hlt)) (tD<|KO hct)) λ_=>QK (QF I)<|Q7<|wE 4 I ?_
  refine wD 5 I ?_;refine QQ I (λhc2=>?_) λhc2=>?_
  ·have h45:Yw (Qz (el tb i.i).e) (Qz t)=0:=eq_of_beq hc2;have hA:(atV y tb (Qz t))=some (el tb i.i).ll:=by rw[hO,i.h,Xk9 hlt,if_pos h45]
   refine wa<|QA (QH I N6 J0)<|QA (Qe I J0 .here (.skip (.skip .h1)))<|QI I (λ_ _ f k=>Xk5 f (k.1.1.1.1.1.1.1.1.1.2.2.bx _ hem).2 (hct2 _ hem).2.2.n) λc50=>wD 5 I ?_
   repeat first|refine Q6 ?_|refine Qv ?_
   exact Je (c50) rfl (wU I I) (by rw[h21,hA]<;>rfl) λF h9=>by rw[h21,hA];exact h9.2
  have h45:¬Yw (Qz (el tb i.i).e) (Qz t)=0:=by simpa using hc2
  refine wA 7 I ?_;refine QQ I (λhc2=>?_) λhc2=>?_
  ·have h51:Yw (Qz (el tb i.i).e) (Qz t)>0:=wi hc2;have hA:(atV y tb (Qz t))=some (el tb i.i).wl:=by rw[hO,i.h,Xk9 hlt,if_neg h45,if_pos h51]
   refine wa<|QA (QH I Ub J0)<|QA (Qe I J0 .here (.skip .h1))<|QI I (λ_ _ f k=>Xk5 f (k.1.1.1.1.1.1.1.1.1.2.2.bx _ hem).1 (hct2 _ hem).2.1.n) λc56=>wD 5 I ?_
   repeat first|refine Q6 ?_|refine Qv ?_
   exact Je (c56) rfl (wU I I) (by rw[h21,hA]<;>rfl) λF h9=>by rw[h21,hA];exact h9.2
  have h51:¬Yw (Qz (el tb i.i).e) (Qz t)>0:=wj hc2;refine QN<|Qj<|Qj<|QC<|QB<|QA (Qu I I O)<|wB 2 I ?_
  exact Ql (⟨i.i+1,hlt,by rw[i.h,Xk9 hlt,if_neg h45,if_neg h51]⟩) (by show tb.length-(i.i+1)<tb.length-i.i;omega) wv ((.cons _ we)) λF h=>h.1.1
 have hge:tb.length<=i.i:=tD<|wj hc2
 refine Qx ?_
 repeat first|refine QY ?_|refine QO tH ?_
 refine QZ<|wE 8 I ?_
 exact Je ((⟨none,0,0⟩:Sr)) I (wU I I) (by rw[h21,hO,i.h,aB hge]<;>rfl) λF h9=>by rw[h21,hO,i.h,aB hge];exact Ks.nil F 0
def Xjy(a b:Rat):(Yw a b=0↔Yw b a=0)/\(Yw a b<0↔Yw b a>0):=by
 have h1:=N8 a b;have h2:=Uj a b;have h3:=V9 a b;have h4:=K3 a b;have k1:=N8 b a;have k2:=Uj b a;have k3:=V9 b a;have k4:=K3 b a;refine⟨⟨λh=>?_,λh=>?_⟩,h3.trans k4.symm⟩
 ·have e1:=k1.2 (h2.1 O);have e2:=k2.2 (h1.1 O);omega
 have e1:=h1.2 (k2.1 O);have e2:=h2.2 (k1.1 O);omega
def Xkg{t:List UInt8}(h:Jp t=0):t=[48]↔Dm (Qz t).num=0:=by
 constructor
 ·intro e;subst e;decide +kernel
 intro e;have h1:Qz t=0:=Rat.num_eq_zero.1 (QA0 _ e);rw[(XM h).1,h1];decide +kernel
theorem Xm5{r:Sr}{t:List UInt8}(hF:Fits F w)(hy:X4 F y)(hx:IF F r tb)(hn:r.n<=1000000)(he:∀b∈tb,Jp b.e=0)(hct:Jp t=0):QU prog 81 [y.v,r.v,tx t] w F (λ(c:Sr)=>.tuple #[c.v,.bool (atV y tb (Qz t)).isSome]) (λc F=>Ks F c ((atV y tb (Qz t)).getD [])):=by
 have hxr:=hx.len;refine QU.intro (G:=λF=>X4 F y/\IF F r tb) func81 rfl tH rfl rfl hF (λF' hF'=>⟨hy.le hF',hx.le hF'⟩)<|wa<|Qp rfl (vs:=[_,_,_]) rfl λb3=>wX rfl<|wZ rfl<|QG<|wb rfl<|QI rfl (λ_ _ f k=>Xlq f hct) λ_=>QA (QT rfl rfl rfl)<|QE<|QC ?_
 refine QQ I (λhc2=>?_) λhc2=>?_
 ·have hO:(atV y tb (Qz t))=none:=by unfold atV;rw[if_pos (wi hc2)]
  refine wA 7 I ?_;exact Je ((⟨none,0,0⟩:Sr)) I (wU I I) (by rw[hO]<;>rfl) λF h9=>by rw[hO];exact Ks.nil F 0
 have h27:¬Dm (Qz t).num<0:=wj hc2;refine wC 6 I<|QI I (λ_ _ f k=>QCm f) λ_=>QE<|QC ?_
 refine QQ I (λhc2=>?_) λhc2=>?_
 ·have hO:(atV y tb (Qz t))=some y.sl:=by unfold atV;rw[if_neg h27,if_pos ((Xkg hct).1 (eq_of_beq hc2))]
  refine wa<|QA (QH I YM J0)<|QA (Qe I J0 .here (.skip (.skip .h1)))<|wD 5 I ?_
  exact Je (y.st) rfl (wU I I) (by rw[hO]<;>rfl) λF h9=>by rw[hO];exact⟨h9.1.1.1.st,h9.1.1.1.P0⟩
 have hO:(atV y tb (Qz t))=atT tb (Qz t):=by unfold atV;rw[if_neg h27,if_neg (λk=>absurd ((Xkg hct).2 k) (by simpa using hc2))]
 refine wC 9 I<|J9 (ι:=AtI tb (Qz t)) [(1,_),(2,_)] (λi=>[(8,.int .i64 ((i.i:Nat):Int))]) (λi=>tb.length-i.i) (⟨0,ao _,rfl⟩) wm wk λi=>?_
 simp only[aa,ab];have hi:=i.le;refine wA 5 I<|QA (Qg I EC)<|wD 3 I ?_
 refine QQ I (λhc2=>?_) λhc2=>?_
 ·have hlt:i.i<tb.length:=tD<|wi hc2
  have hem:=Qw hlt;refine wC 9 I<|QA (Q3 (n:=r.n) i.i (λF h9=>h9.1.1.2.row) rfl rfl EC X8 O)<|QA (QH I Ec JF)<|QA (JA (n:=r.n) ((i.i)*3+0) (λF h9=>h9.1.1.2.row) O rfl JF (JN (f:=uI) (l:=tb) Cb O rfl))<|QI I (λ_ _ f k=>QCs f hct (he _ hem)) λ_=>wD 10 I ?_
  refine QQ I (λhc2=>?_) λhc2=>?_
  ·have h45:Yw (Qz (el tb i.i).e) (Qz t)=0:=(Xjy _ _).1.1 (eq_of_beq hc2);have hA:(atV y tb (Qz t))=some (el tb i.i).ll:=by rw[hO,i.h,Xk9 hlt,if_pos h45]
   refine wA 4 I<|QA (Q3 (n:=r.n) i.i (λF h9=>h9.1.1.1.2.row) rfl rfl EC X8 O)<|QA (QH I N6 J0)<|QA (JA (n:=r.n) ((i.i)*3+2) (λF h9=>h9.1.1.1.2.row) O rfl J0 (JN (f:=uI) (l:=tb) Cb O rfl))<|wD 5 I ?_
   repeat first|refine Q6 ?_|refine Qv ?_
   exact Je ((el tb i.i).l) rfl (wU I I) (by rw[hA]<;>rfl) λF h9=>by rw[hA];exact(h9.1.1.1.2.bx _ hem).2
  have h45:¬Yw (Qz (el tb i.i).e) (Qz t)=0:=λk=>absurd ((Xjy _ _).1.2 k) (by simpa using hc2);refine wC 8 I ?_;refine QQ I (λhc2=>?_) λhc2=>?_
  ·have h51:Yw (Qz (el tb i.i).e) (Qz t)>0:=(Xjy _ _).2.1 (wi hc2);have hA:(atV y tb (Qz t))=some (el tb i.i).wl:=by rw[hO,i.h,Xk9 hlt,if_neg h45,if_pos h51]
   refine wA 4 I<|QA (Q3 (n:=r.n) i.i (λF h9=>h9.1.1.1.2.row) rfl rfl EC X8 O)<|QA (QH I Ub J0)<|QA (JA (n:=r.n) ((i.i)*3+1) (λF h9=>h9.1.1.1.2.row) O rfl J0 (JN (f:=uI) (l:=tb) Cb O rfl))<|wD 5 I ?_
   repeat first|refine Q6 ?_|refine Qv ?_
   exact Je ((el tb i.i).w) rfl (wU I I) (by rw[hA]<;>rfl) λF h9=>by rw[hA];exact(h9.1.1.1.2.bx _ hem).1
  have h51:¬Yw (Qz (el tb i.i).e) (Qz t)>0:=λk=>absurd ((Xjy _ _).2.2 k) (wj hc2);refine QN<|Qj<|wE 3 I<|QA (Qu I I O)<|wB 2 I ?_
  exact Ql (⟨i.i+1,hlt,by rw[i.h,Xk9 hlt,if_neg h45,if_neg h51]⟩) (by show tb.length-(i.i+1)<tb.length-i.i;omega) wu we tN
 have hge:tb.length<=i.i:=tD<|wj hc2
 refine Qx ?_
 repeat first|refine QY ?_|refine QO tH ?_
 refine QZ<|wE 8 I ?_
 exact Je ((⟨none,0,0⟩:Sr)) I (wU I I) (by rw[hO,i.h,aB hge]<;>rfl) λF h9=>by rw[hO,i.h,aB hge];exact Ks.nil F 0
structure QxR(F:Gs)(r:Sr)(vs:List XP):Prop where
 row:Qy F r.q r.n 2 (vs.flatMap LP)
 len:vs.length=r.n
def QxR.le{F':Gs}{r:Sr}{vs:List XP}(h:QxR F r vs)(k:Gs.le F F'):QxR F' r vs:=⟨h.row.le k,h.len⟩
def QEi(x:XP):∀v∈LP x,v.oneCell'=true:=λv hv=>by
 simp only[LP,aN,aL,or_false]at hv;rcases hv with rfl | rfl<;>rfl
def QEh(h:∀s∈l,Xd s.1 s.2=0):l.flatMap NU=(lV l).flatMap LP:=by
 induction l with
 |nil=>rfl
 |cons s l ih =>
  have h1:=Ku (h s (.head _));show NU s++l.flatMap NU=LP (JB s)++(lV l).flatMap LP;rw[ih λu hu=>h u (.tail _ hu)];congr 1;show[tx s.1,tx s.2]=[tx (JP (Qz s.1)),tx (JP (Qz s.2))];rw[<-(XM h1.1).1,<-(XM h1.2.1).1]
def Ks.q{r:Sr}(hx:Ks F r l)(h:∀s∈l,Xd s.1 s.2=0):QxR F r (lV l):=⟨by rw[<-QEh h];exact hx.row,by rw[Yg];exact hx.len⟩
def Xc7(vs:List XP):(I4 vs).flatMap NU=vs.flatMap LP:=by unfold I4;rw[List.flatMap_map];rfl
def QxR.CW{r:Sr}{vs:List XP}(h:QxR F r vs):Ks F r (I4 vs):=⟨by rw[Xc7];exact h.row,by rw[vz];exact h.len⟩
def BQ.q{c:Sr}{vs:List XP}(h:BQ F c vs):QxR F c vs:=⟨h.1,h.2.1.symm⟩
structure Xaf(n:Nat)(f:Nat->XP) where
 i:Nat
 v:Value
 ob:List (Nat×Obj)
 le:i<=n
 hr:Q8 40 2 v i (((ar i).map f).flatMap LP) ob
def Xaf.start(n:Nat)(f:Nat->XP):Xaf n f:=⟨0,.slice none 0 0,[],ao _,.nil⟩
def Xaf.next{n:Nat}{f:Nat->XP}(s:Xaf n f)(h:s.i<n){v:Value}{ob:List (Nat×Obj)}{x:XP}(hr:Q8 40 2 v (s.i+1) (((ar s.i).map f).flatMap LP++LP x) ob)(hx:x=f s.i):Xaf n f :=
 ⟨s.i+1,v,ob,h,by rw[List.range_succ,aM,show List.map f [s.i]=[x] by rw[hx];rfl,CK];exact hr⟩
theorem Xaf.row{f:Nat->XP}(s:Xaf n f)(h:s.i=n){F:Gs}{q:Option Addr}{c:Nat}(hr:Qy F q s.i 2 (((ar s.i).map f).flatMap LP)):QxR F ⟨q,s.i,c⟩ ((ar n).map f):=⟨by have e:(ar n).map f=(ar s.i).map f:=congrArg (λk=>(ar k).map f) h.symm;rw[e];exact hr,by rw[ak,af,h]⟩
theorem Xlt{a b:XP}{bl:Nat}{T:TypeId}(hF:Fits F w)(h:F bl=some ([tx (JP a.1),tx (JP a.2),tx (JP b.1),tx (JP b.2)].toArray,T))(ha:Xf a 20000)(hb:Xf b 20000):Qf prog 247 [.slice (some ⟨bl,0,none⟩) 2 2] w F (kh (XC a b)) :=
 Xlz (l:=[a,b]) hF (Qy.of (n:=2) (sz:=2) (cs:=[a,b].flatMap LP) h rfl) ⟨tF,rfl,tF⟩ (λp hp=>by
  simp only[aN,aL,or_false]at hp;rcases hp with rfl | rfl
  ·exact ha
  exact hb)
structure GdB(n:Nat)(v:List XP):Prop where
 len:v.length=n
 sz:∀a∈v,Xf a 2400
 lg:∀a∈v,Jh a.1=false/\Jh a.2=false
def GdB.of(h:YZ n l=0):GdB n (lV l):=⟨by rw[Yg];exact(XZ h).1,QBo h,λa ha=>by
 obtain⟨s,hs,rfl⟩:=List.mem_map.1 ha;have h1:=Ku ((XZ h).2 s hs);exact⟨(XM h1.1).2,(XM h1.2.1).2⟩⟩
def Xm4(a b:Rat):Dv a b=a\/Dv a b=b:=by unfold Dv;split<;>simp
def QHh(a b:Rat):Gx a b=a\/Gx a b=b:=by unfold Gx;split<;>simp
theorem GdB.hul{a b:List XP}(ha:GdB n a)(hb:GdB n b):GdB n (DJ XC a b):=by
 have key:∀x∈DJ XC a b,∃u∈a,∃v∈b,x=XC u v:=λx hx=>by
  obtain⟨i,hi,rfl⟩:=List.mem_map.1 hx;have hi:=List.mem_range.1 hi;exact⟨_,Qw hi,_,Qw (by rw[hb.len,<-ha.len];exact hi),rfl⟩
 refine⟨by unfold DJ;rw[ak,af,ha.len],λx hx=>?_,λx hx=>?_⟩
 ·obtain⟨u,hu,v,hv,rfl⟩:=key x hx;exact⟨D2 (ha.sz u hu).1 (hb.sz v hv).1,DC (ha.sz u hu).2 (hb.sz v hv).2⟩
 obtain⟨u,hu,v,hv,rfl⟩:=key x hx;refine⟨?_,?_⟩
 ·show Jh (Dv u.1 v.1)=false;rcases Xm4 u.1 v.1 with e | e<;>rw[e]
  ·exact(ha.lg u hu).1
  exact(hb.lg v hv).1
 show Jh (Gx u.2 v.2)=false;rcases QHh u.2 v.2 with e | e<;>rw[e]
 ·exact(ha.lg u hu).2
 exact(hb.lg v hv).2
def GdB.Xju{v:List XP}(h:GdB n v):Jx v=false:=dT λa ha=>by rw[(h.lg a ha).1,(h.lg a ha).2];rfl
def Xii(vs:List XP)(tb:List Wl):List XP:=tb.foldl (λa b=>DJ XC (DJ XC a (lV b.wl)) (lV b.ll)) vs
def Xk0{vs:List XP}(h:i<tb.length):Xii vs (tb.take (i+1))=DJ XC (DJ XC (Xii vs (tb.take i)) (lV (el tb i).wl)) (lV (el tb i).ll):=by unfold Xii;rw[XE h,aP];rfl
theorem Xkb{vs:List XP}(h:GdB n vs)(ho:QHw n tb):∀i,i<=tb.length->GdB n (Xii vs (tb.take i))
 |0,_=>h
 |i+1,hi=>by
  rw[Xk0 hi];exact((Xkb h ho i O).hul (.of (ho.w i hi))).hul (.of (ho.l i hi))
structure Xgf(F:Gs)(r:Sr)(tb:List Wl):Prop where
 a:IF F r tb
 q:∀b∈tb,QxR F b.w (lV b.wl)/\QxR F b.l (lV b.ll)
def Xgf.le{F':Gs}{r:Sr}(h:Xgf F r tb)(k:Gs.le F F'):Xgf F' r tb:=⟨h.a.le k,λb hb=>⟨(h.q b hb).1.le k,(h.q b hb).2.le k⟩⟩
theorem IF.q{r:Sr}(h:IF F r tb)(ho:QHw n tb):Xgf F r tb:=⟨h,λb hb=>by
 obtain⟨i,hi,rfl⟩:=aq hb;rw[<-Jb hi];have hm:=Qw hi;exact⟨(h.bx _ hm).1.q (XZ (ho.w i hi)).2,(h.bx _ hm).2.q (XZ (ho.l i hi)).2⟩⟩
structure RrJ(tb:List Wl) where
 i:Nat
 c:Sr
 le:i<=tb.length
theorem Xl7{ra rb:Sr}{va vb:List XP}(hF:Fits F w)(ha:QxR F ra va)(hb:QxR F rb vb)(hl:va.length<=vb.length)(hn:ra.n<=1000000)(hza:∀a∈va,Xf a 20000)(hzb:∀a∈vb,Xf a 20000):QU prog 172 [ra.v,rb.v] w F (λ(c:Sr)=>c.v) (λc F=>QxR F c (DJ XC va vb)):=by
 have hal:=ha.len;have hbl:=hb.len;refine QU.intro (G:=λF=>QxR F ra va/\QxR F rb vb) func172 rfl tH rfl rfl hF (λF' hF'=>⟨ha.le hF',hb.le hF'⟩)<|wa<|wZ rfl<|wa<|wZ rfl<|QG<|wa<|wZ rfl<|QV<|JU (ι:=Xaf (va.length) ((λi=>XC (el va i) (el vb i)))) [(0,_),(1,_)] (λi=>[(5,i.v),(6,.int .i64 ((i.i:Nat):Int))]) (λi=>i.ob) (λi F=>True) (λi=>(va.length)-i.i) (Xaf.start _ _) wm wm we tL λi=>?_
 simp only[aa,ab];have hi:=i.le;refine wA 5 I<|QA (Qg I XF)<|wD 3 I ?_
 refine QQ I (λhc2=>?_) λhc2=>?_
 ·have hlt:i.i<va.length:=tD<|wi hc2
  have hem:=Qw hlt;refine wC 4 I<|JG tQ mixed tE<|QK (QD I)<|QK (QD I)<|QK (QD I)<|QK (Q3 (n:=ra.n) i.i (λF h9=>h9.1.1.row) rfl rfl XF Jd O)<|QK (JZ (n:=ra.n) (vs:=[tx (JP (el va i.i).1),tx (JP (el va i.i).2)]) ((i.i)*2) (λF h9=>h9.1.1.row) O rfl Jd I λj v hv=>JN (f:=LP) (l:=va) uh O hv)<|QK (QD I)<|QK (QD I)<|QK (Q3 (n:=rb.n) i.i (λF h9=>h9.1.2.row) rfl rfl XF Jd O)<|QK (JZ (n:=rb.n) (vs:=[tx (JP (el vb i.i).1),tx (JP (el vb i.i).2)]) ((i.i)*2) (λF h9=>h9.1.2.row) O rfl Jd I λj v hv=>JN (f:=LP) (l:=vb) uh O hv) ?_
  refine Qo I (Q5 XF) Jd Xa I I (λb22=>?_) (λw h=>h.imp tQ tM);refine QR I (λ_ _ f k=>Xlt (a:=el va i.i) (b:=el vb i.i) f k.2 (hza _ hem) (hzb _ (Qw O))) (λ_=>?_);refine Qo I (Q5 XF) Jd Xa I I (λb24=>?_) (λw h=>h.imp tQ λF h=>h.1.1);refine Y6 (aO (l₁:=[])) ?_;refine Yz (n:=i.i) (k:=1) (sz:=2) (news:=(LP (XC (el va i.i) (el vb i.i)))) I I XF Jd Xa I QAH i.hr (Src.row (off:=0) tO (λj q hq=>by rw[aF];rw[aG];exact hq) rfl) O O (QEi _) we (λ_ h=>h.1.1.1) (λv25 ob25 hr25=>?_);refine Y6 (aO (l₂:=[]))<|QK (QF I)<|Q7<|Qj<|wE 3 I<|QA (Qu I I O)<|wB 2 I ?_
  exact Ql (i.next hlt hr25 rfl) (by show va.length-(i.i+1)<va.length-i.i;omega) wv we λF h=>⟨h.1.1.1.1,trivial⟩
 have hge:va.length<=i.i:=tD<|wj hc2
 refine Qx ?_
 repeat first|refine QY ?_|refine QO tH ?_
 refine QZ<|wE 3 I ?_
 obtain⟨⟨rq,rn,rc⟩,hv2,hrn,hrc,hfix⟩:=Q8.fix (w0:=w) (F0:=F) (bs1:=[]) (G:=_) i.hr;dsimp only at hrn hrc hfix;subst hrn;refine Zj hfix ?_;rw[hv2];dsimp only[Sr.v];refine wD 5 I ?_;exact QP ((⟨rq,i.i,rc⟩:Sr)) I (wT I) (rfl) λF ⟨⟨⟨ha,hb⟩,_⟩,hrow⟩=>i.row (tD i.le) hrow
theorem Xlr{r:Sr}(hF:Fits F w)(hy:X4 F y)(hys:GdB n y.vs)(hyc:∀s∈y.sl,Xd s.1 s.2=0)(hyn:y.st.n<=1000000)(hx:Xgf F r tb)(hn:r.n<=1000000)(ho:QHw n tb):QU prog 79 [y.v,r.v] w F (λ(c:Sr)=>c.v) (λc F=>QxR F c (Xii y.vs tb)):=by
 have hxr:=hx.a.len;have hsl:=hy.P0;have hvn:n=y.st.n:=by rw[<-hys.len,<-hsl];unfold Xz.vs;rw[ak]
 refine QU.intro (G:=λF=>X4 F y/\Xgf F r tb) func79 rfl tH rfl rfl hF (λF' hF'=>⟨hy.le hF',hx.le hF'⟩)<|wa<|Qp rfl (vs:=[_,_,_]) rfl λb2=>wZ rfl<|wa<|Gf (Q5 XF) Jd λb7=>QA (QH rfl YM J0)<|QA (Qe rfl J0 .u1 (.skip (.skip .h1)))<|ZL (List.Perm.swap _ _ _)<|Z4 (bs1:=[_]) (ob:=[(b7,.cells ([]++[]:List Value).toArray 40 (0,0))]) (n:=0) (k:=y.st.n) (sz:=2) (news:=y.sl.flatMap NU) rfl rfl XF Jd Xa rfl QAH (.some rfl rfl (aD _) tF) (Src.gR hy.st.cM (λF h9=>h9.1.st) (by rw[Dq (f:=NU) K1,hsl])) O O (Xl6 y.sl) λv10 ob10 hr10=>?_
 rw[aF,ab]at hr10;obtain⟨⟨rq,rn,rc⟩,hv2,hrn,hrc,hfix⟩:=Q8.fix (w0:=w) (F0:=F) (bs1:=[_]) (G:=_) hr10;dsimp only at hrn hrc hfix;subst hrn;refine Zj hfix ?_;rw[hv2];dsimp only[Sr.v];refine wD 10 I<|JU (ι:=RrJ tb) [(1,_)] (λi=>[(5,.slice i.c.q i.c.n i.c.cap),(6,.int .i64 ((i.i:Nat):Int))]) (λi=>[]) (λi F=>QxR F i.c (Xii y.vs (tb.take i.i))) (λi=>tb.length-i.i) (⟨0,⟨rq,y.st.n,rc⟩,ao _⟩) wk wm tQ (λF ⟨⟨hy,hx⟩,hrow⟩=>(⟨by rw[show Xii y.vs (tb.take 0)=lV y.sl from rfl,<-QEh hyc];exact hrow,by show(lV y.sl).length=y.st.n;rw[Yg,hsl]⟩:QxR F _ _)) λi=>?_
 simp only[aa,ab];have hi:=i.le;have hgd:=Xkb hys ho i.i i.le;refine wA 5 I<|QA (Qg I EC)<|wD 3 I ?_
 refine QQ I (λhc2=>?_) λhc2=>?_
 ·have hlt:i.i<tb.length:=tD<|wi hc2
  have hem:=Qw hlt;have hgw:GdB n (lV (el tb i.i).wl):=.of (ho.w _ hlt);have hgl:GdB n (lV (el tb i.i).ll):=.of (ho.l _ hlt);refine XV _ (λ_ _ f k=>k.2.len) (λhlS=>?_);rw[hgd.len]at hlS;refine wC 4 I<|JG we mixed tE<|QK (QD I)<|QK (QD I)<|QK (QD I)<|QK (Q3 (n:=r.n) i.i (λF h9=>h9.1.1.2.a.row) rfl rfl EC X8 O)<|QK (QH I Ub J0)<|QK (JA (n:=r.n) ((i.i)*3+1) (λF h9=>h9.1.1.2.a.row) O rfl J0 (JN (f:=uI) (l:=tb) Cb O rfl))<|QR I (λ_ _ f k=>Xl7 (va:=Xii y.vs (tb.take i.i)) (vb:=lV (el tb i.i).wl) f k.2 (k.1.1.2.q _ hem).1 (by rw[hgd.len,hgw.len];exact aD _) (by have:=k.2.len;rw[hgd.len]at this;omega) (λa ha=>(hgd.sz a ha).mono tF) λa ha=>(hgw.sz a ha).mono tF) λc23=>QK (QD I)<|QK (QD I)<|QK (Q3 (n:=r.n) i.i (λF h9=>h9.1.1.2.a.row) rfl rfl EC X8 O)<|QK (QH I N6 J0)<|QK (JA (n:=r.n) ((i.i)*3+2) (λF h9=>h9.1.1.2.a.row) O rfl J0 (JN (f:=uI) (l:=tb) Cb O rfl))<|QR I (λ_ _ f k=>Xl7 (va:=DJ XC (Xii y.vs (tb.take i.i)) (lV (el tb i.i).wl)) (vb:=lV (el tb i.i).ll) f k.2 (k.1.1.1.2.q _ hem).2 (by rw[(hgd.hul hgw).len,hgl.len];exact aD _) (by have:=k.2.len;rw[(hgd.hul hgw).len]at this;omega) (λa ha=>((hgd.hul hgw).sz a ha).mono tF) λa ha=>(hgl.sz a ha).mono tF) λc29=>QK (QF I)<|Q7<|Qj<|wE 3 I<|QA (Qu I I O) ?_
  refine wB 2 I ?_;exact Ql (⟨i.i+1,c29,hlt⟩) (by show tb.length-(i.i+1)<tb.length-i.i;omega) wu we λF h9=>⟨⟨⟨h9.1.1.1.1.1,h9.1.1.1.1.2⟩,h9.1.1.1.2⟩,by show QxR F c29 (Xii y.vs (tb.take (i.i+1)));rw[Xk0 hlt];exact h9.2⟩
 have hge:tb.length<=i.i:=tD<|wj hc2
 refine Qx ?_
 repeat first|refine QY ?_|refine QO tH ?_
 refine QZ<|wE 8 I ?_
 exact QP (i.c) rfl (wT I) (rfl) λF ⟨⟨⟨hy,hx⟩,hrow⟩,hS⟩=>by have h:=hS;rw[aj hge]at h;exact h
def Wl.sr(b:Wl)(k:Nat):Sr:=if k=0 then b.w else b.l
def Wl.sl(b:Wl)(k:Nat):List (List UInt8×List UInt8):=if k=0 then b.wl else b.ll
def rn2(a:List XP)(b:Wl):Nat->List XP
 |0=>a
 |k+1=>DJ XC (rn2 a b k) (lV (b.sl k))
theorem Xlp(ho:QHw n tb){i k:Nat}(h:i<tb.length):YZ n ((el tb i).sl k)=0:=by
 unfold Wl.sl;split
 ·exact ho.w i h
 exact ho.l i h
def Xls{a:List XP}(ha:GdB n a)(ho:QHw n tb){i:Nat}(h:i<tb.length):∀k,GdB n (rn2 a (el tb i) k)
 |0=>ha
 |k+1=>(Xls ha ho h k).hul (.of (Xlp ho h))
def rnR(e:Int)(v:List XP):List XP:=if e≠0 then[]else v
structure RgJ(tb:List Wl) where
 i:Nat
 c:Sr×List Yx
 le:i<=tb.length
structure RkJ where
 k:Nat
 c:Sr×List Yx
 le:k<=2
def wdF(l:List XP):Rat:=l.foldl (λm x=>E2 m (x.2-x.1)) ((0:Int):Rat)
def Xie(tb:List Wl):List Rat:=tb.map λb=>wdF (lV b.ll)
def Xka{l:List XP}(h:i<l.length):wdF (l.take (i+1))=E2 (wdF (l.take i)) ((el l i).2-(el l i).1):=by unfold wdF;rw[XE h,aP];rfl
def QGA{a b:Rat}(ha:JW a<=k)(hb:JW b<=k):JW (E2 a b)<=k:=by unfold E2;split<;>assumption
def Xln{l:List XP}(h:∀a∈l,Xf a k):∀i,i<=l.length->JW (wdF (l.take i))<=2*k+1+2
 |0,_=>by
  have:JW ((0:Int):Rat)<=2:=tF;show JW ((0:Int):Rat)<=_;omega
 |i+1,hi=>by
  rw[Xka hi];have h1:=h _ (Qw hi);have h2:=BX (el l i).2 (el l i).1;exact QGA (Xln h i O) (by have:=h1.1;have:=h1.2;omega)
def Xlm(h:i<tb.length):el (Xie tb) i=wdF (lV (el tb i).ll):=by unfold Xie;rw[Jb (by simpa using h),Jb h];simp
def Xih(tb:List Wl):(Xie tb).length=tb.length:=by simp[Xie]
theorem QGV(m x:Rat):Gx m x=E2 m x:=by
 have h1:=Uj m x;have h2:=K3 x m;unfold Gx E2;by_cases h:Yw m x>=0
 ·rw[if_pos h];have h3:=h1.1 h;rw[if_neg (λk=>by have:=h2.1 k;grind)]
 rw[if_neg h];rw[if_pos (h2.2 (by have:¬x<=m:=λk=>h (h1.2 k);grind))]
structure WdK(l:List XP) where
 k:Nat
 c:Fr
 le:k<=l.length
structure WdI(l:List XP) where
 k:Nat
 le:k<=l.length
theorem Xko(ho:QHw n tb){i j:Nat}(h:i<tb.length)(hj:j<=(lV (el tb i).ll).length):JW (wdF ((lV (el tb i).ll).take j))<=10000:=aK (Xln (QBo (ho.l i h)) j hj) tF
theorem Xly(ho:QHw n tb):∀x∈Xie tb,JW x<=10000:=λx hx=>by
 obtain⟨b,hb,rfl⟩:=List.mem_map.1 hx;obtain⟨i,hi,rfl⟩:=aq hb;have h:=Xko ho hi (aD _);rw[av]at h;rw[<-Jb hi];exact h
theorem Xm0{r:Sr}(hF:Fits F w)(hGl:JE F)(hy:X4 F y)(ht:GJ y)(hx:IF F r tb)(hc:QCR r tb):QU prog 77 [y.v,r.v] w F (λ(c:Sr)=>.tuple #[c.v,.int .i64 (Qs [y.e,Dz y.nm.n tb])]) (λc F=>QxR F c (rnR (Qs [y.e,Dz y.nm.n tb]) (Xii y.vs tb))):=by
 have hxr:=hx.len;have hcn:=hc.n;refine QU.intro (G:=λF=>JE F/\X4 F y/\IF F r tb) func77 rfl tH rfl rfl hF (λF' hF'=>⟨hGl.le hF',hy.le hF',hx.le hF'⟩)<|wa<|Qp rfl (vs:=[_,_,_]) rfl λb2=>wX rfl<|wZ rfl<|QG<|wa<|QA (wO I J6 .here)<|wW rfl<|QI rfl (λ_ _ f k=>Xg0 (y:=y) f k.1 k.2.1 ht k.2.2 hc) λ_=>wZ rfl<|wb rfl<|QA (QT rfl rfl rfl)<|QE<|QC ?_
 refine QQ I (λhc2=>?_) λhc2=>?_
 ·have h16:Qs [y.e,Dz y.nm.n tb]≠0:=bne_iff_ne.1 hc2;refine wA 8 I ?_;exact Je ((⟨none,0,0⟩:Sr)) I (wU I I) (rfl) λF h9=>by unfold rnR;rw[if_pos h16];exact⟨Qy.nil F none 2,rfl⟩
 have h16:Qs [y.e,Dz y.nm.n tb]=0:=bne_eq_false_iff_eq.1 hc2;have hye:y.e=0:=Q9 h16 _ (.head _);have ho:=gA (Q9 h16 (Dz y.nm.n tb) (.tail _ (.head _)));have hys:=hy.ok hye;have hct:∀b∈tb,b.e.length<=1000000/\BS b.w b.wl/\BS b.l b.ll:=hc.t.resolve_left (tD ho.len);have hn1:=hys.n1;have hsn:=hys.sn;refine wC 4 I<|QA (QH I YM J0)<|QA (Qe I J0 .here (.skip (.skip .h1)))<|QI I (λ_ _ f k=>H5 f k.1.1 ⟨k.1.2.1.st,k.1.2.1.P0⟩ ⟨ht.sn,ht.st⟩ hys.st) λc20=>wD 7 I<|QA (Qg I EC)<|wD 4 I<|JU (ι:=RgJ tb) [(21,_),(22,_)] (λi=>[(7,.slice i.c.1.q i.c.1.n i.c.1.cap),(23,.int .i64 ((i.i:Nat):Int))]) (λi=>[]) (λi F=>J7 F i.c.1 i.c.2 (Xii y.vs (tb.take i.i))) (λi=>tb.length-i.i) (⟨0,c20,ao _⟩) wm wm tQ tO λi=>?_
 simp only[aa,ab];have hi:=i.le;have hgd:=Xkb (vs:=y.vs) (.of (by unfold YZ;rw[if_neg (tD hy.P0)];exact Xij λx hx=>by obtain⟨s,hs,rfl⟩:=List.mem_map.1 hx;exact hys.st s hs)) ho i.i i.le;refine wA 6 I ?_;refine QQ I (λhc2=>?_) λhc2=>?_
 ·have hlt:i.i<tb.length:=tD<|wi hc2
  have hem:=Qw hlt;refine wC 6 I<|QA (Q3 (n:=r.n) i.i (λF h9=>h9.1.1.1.2.2.row) rfl rfl EC X8 O)<|QA (JZ (n:=r.n) (vs:=[tx (el tb i.i).e,.slice (el tb i.i).w.q (el tb i.i).w.n (el tb i.i).w.cap,.slice (el tb i.i).l.q (el tb i.i).l.n (el tb i.i).l.cap]) ((i.i)*3) (λF h9=>h9.1.1.1.2.2.row) O rfl X8 I λj v hv=>JN (f:=uI) (l:=tb) Cb O hv)<|Qc Wt λb9=>QW (vs:=[_,_,_]) I I I X8 I .here .h3 wu<|wY<|wa<|QA (QH I Ub J0)<|QA (Qe I J0 .here (.skip .h1))<|QA (QH I N6 J0)<|QA (Qe I J0 .here (.skip (.skip .h1)))<|Qb I (Q5 Sk) J0 QEI I I λb31=>QA (Qg I Sk)<|wD 4 I<|JU (ι:=RkJ) [(21,_),(22,_),(23,_),(31,_),(32,_)] (λi2=>[(7,.slice i2.c.1.q i2.c.1.n i2.c.1.cap),(33,.int .i64 ((i2.k:Nat):Int))]) (λi2=>[]) (λi2 F=>J7 F i2.c.1 i2.c.2 (rn2 (Xii y.vs (tb.take i.i)) (el tb i.i) i2.k)) (λi2=>2-i2.k) (⟨0,i.c,tF⟩) wy wm tQ (λF h9=>h9.1.2) λi2=>?_
  simp only[aa,ab];have hi2:=i2.le;refine wA 6 I ?_;refine QQ I (λhc2=>?_) λhc2=>?_
  ·have hlt2:i2.k<2:=tD<|wi hc2
   have hk2:i2.k=0\/i2.k=1:=O;have hga:=Xls hgd ho hlt i2.k;have hgb:GdB y.nm.n (lV ((el tb i.i).sl i2.k)):=.of (Xlp ho hlt);have hsr:∀ {F:Gs},IF F r tb->Ks F ((el tb i.i).sr i2.k) ((el tb i.i).sl i2.k)/\True:=λh=>⟨by
    rcases hk2 with e | e
    ·rw[e];exact(h.bx _ hem).1
    rw[e];exact(h.bx _ hem).2,trivial⟩
   have hsr2:BS ((el tb i.i).sr i2.k) ((el tb i.i).sl i2.k):=by
    rcases hk2 with e | e
    ·rw[e];exact(hct _ hem).2.1
    rw[e];exact(hct _ hem).2.2
   refine XV _ (λ_ _ f k=>k.2.nl) (λhnS2=>?_);rw[hga.len]at hnS2;refine wC 6 I<|QA (Q3 (n:=2) (i2.k) (λF h9=>Qy.of (sz:=1) h9.1.2 rfl) rfl rfl Sk J0 O)<|QA (JA (u:=.slice ((el tb i.i).sr i2.k).q ((el tb i.i).sr i2.k).n ((el tb i.i).sr i2.k).cap) (n:=2) (i2.k*1) (λF h9=>Qy.of (sz:=1) h9.1.2 rfl) O rfl J0 (by rcases hk2 with e | e<;>rw[e]<;>rfl))<|wD 6 I<|QI I (λ_ _ f k=>H5 f k.1.1.1.1.1.1 (hsr k.1.1.1.1.1.2.2).1 hsr2 (XZ (Xlp ho hlt)).2) λc39=>JQ _ (λ_ _ f k=>k.2.nl) λhn39=>?_
   rw[hgb.len]at hn39;refine QI I (λw F u k=>EN (f:=170) (c1:=[]) (c2:=[]) (g:=XC) (G0:=λ_=>True) u (λ_ _ _ h=>h) trivial k.1.2 k.2 O O λj hj x y w F u _ hX hY=>CR u hX hY ((hga.sz _ (Qw (by rw[hga.len];omega))).mono tF) ((hgb.sz _ (Qw (by rw[hgb.len];omega))).mono tF)) (λc40=>wB 2 I<|Qj<|QC<|QB<|QA (Qu I I O)<|wB 2 I ?_);exact Ql (⟨i2.k+1,c40,O⟩) (by show 2-(i2.k+1)<2-i2.k;omega) w6 (tQ) λF ⟨⟨⟨⟨⟨⟨⟨⟨hGl,hy,hx⟩,_⟩,h20⟩,hS⟩,hs31⟩,hS2⟩,h39⟩,h40⟩=>⟨⟨⟨⟨⟨⟨hGl,hy,hx⟩,trivial⟩,h20⟩,hS⟩,hs31⟩,h40⟩
  have hk3:i2.k=2:=tD<|wj hc2
  refine Qx ?_
  repeat first|refine QY ?_|refine QO tH ?_
  refine QZ<|Qj<|QC<|QB<|QA (Qu I I O)<|wB 2 I ?_
  exact Ql (⟨i.i+1,i2.c,hlt⟩) (by show tb.length-(i.i+1)<tb.length-i.i;omega) wv (tQ) λF ⟨⟨⟨⟨⟨⟨hGl,hy,hx⟩,_⟩,h20⟩,hS⟩,hs31⟩,hS2⟩=>⟨⟨⟨⟨hGl,hy,hx⟩,trivial⟩,h20⟩,by show J7 F i2.c.1 i2.c.2 (Xii y.vs (tb.take (i.i+1)));rw[Xk0 hlt];have h9:=hS2;rw[hk3]at h9;exact h9⟩
 have hge:tb.length<=i.i:=tD<|wj hc2
 have hnl:=hgd.Xju;refine XV _ (λ_ _ f k=>k.2.nl) (λhnS=>?_);rw[hgd.len]at hnS;refine Qx ?_
 repeat first|refine QY ?_|refine QO tH ?_
 refine QZ<|wE 4 I<|QI I (λ_ _ f k=>BJ f k.1.1.1.1 k.2 O λa ha=>(hgd.sz a ha).mono tF) λc44=>?_
 rw[hnl];refine wD 7 I ?_;exact Je (c44) rfl (wU I I) (by rw[h16]<;>rfl) λF ⟨⟨⟨⟨⟨hGl,hy,hx⟩,_⟩,h20⟩,hS⟩,h44⟩=>by unfold rnR;rw[h16,if_neg tF];simp only[Bool.false_eq_true,if_false]at h44;rw[aj hge]at h44;exact(BQ.q h44)
theorem Xlk{r:Sr}(hF:Fits F w)(hGl:JE F)(hy:X4 F y)(ht:GJ y)(hx:IF F r tb)(hc:QCR r tb):QU prog 78 [y.v,r.v] w F (λ(c:Sr)=>.tuple #[c.v,.int .i64 (uU (Qs [y.e,Dz y.nm.n tb]) (Xie tb)).1]) (λc F=>NxR F c (uU (Qs [y.e,Dz y.nm.n tb]) (Xie tb)).2):=by
 have hxr:=hx.len;have hcn:=hc.n;have hx2:∀b∈tb,b.ll.length=b.l.n:=λb hb=>(hx.bx b hb).2.len;refine QU.intro (G:=λF=>JE F/\X4 F y/\IF F r tb) func78 rfl tH rfl rfl hF (λF' hF'=>⟨hGl.le hF',hy.le hF',hx.le hF'⟩)<|wa<|Qp rfl (vs:=[_,_,_]) rfl λb2=>wX rfl<|wZ rfl<|QG<|wa<|QA (wO I J6 .here)<|wW rfl<|QI rfl (λ_ _ f k=>Xg0 (y:=y) f k.1 k.2.1 ht k.2.2 hc) λ_=>wZ rfl<|wb rfl<|QA (QT rfl rfl rfl)<|QE<|QC ?_
 refine QQ I (λhc2=>?_) λhc2=>?_
 ·have h17:Qs [y.e,Dz y.nm.n tb]≠0:=bne_iff_ne.1 hc2;refine wA 8 I ?_;exact Je ((⟨none,0,0⟩:Sr)) I (wU I I) (by rw[zS h17]) λF h9=>by rw[zS h17];exact NxR.nil F
 have h17:Qs [y.e,Dz y.nm.n tb]=0:=bne_eq_false_iff_eq.1 hc2;have hye:y.e=0:=Q9 h17 _ (.head _);have ho:=gA (Q9 h17 (Dz y.nm.n tb) (.tail _ (.head _)));have hct:∀b∈tb,b.e.length<=1000000/\BS b.w b.wl/\BS b.l b.ll:=hc.t.resolve_left (tD ho.len);have hwl:=Xih tb;refine wC 4 I<|wZ rfl<|QG<|wb rfl<|QA (Qg rfl EC)<|wW rfl<|wY<|QV<|JU (ι:=SdJ (Xie tb)) [(19,_),(20,_)] (λi=>[(7,i.v),(21,.int .i64 ((i.i:Nat):Int))]) (λi=>i.ob) (λi F=>Rz F i.xs) (λi=>tb.length-i.i) (⟨0,.slice none 0 0,[],[],ao _,.nil,rfl⟩) wm wm tQ (λ_ _ p h=>by cases h) λi=>?_
 simp only[aa,ab];have hi:=i.le;rw[Xih]at hi;refine wA 6 I ?_;refine QQ I (λhc2=>?_) λhc2=>?_
 ·have hlt:i.i<tb.length:=tD<|wi hc2
  have hem:=Qw hlt;refine wC 6 I<|QA (Q3 (n:=r.n) i.i (λF h9=>h9.1.1.2.2.row) rfl rfl EC X8 O)<|QA (JZ (n:=r.n) (vs:=[tx (el tb i.i).e,.slice (el tb i.i).w.q (el tb i.i).w.n (el tb i.i).w.cap,.slice (el tb i.i).l.q (el tb i.i).l.n (el tb i.i).l.cap]) ((i.i)*3) (λF h9=>h9.1.1.2.2.row) O rfl X8 I λj v hv=>JN (f:=uI) (l:=tb) Cb O hv)<|Qc Wt λb9=>QW (vs:=[_,_,_]) I I I X8 I .here .h3 wu<|wY<|wa<|QI I (λ_ _ f k=>TN (n:=0) f tF tF) λc25=>Qc Jw λb10=>QW (vs:=[_,_,_,_]) I I I QS I .here .h4 wv<|wD 5 I<|QA (QH I N6 J0)<|QA (Qe I J0 .u1 (.skip (.skip .h1)))<|QI I (λ_ _ f k=>H5 f k.1.1.1.1 (k.1.1.1.2.2.bx _ hem).2 (hct _ hem).2.2 (XZ (ho.l _ hlt)).2) λc28=>?_
  refine JQ _ (λw F hF ⟨⟨⟨⟨⟨hGl,hy,hx⟩,_⟩,hS⟩,h25⟩,h28⟩=>aQ h28.nl h28.len) (λhn28=>?_);obtain⟨hn28,hq28⟩:=hn28;refine QA (Qg I JO)<|wD 4 I<|JU (ι:=WdK (lV (el tb i.i).ll)) [(7,_),(10,_),(19,_),(20,_),(21,_),(28,_),(29,_)] (λi2=>[(30,.int .i64 ((i2.k:Nat):Int))]) (λi2=>(b10,.cells (Kj i2.c).toArray 135 (0,0))::i.ob) (λi2 F=>JR F i2.c (wdF ((lV (el tb i.i).ll).take i2.k))) (λi2=>(lV (el tb i.i).ll).length-i2.k) (⟨0,c25,ao _⟩) w6 wk (.cons_cons _ (.cons _ we)) (λF h9=>h9.1.2) λi2=>?_
  simp only[aa,ab];have hi2:=i2.le;refine wA 6 I ?_;refine QQ I (λhc2=>?_) λhc2=>?_
  ·have hlt2:i2.k<(lV (el tb i.i).ll).length:=tD<|wi hc2
   have hz2:=QBo (ho.l _ hlt) _ (Qw hlt2);have hwz:=Xko ho hlt hi2;have hbb:(lV (el tb i.i).ll).length<=1000000:=by rw[Yg,hx2 _ hem];exact(hct _ hem).2.2.n
   refine wC 6 I<|QA (Q3 (n:=c28.1.n) (i2.k) (λF h9=>h9.1.2.row) rfl rfl JO Qk O)<|QA (JZ (n:=c28.1.n) (vs:=[.int .i64 (el c28.2 (i2.k)).1.lo.n.s,.slice (el c28.2 (i2.k)).1.lo.n.q (el c28.2 (i2.k)).1.lo.n.n (el c28.2 (i2.k)).1.lo.n.cap,.int .i64 (el c28.2 (i2.k)).1.lo.d.s,.slice (el c28.2 (i2.k)).1.lo.d.q (el c28.2 (i2.k)).1.lo.d.n (el c28.2 (i2.k)).1.lo.d.cap,.int .i64 (el c28.2 (i2.k)).1.hi.n.s,.slice (el c28.2 (i2.k)).1.hi.n.q (el c28.2 (i2.k)).1.hi.n.n (el c28.2 (i2.k)).1.hi.n.cap,.int .i64 (el c28.2 (i2.k)).1.hi.d.s,.slice (el c28.2 (i2.k)).1.hi.d.q (el c28.2 (i2.k)).1.hi.d.n (el c28.2 (i2.k)).1.hi.d.cap]) ((i2.k)*8) (λF h9=>h9.1.2.row) O rfl Qk I λj v hv=>JN (f:=(λe=>Xs e.1)) (l:=c28.2) (λ_=>rfl) O hv)<|Qc Jk λb12=>QW (vs:=[_,_,_,_,_,_,_,_]) I I I Qk I .here .h8 w8<|wY<|Jq 8 we mixed tE tE ?_
   simp only[List.take_succ_cons,List.take_zero,List.drop_succ_cons,List.drop_zero];refine QK (wP I QS .u1)<|QK (QH I Xt QS)<|QK (wR I QS .here)<|QK (QH I Xu QS)<|QK (wP I QS .here)<|QR I (λ_ _ f h=>UU (x:=(el c28.2 i2.k).1.hi) (y:=(el c28.2 i2.k).1.lo) (r:=(el (lV (el tb i.i).ll) i2.k).2) (s:=(el (lV (el tb i.i).ll) i2.k).1) f (h.1.2.at O).2 (h.1.2.at O).1 (tD hz2.2) (tD hz2.1)) λc39=>?_
   refine Qo I (Q5 Xb) QS Jw I I (λb40=>?_) (λw h=>h.imp (.cons_cons _ (.cons_cons _ we)) tN);refine QR I (λ_ _ f h=>Xo (x:=i2.c) (r:=wdF ((lV (el tb i.i).ll).take i2.k)) (n:=1) (ps:=[(c39,((el (lV (el tb i.i).ll) i2.k).2-(el (lV (el tb i.i).ll) i2.k).1))]) f h.1.1.2 (Qy.of (n:=1) (sz:=4) (cs:=[(c39,((el (lV (el tb i.i).ll) i2.k).2-(el (lV (el tb i.i).ll) i2.k).1))].flatMap λe=>Kj e.1) h.2 I) (λp hp=>by rw[List.mem_singleton.1 hp];exact h.1.2) rfl tF ⟨O,λp hp=>by rw[List.mem_singleton.1 hp];show JW ((el (lV (el tb i.i).ll) i2.k).2-(el (lV (el tb i.i).ll) i2.k).1)<=_;have:=BX (el (lV (el tb i.i).ll) i2.k).2 (el (lV (el tb i.i).ll) i2.k).1;have:=hz2.1;have:=hz2.2;omega⟩) (λc41=>ZS<|QW (vs:=[_,_,_,_]) I I I QS I .u1 .h4 wv<|QE<|Qj<|QC<|QB<|QA (Qu I I O)<|wB 2 I ?_);exact Ql (⟨i2.k+1,c41,hlt2⟩) (by show(lV (el tb i.i).ll).length-(i2.k+1)<(lV (el tb i.i).ll).length-i2.k;omega) w8 ((.cons _ we)) λF ⟨⟨⟨⟨⟨⟨⟨⟨⟨hGl,hy,hx⟩,_⟩,hS⟩,h25⟩,h28⟩,hS2⟩,h39⟩,hs40⟩,h41⟩=>⟨⟨⟨⟨⟨⟨hGl,hy,hx⟩,trivial⟩,hS⟩,h25⟩,h28⟩,by show JR F c41 (wdF ((lV (el tb i.i).ll).take (i2.k+1)));rw[Xka hlt2];exact h41⟩
  have hge2:(lV (el tb i.i).ll).length<=i2.k:=tD<|wj hc2
  refine Qx ?_
  repeat first|refine QY ?_|refine QO tH ?_
  refine QZ<|wE 3 I<|QA (wP I QS .here)<|Qb I (Q5 Xb) QS Jw I I λb45=>?_
  refine Z4 (bs1:=[_]) (ob:=i.ob) (n:=i.i) (k:=1) (sz:=4) (news:=(Kj i2.c)) I I Xb QS Jw I QCL i.hr (Src.row (off:=0) tO (λj q hq=>by rw[aF];rw[aG];exact hq) rfl) O O (pS _) (λv46 ob46 hr46=>?_);refine wB 2 I<|Qj<|QC<|QB<|QA (Qu I I O)<|wB 2 I ?_
  exact Ql (i.next (by rw[Xih];exact hlt) i2.c (wdF (lV (el tb i.i).ll)) hr46 (by rw[Xlm hlt])) (by show tb.length-(i.i+1)<tb.length-i.i;omega) wv ((.cons _ we)) λF ⟨⟨⟨⟨⟨⟨⟨hGl,hy,hx⟩,_⟩,hS⟩,h25⟩,h28⟩,hS2⟩,hs45⟩=>⟨⟨⟨hGl,hy,hx⟩,trivial⟩,hS.snoc (by have h9:=hS2;rw[aj hge2]at h9;exact h9)⟩
 have hge:i.i=(Xie tb).length:=by have:=wj hc2;have:=i.le;omega
 have hzx:∀p∈i.xs,JW p.2<=100000000:=λp hp=>aK (Xly ho _ (by have e:=i.hx;rw[hge,av]at e;rw[<-e];exact List.mem_map_of_mem hp)) tF;have hxe:i.xs.map (·.2)=(Xie tb):=by have e:=i.hx;rw[hge,av]at e;exact e
 have hxl2:=i.len;have hany:=uD hxe;refine Qx ?_
 repeat first|refine QY ?_|refine QO tH ?_
 refine QZ<|wE 4 I ?_
 have hxl:=i.len;obtain⟨⟨rq,rn,rc⟩,hv2,hrn,hrc,hfix⟩:=Q8.fix (w0:=w) (F0:=F) (bs1:=[]) (G:=_) i.hr;dsimp only at hrn hrc hfix;subst hrn;refine Zj hfix ?_;rw[hv2];dsimp only[Sr.v];refine wW I<|QI I (λw F g k=>y3 (f:=93) (c1:=[]) (c2:=[]) (p:=λe:Fr×Rat=>Jh e.2) (G0:=λF=>JE F/\Rz F i.xs) g (λF F' hle h=>⟨h.1.le hle,h.2.le hle⟩) ⟨k.1.1.1.1,k.1.2⟩ k.2 hxl2 O λe he w F g hG=>EX g hG.1 (hG.2 e he) (hzx e he)) λ_=>QE<|QC ?_
 refine QQ I (λhc2=>?_) λhc2=>?_
 ·have hL:(Xie tb).any Jh=true:=by rw[<-hany];exact hc2
  refine wA 7 I ?_;exact Je ((⟨none,0,0⟩:Sr)) I (wU I I) (by rw[h17,S9,if_pos hL]) λF h9=>by rw[h17,S9,if_pos hL,if_pos hL];exact NxR.nil F
 have hL:(Xie tb).any Jh=false:=by rw[<-hany];exact hc2
 refine wC 5 I<|QI I (λ_ _ f k=>Lh f k.1.1.1.1.1 k.1.2 k.1.1.2 hxl2 O hzx) λc51=>wD 5 I ?_
 exact Je (c51) rfl (wU I I) (by rw[h17,S9,hL]<;>rfl) λF h9=>by rw[h17,S9,hL];show NxR F c51 (Xie tb);exact⟨by rw[<-QA2 hxe];exact h9.2.1,by rw[h9.2.2.1];exact hge,h9.2.2.2⟩
theorem Xl9{r:Sr}(hF:Fits F w)(hx:Xgf F r tb)(hn:r.n<=1000000)(hnn:n<=1000)(ho:QHw n tb):QU prog 80 [r.v] w F (λ(c:Sr)=>c.v) (λc F=>NxR F c (Xie tb)):=by
 have hxr:=hx.a.len;have hx2:∀b∈tb,b.wl.length=b.w.n/\b.ll.length=b.l.n:=λb hb=>⟨(hx.a.bx b hb).1.len,(hx.a.bx b hb).2.len⟩;refine QU.intro (G:=λF=>Xgf F r tb) func80 rfl tH rfl rfl hF (λF' hF'=>hx.le hF')<|wa<|wZ rfl<|wa<|wZ rfl<|QG<|wa<|wZ rfl<|QV<|JU (ι:=WnJ (Xie tb)) [(0,_)] (λi=>[(3,i.v),(4,.int .i64 ((i.i:Nat):Int))]) (λi=>i.ob) (λi F=>True) (λi=>tb.length-i.i) (⟨0,.slice none 0 0,[],ao _,.nil⟩) wk wm we tL λi=>?_
 simp only[aa,ab];have hi:=i.le;rw[Xih]at hi;refine wA 5 I<|QA (Qg I EC)<|wD 3 I ?_
 refine QQ I (λhc2=>?_) λhc2=>?_
 ·have hlt:i.i<tb.length:=tD<|wi hc2
  have hem:=Qw hlt;refine wC 16 I<|JU (ι:=WdI (lV (el tb i.i).ll)) [(0,_),(3,_),(4,_)] (λi2=>[(5,tx (JP (wdF ((lV (el tb i.i).ll).take i2.k)))),(6,.int .i64 ((i2.k:Nat):Int))]) (λi2=>i.ob) (λi2 F=>True) (λi2=>(lV (el tb i.i).ll).length-i2.k) (⟨0,ao _⟩) wu ⟨(congrArg (λs=>some (tx s)) (show[48]=JP ((0:Int):Rat)from by decide +kernel)),rfl,trivial⟩ we tL λi2=>?_
  simp only[aa,ab];have hi2:=i2.le;refine wA 6 I<|QA (Q3 (n:=r.n) i.i (λF h9=>h9.1.1.a.row) rfl rfl EC X8 O)<|QA (QH I N6 J0)<|QA (JA (n:=r.n) ((i.i)*3+2) (λF h9=>h9.1.1.a.row) O rfl J0 (JN (f:=uI) (l:=tb) Cb O rfl))<|QA (Qg I XF)<|wD 3 I ?_
  refine QQ I (λhc2=>?_) λhc2=>?_
  ·have hlt2:i2.k<(lV (el tb i.i).ll).length:=by rw[Yg,(hx2 _ hem).2];have:=wi hc2;omega
   have hz2:=QBo (ho.l _ hlt) _ (Qw hlt2);have hwz:=Xko ho hlt hi2;refine XV _ (λ_ _ f k=>(k.1.1.q _ hem).2.len) (λhql=>?_);have hbb:(lV (el tb i.i).ll).length<=1000:=by rw[Yg,(XZ (ho.l _ hlt)).1];exact hnn
   refine wC 4 I<|JG we mixed tE<|QK (QD I)<|QK (QD I)<|QK (QD I)<|QK (Q3 (n:=r.n) i.i (λF h9=>h9.1.1.a.row) rfl rfl EC X8 O)<|QK (QH I N6 J0)<|QK (JA (n:=r.n) ((i.i)*3+2) (λF h9=>h9.1.1.a.row) O rfl J0 (JN (f:=uI) (l:=tb) Cb O rfl))<|QK (QD I)<|QK (Q3 (n:=(el tb i.i).l.n) (i2.k) (λF h9=>(h9.1.1.q _ hem).2.row) rfl rfl XF Jd O)<|QK (QH I We JF)<|QK (JA (n:=(el tb i.i).l.n) ((i2.k)*2+1) (λF h9=>(h9.1.1.q _ hem).2.row) O rfl JF (JN (f:=LP) (l:=(lV (el tb i.i).ll)) uh O rfl))<|QK (QD I)<|QK (QD I)<|QK (Q3 (n:=r.n) i.i (λF h9=>h9.1.1.a.row) rfl rfl EC X8 O)<|QK (QH I N6 J0)<|QK (JA (n:=r.n) ((i.i)*3+2) (λF h9=>h9.1.1.a.row) O rfl J0 (JN (f:=uI) (l:=tb) Cb O rfl))<|QK (QD I)<|QK (Q3 (n:=(el tb i.i).l.n) (i2.k) (λF h9=>(h9.1.1.q _ hem).2.row) rfl rfl XF Jd O)<|QK (QH I V6 JF)<|QK (JA (n:=(el tb i.i).l.n) ((i2.k)*2+0) (λF h9=>(h9.1.1.q _ hem).2.row) O rfl JF (JN (f:=LP) (l:=(lV (el tb i.i).ll)) uh O rfl))<|QR I (λ_ _ f h=>QHM (x:=(el (lV (el tb i.i).ll) i2.k).2) (y:=(el (lV (el tb i.i).ll) i2.k).1) f (tD hz2.2) (tD hz2.1)) λ_=>?_
   refine QR I (λ_ _ f h=>C4 (x:=wdF ((lV (el tb i.i).ll).take i2.k)) (y:=((el (lV (el tb i.i).ll) i2.k).2-(el (lV (el tb i.i).ll) i2.k).1)) f O (by have:=BX (el (lV (el tb i.i).ll) i2.k).2 (el (lV (el tb i.i).ll) i2.k).1;have:=hz2.1;have:=hz2.2;omega)) (λ_=>QK (QF I)<|Q7<|Qj<|wE 3 I<|QA (Qu I I O)<|wB 2 I ?_);exact Ql (⟨i2.k+1,hlt2⟩) (by show(lV (el tb i.i).ll).length-(i2.k+1)<(lV (el tb i.i).ll).length-i2.k;omega) ⟨rfl,rfl,rfl,(congrArg (λq=>some (tx (JP q))) (by rw[Xka hlt2,QGV])),rfl,trivial⟩ we λF h=>⟨h.1.1.1,trivial⟩
  have hge2:(lV (el tb i.i).ll).length<=i2.k:=by rw[Yg,(hx2 _ hem).2];have:=wj hc2;omega
  refine Qx ?_
  repeat first|refine QY ?_|refine QO tH ?_
  refine QZ<|wE 4 I<|Qb I (Q5 YG) JF Im I I λb46=>?_
  refine Z4 (bs1:=[]) (ob:=i.ob) (n:=i.i) (k:=1) (sz:=1) (news:=[tx (JP (wdF ((lV (el tb i.i).ll).take i2.k)))]) I I YG JF Im I QDD i.hr (Src.row (off:=0) tO (λj q hq=>by rw[aF];rw[aG];exact hq) rfl) O O (λv hv=>by rw[List.mem_singleton.1 hv];rfl) (λv47 ob47 hr47=>?_);refine wB 2 I<|Qj<|wE 3 I<|QA (Qu I I O)<|wB 2 I ?_
  exact Ql (i.next (by rw[Xih];exact hlt) (x:=wdF ((lV (el tb i.i).ll).take i2.k)) (by rw[Xlm hlt,aj hge2]) hr47) (by show tb.length-(i.i+1)<tb.length-i.i;omega) wu we λF h=>⟨h.1.1.1,trivial⟩
 have hge:tb.length<=i.i:=tD<|wj hc2
 refine Qx ?_
 repeat first|refine QY ?_|refine QO tH ?_
 refine QZ<|wE 3 I ?_
 obtain⟨⟨rq,rn,rc⟩,hv2,hrn,hrc,hfix⟩:=Q8.fix (w0:=w) (F0:=F) (bs1:=[]) (G:=_) i.hr;dsimp only at hrn hrc hfix;subst hrn;refine Zj hfix ?_;rw[hv2];dsimp only[Sr.v];refine wD 5 I ?_;exact QP ((⟨rq,i.i,rc⟩:Sr)) I (wT I) (rfl) λF ⟨⟨hx,_⟩,hrow⟩=>(by have e:i.i=(Xie tb).length:=(by rw[Xih];omega);exact⟨by have h9:=hrow;rw[e,av]at h9;rw[e];exact h9,e,hrc⟩)
def Xhb(h:y.e=0->y.rt.n=y.nm.n):Qs [y.e,Dz y.nm.n tb]=Xf7 y tb:=by
 unfold Xf7;by_cases g:y.e=0
 ·rw[if_neg (by rw[g];decide),g,Zn,QCD,h g]
 rw[if_pos g,Zf g]
theorem Xlo(h:∀s∈l,Xd s.1 s.2=0/\s.1.length<=40/\s.2.length<=40):Jh (wdF (lV l))=false:=by
 have h1:∀a∈lV l,Xf a 160:=λa ha=>by
  obtain⟨s,hs,rfl⟩:=List.mem_map.1 ha;have h2:=h s hs;have h3:=Ku h2.1;exact⟨OU h3.1 (k:=40) tF h2.2.1,OU h3.2.1 (k:=40) tF h2.2.2⟩
 have h4:=Xln h1 _ (aD _);rw[av]at h4;exact cW h4 tF
def Xh1(hs:Xdo tb=true)(ho:QHw n tb):∀b∈tb,Ts b.wl=true/\Ts b.ll=true/\b.e.length<=14:=λb hb=>by
 unfold Xdo at hs;rw[aA,ay]at hs;have h1:stN tb.length=false:=by simpa using hs.1
 unfold stN at h1;simp only[ai,aH,decide_eq_false_iff_not]at h1;have hl:=ho.len;rw[aj O]at hs;have h:=hs.2 b hb;simp only[stX,aJ,ai,au]at h;obtain⟨⟨h1,h2⟩,h3⟩:=h;exact⟨h2,h3,by unfold cT at h1;simp at h1;omega⟩
theorem Xlx(hs:Xdo tb=true)(ho:QHw n tb):(Xie tb).any Jh=false:=by
 cases e:(Xie tb).any Jh with
 |false=>rfl
 |true =>
  obtain⟨x,hx,k⟩:=List.any_eq_true.1 e;obtain⟨b,hb,rfl⟩:=List.mem_map.1 hx;obtain⟨i,hi,rfl⟩:=aq hb;have h1:=AY (Xh1 hs ho _ hb).2.1;have h2:=(XZ (ho.l i hi)).2;rw[Jb hi]at h2;rw[Xlo λs hs=>⟨h2 s hs,h1.2 s hs⟩]at k;cases k
def Xm1{t:List UInt8}(h:cT [t]=false):t.length<=14:=by unfold cT at h;simp at h;omega
theorem Xm3{t:Rat}{L:List (List UInt8×List UInt8)}(h:atT tb t=some L):∃b∈tb,L=b.ll\/L=b.wl:=by
 induction tb with
 |nil=>cases h
 |cons b tb ih =>
  unfold atT at h;split at h
  ·exact⟨b,.head _,.inl (aI h).symm⟩
  split at h
  ·exact⟨b,.head _,.inr (aI h).symm⟩
  obtain⟨c,hc,k⟩:=ih h;exact⟨c,.tail _ hc,k⟩
theorem Xm2{t:Rat}{L:List (List UInt8×List UInt8)}(hy:X4 F y)(hys:vF y)(ho:QHw y.nm.n tb)(h:atV y tb t=some L):L.length<=1000000:=by
 have h1:=hys.n1;unfold atV at h;split at h
 ·cases h
 split at h
 ·rw[<-aI h];have:=hys.sn;have:=hy.P0;omega
 obtain⟨b,hb,k⟩:=Xm3 h;obtain⟨i,hi,rfl⟩:=aq hb;rw[<-Jb hi]at k;rcases k with rfl | rfl
 ·rw[(XZ (ho.l i hi)).1];omega
 rw[(XZ (ho.w i hi)).1];omega
theorem Xlu{r:Sr}{t:List UInt8}(hF:Fits F w)(hGl:JE F)(hy:X4 F y)(hl:vG y)(hx:IF F r tb)(hn:r.n<=9223372036854775807)(hz:∀b∈tb,b.w.n<=9223372036854775807/\b.l.n<=9223372036854775807):Qf prog 13 [y.v,r.v,tx t] w F (.bool true):=by
 have hxr:=hx.len;have hfe:Qs [y.e,Dz y.nm.n tb]=Xf7 y tb:=Xhb λh=>(hy.ok h).rn;have hbl:∀b∈tb,b.wl.length=b.w.n/\b.ll.length=b.l.n:=λb hb=>⟨(hx.bx b hb).1.len,(hx.bx b hb).2.len⟩;have hyo:=hy.ok;have hsl:=hy.P0;refine QU.intro (G:=λF=>JE F/\X4 F y/\IF F r tb) func13 rfl tH rfl rfl hF (λF' hF'=>⟨hGl.le hF',hy.le hF',hx.le hF'⟩)<|wa<|Qp rfl (vs:=[_,_,_]) rfl λb3=>wZ rfl<|QG ?_
 refine ZZ [(1,_),(2,_),(3,_)] [(27,.bool ((Ff y 3||!(Xdo tb)||cT [t])))] wu ?_ ?_
 ·refine QB<|QA (wO I J6 .here)<|QI I (λ_ _ f k=>QFF (y:=y) f k.1 k.2.1 hl) λ_=>wW I ?_
  refine Qn (t:=18) rfl (λhb18=>?_) λhb18=>?_
  ·refine wB 10 I ?_;exact JY ⟨rfl,rfl,rfl,(congrArg (λb=>some (ae b)) (by rw[hb18];rfl)),trivial⟩ we tN
  refine wB 3 I<|QI I (λ_ _ f k=>Xgm f k.1.2.2 hn hz) λ_=>QL I I<|QA (XL I)<|wB 2 I ?_
  refine Qn (t:=23) rfl (λhb23=>?_) λhb23=>?_
  ·refine wB 5 I ?_;exact JY ⟨rfl,rfl,rfl,(congrArg (λb=>some (ae b)) (by rw[hb18,hb23];rfl)),trivial⟩ we λ_ h=>h.1.1
  refine wB 3 I<|Qb I (Q5 YG) JF Im I I λb25=>QL I I<|QI I (λ_ _ f k=>QGb (l:=[t]) f (Qy.of (n:=1) (sz:=1) (cs:=[t].map tx) k.2 I) rfl tF) λ_=>wB 2 I ?_
  exact JY ⟨rfl,rfl,rfl,(congrArg (λb=>some (ae b)) (by rw[hb18,hb23];rfl)),trivial⟩ we λ_ h=>h.1.1.1.1
 simp only[aa,ab];refine QQ I (λhc2=>?_) λhc2=>?_
 ·refine wa<|QI I (λ_ _ f k=>CX f k.1) λ_=>wD 4 I ?_
  exact wg I I (rfl) tL
 have hnot:Ff y 3=false/\Xdo tb=true/\cT [t]=false:=by
  simp only[ai,au]at hc2;exact⟨hc2.1.1,hc2.1.2,hc2.2⟩
 obtain⟨hg1,hst,hlo⟩:=hnot;have ht:GJ y:=hl.ts (yQ hg1).1;have hc:QCR r tb:=Xh2 hxr hbl hst;have htl:=Xm1 hlo;refine wC 4 I<|QA (wO I J6 .here)<|wB 2 I<|QI I (λ_ _ f k=>Xm6 (y:=y) f k.1 k.2.1 ht k.2.2 hc O) λc33=>wD 9 I<|QA (wO I J6 .here)<|wW I<|QI I (λ_ _ f k=>Xm0 (y:=y) f k.1.1 k.1.2.1 ht k.1.2.2 hc) λc39=>wB 5 I ?_
 refine wY<|wa<|QA (wO I J6 .here)<|wW I<|QI I (λ_ _ f k=>Xlk (y:=y) f k.1.1.1 k.1.1.2.1 ht k.1.1.2.2 hc) λc45=>wD 9 I<|QA (wO I J6 .here)<|wW I<|QI I (λ_ _ f k=>Xgn (y:=y) f k.1.1.1.1 k.1.1.1.2.1 ht k.1.1.1.2.2 hc) λ_=>wD 6 I ?_
 refine wD 4 I ?_;refine QQ I (λhc2=>?_) λhc2=>?_
 ·have h52:Xf7 y tb≠0:=bne_iff_ne.1 hc2;have hat:atR (atE y tb t) (atV y tb (Qz t))=([],Xf7 y tb):=by
   have e:atE y tb t=Xf7 y tb:=by unfold atE;rw[hfe,Zf h52]
   rw[e,Xl8 h52]
  refine XV _ (λw F hF ⟨⟨⟨⟨⟨hGl,hy,hx⟩,h33⟩,h39⟩,h45⟩,_⟩=>aQ (show Ks F c33 [] by rw[hat]at h33;exact h33).len (aQ (show QxR F c39 [] by have e:rnR (Qs [y.e,Dz y.nm.n tb]) (Xii y.vs tb)=[]:=(by unfold rnR;rw[hfe,if_pos h52]);rw[e]at h39;exact h39).len (show NxR F c45 [] by rw[hfe,zS h52]at h45;exact h45).2.1)) (λhnn=>?_);obtain⟨n33,n39,n45⟩:=hnn;have n33:c33.n=0:=n33.symm;have n39:c39.n=0:=n39.symm;have n45:c45.n=0:=n45;refine wb I<|QA (Qg I XF)<|wW I<|QA (Qg I XF)<|QA (Qu I I O)<|wW I<|QA (Qg I YG)<|QA (Qu I I O) ?_
  rw[n33,n39,n45];refine QA (QT (v:=.bool true) rfl rfl (rfl))<|wB 6 I ?_
  rw[hat];refine QA (QT (v:=.bool true) rfl rfl (eqI8 _))<|wB 7 I ?_
  rw[hfe];refine QA (QT (v:=.bool true) rfl rfl (eqI8 _))<|wB 7 I ?_
  rw[zS h52];refine QA (QT (v:=.bool true) rfl rfl (eqI8 _))<|wB 3 I<|QI I (λ_ _ f k=>CX f k.1.1.1.1.1) λ_=>wD 5 I ?_
  exact wg I I (rfl) tL
 have h52:Xf7 y tb=0:=bne_eq_false_iff_eq.1 hc2;have hte:Qs [y.e,Dz y.nm.n tb]=0:=by rw[hfe,h52]
 have hye:y.e=0:=Q9 hte _ (.head _);have ho:=gA (Q9 hte (Dz y.nm.n tb) (.tail _ (.head _)));have hys:=hyo hye;have hn1:=hys.n1;have hgy:GdB y.nm.n y.vs:=.of (by unfold YZ;rw[if_neg (tD hys.sn)];exact Xij λx hx=>by obtain⟨s,hs,rfl⟩:=List.mem_map.1 hx;exact hys.st s hs);have hgr:=Xkb hgy ho tb.length (aD _);rw[av]at hgr;have hrn:rnR (Qs [y.e,Dz y.nm.n tb]) (Xii y.vs tb)=Xii y.vs tb:=by unfold rnR;rw[hte,if_neg tF]
 have hnu0:uU 0 (Xie tb)=(0,(Xie tb)):=by rw[S9,Xlx hst ho];rfl
 refine XV _ (λw F hF ⟨⟨⟨⟨⟨hGl,hy,hx⟩,h33⟩,h39⟩,h45⟩,_⟩=>(show QxR F c39 (Xii y.vs tb) by rw[hrn]at h39;exact h39).len) (λhn39=>?_);rw[hgr.len]at hn39;have hec:∀b∈tb,Jp b.e=0:=λb hb=>by obtain⟨i,hi,rfl⟩:=aq hb;rw[<-Jb hi];exact ho.e i hi
 refine wC 6 I ?_;rw[hte];refine QA (QT (v:=.bool false) rfl rfl (rfl))<|wB 4 I<|QA (wO I J6 .here)<|wB 3 I<|QI I (λ_ _ f k=>Xlr (n:=y.nm.n) f k.1.1.1.1.2.1 hgy hys.st ht.sn (k.1.1.1.1.2.2.q ho) hc.n ho) λc86=>QL I I<|QI I (λ_ F f k=>YC f (show QxR F c39 (Xii y.vs tb)from k.1.1.1.2).CW k.2.CW O rfl) λ_=>QL I I<|QA (XL I)<|wB 5 I ?_
 rw[hnu0];refine QA (QT (v:=.bool false) rfl rfl (rfl))<|wB 7 I<|QI I (λ_ _ f k=>Xl9 f (k.1.1.1.1.1.1.2.2.q ho) hc.n O ho) λc97=>QL I I<|QI I (λ_ F f k=>Pd (ra:=c45) (rb:=c97) (la:=(Xie tb).map JP) (lb:=(Xie tb).map JP) f (show NxR F c45 (Xie tb)from k.1.1.1.1.2).1 k.2.1 (by rw[ak];exact(show NxR F c45 (Xie tb)from k.1.1.1.1.2).2.1.symm) (by rw[ak];exact k.2.2.1.symm) (by rw[(show NxR F c45 (Xie tb)from k.1.1.1.1.2).2.1,Xih];have:=ho.len;omega) rfl) λ_=>QL I I<|QA (XL I)<|wD 3 I<|Yj I<|wC 6 I<|QI I (λ_ _ f k=>vN f O) λ_=>wX I ?_
 refine wD 8 I ?_;refine QQ I (λhc2=>?_) λhc2=>?_
 ·have h104:=bne_iff_ne.1 hc2;have hat:atR (atE y tb t) (atV y tb (Qz t))=([],Jp t):=by
   have e:atE y tb t=Jp t:=by unfold atE;rw[hte,Zn,QCD]
   rw[e,Xl8 h104]
  refine XV _ (λw F hF ⟨⟨⟨⟨⟨⟨⟨⟨⟨⟨hGl,hy,hx⟩,h33⟩,h39⟩,h45⟩,_⟩,h86⟩,_⟩,h97⟩,_⟩,_⟩=>(show Ks F c33 [] by rw[hat]at h33;exact h33).len) (λn33=>?_);have n33:c33.n=0:=n33.symm;refine wb I<|QA (Qg I XF) ?_
  rw[n33];refine QA (QT (v:=.bool true) rfl rfl (rfl))<|wB 6 I ?_
  rw[hat];refine QA (QT (v:=.bool true) rfl rfl (eqI8 _))<|wB 3 I<|QI I (λ_ _ f k=>CX f k.1.1.1.1.1.1.1.1.1.1) λ_=>wD 5 I ?_
  exact wg I I (rfl) tL
 have h104:=bne_eq_false_iff_eq.1 hc2;have hae:atE y tb t=0:=by unfold atE;rw[hte,Zn,QCD,h104]
 refine wC 4 I<|QA (wO I J6 .here)<|wB 2 I<|QI I (λ_ _ f k=>Xm5 (y:=y) f k.1.1.1.1.1.1.1.1.1.2.1 k.1.1.1.1.1.1.1.1.1.2.2 hc.n hec h104) λc120=>wD 11 I<|QA (XL I)<|QE<|QC ?_
 refine QQ I (λhc2=>?_) λhc2=>?_
 ·have hO:(atV y tb (Qz t))=none:=by
   cases e:(atV y tb (Qz t))with
   |none=>rfl
   |some l=>rw[e]at hc2;cases hc2
  have hat:atR (atE y tb t) (atV y tb (Qz t))=([],3):=by rw[hae,hO];rfl
  refine XV _ (λw F hF ⟨⟨⟨⟨⟨⟨⟨⟨⟨⟨⟨hGl,hy,hx⟩,h33⟩,h39⟩,h45⟩,_⟩,h86⟩,_⟩,h97⟩,_⟩,_⟩,h120⟩=>(show Ks F c33 [] by rw[hat]at h33;exact h33).len) (λn33=>?_);have n33:c33.n=0:=n33.symm;refine wb I<|QA (Qg I XF) ?_
  rw[n33];refine QA (QT (v:=.bool true) rfl rfl (rfl))<|wB 4 I ?_
  rw[hat];refine QA (QT (v:=.bool true) rfl rfl (rfl))<|wB 3 I<|QI I (λ_ _ f k=>CX f k.1.1.1.1.1.1.1.1.1.1.1) λ_=>wD 5 I ?_
  exact wg I I (rfl) tL
 obtain⟨L,hL⟩:∃L,(atV y tb (Qz t))=some L:=by
  cases e:(atV y tb (Qz t))with
  |none=>rw[e]at hc2;cases hc2
  |some l=>exact⟨l,rfl⟩
 have hat:atR (atE y tb t) (atV y tb (Qz t))=(L,0):=by rw[hae,hL];rfl
 have hLl:L.length<=1000000:=Xm2 hy hys ho hL;refine XV _ (λw F hF ⟨⟨⟨⟨⟨⟨⟨⟨⟨⟨⟨hGl,hy,hx⟩,h33⟩,h39⟩,h45⟩,_⟩,h86⟩,_⟩,h97⟩,_⟩,_⟩,h120⟩=>(show Ks F c33 L by rw[hat]at h33;exact h33).len) (λn33=>wC 5 I ?_);rw[hat];refine QA (QT (v:=.bool true) rfl rfl (rfl))<|wB 6 I<|QI I (λw F hF ⟨⟨⟨⟨⟨⟨⟨⟨⟨⟨⟨hGl,hy,hx⟩,h33⟩,h39⟩,h45⟩,_⟩,h86⟩,_⟩,h97⟩,_⟩,_⟩,h120⟩=>YC (la:=L) hF (show Ks F c33 L from h33) (by have h9:=h120;rw[hL]at h9;exact h9) O rfl) λ_=>wB 3 I<|QI I (λ_ _ f k=>CX f k.1.1.1.1.1.1.1.1.1.1.1.1) λ_=>wD 5 I ?_
 exact wg I I (rfl) tL
end Go.Proofs.YtjcphjpkimmmjaaGreatDoor
