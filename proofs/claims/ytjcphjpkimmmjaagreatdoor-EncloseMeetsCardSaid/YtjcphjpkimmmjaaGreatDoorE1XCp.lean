/- Steps of the proof of the theorem in the last file. -/
import Derived.Test.YtjcphjpkimmmjaaGreatDoorE0XCp
set_option linter.all false
set_option maxHeartbeats 4000000
open Go.Proofs.Tryz
open Nat renaming le_trans → aa,zero_le → ar,zero_add → aC,not_lt_zero → aN
open Go.Value renaming bool → ab,int → ak,okWide → aP
open List renaming cons_append → ae,nil_append → af,length_range → ag,length_map → ah,range → ai,getElem?_toArray → ao,length_take → au,all_eq_true → ay,range_succ → aE,not_mem_nil → aF,map_append → aG,mem_cons → aI,getElem_of_mem → aK,all_append → aM,map → aO,map_map → aQ
open Bool renaming not_not → aj,or_eq_false_iff → aq,not_eq_false' → av,and_eq_true → aA,true_and → aB,and_eq_false_iff → aJ,not_eq_true' → aL
open Go.DataW renaming trod → ax,Trod → aR
open List.cons renaming inj → aD
open List.Sublist renaming refl → aH
open Array renaming ext' → aS
namespace Go.Proofs.YtjcphjpkimmmjaaGreatDoor
variable{l:List (List UInt8×List UInt8)}{w:World}{F:Gs}{y:Xz}{i n:Nat}{ta tb:List Wl}{b:Wl}{ra rb:Sr}
open Go.RowKit Ig
def AZ(s:List UInt8×List UInt8):Bool:=!(decide ((s.1.length:Int)>40)||decide ((s.2.length:Int)>40))
def Ts(l:List (List UInt8×List UInt8)):Bool:=l.all AZ&&decide (l.length<=30)
def AY(h:Ts l=true):l.length<=30/\∀s∈l,s.1.length<=40/\s.2.length<=40:=by
 unfold Ts at h;rw[aA,ay,decide_eq_true_eq]at h;refine⟨h.2,λs hs=>?_⟩;have:=h.1 s hs;unfold AZ at this;simp at this;omega
theorem gW{n:Nat}{r:Sr}(hF:Fits F w)(hx:Ks F r l)(hc:BS r l):Qf prog 31 [.int .i64 (n:Int),r.v] w F (.int .i64 (YZ n l)):=by
 have hl:=hx.len;have hn:=hc.n;refine QU.intro (G:=λF=>Ks F r l) func31 rfl tH rfl rfl hF (λF' hF'=>hx.le hF')<|wa<|wZ rfl<|QG<|wb rfl<|QA (Qg rfl XF)<|wW rfl<|QA (QT rfl rfl rfl)<|QE<|QC ?_
 refine QQ I (λhc2=>?_) λhc2=>?_
 ·have h8:=bne_iff_ne.1 hc2;refine wA 6 I ?_;exact wg I I (congrArg (ak .i64) (by unfold YZ;rw[if_pos O])) tL
 have h8:=bne_eq_false_iff_eq.1 hc2;refine wC 5 I<|QI I (λ_ _ f k=>jG f k.row ⟨hl,hc.t⟩ hn) λ_=>wD 4 I ?_
 exact wg I I (congrArg (ak .i64) (by unfold YZ;rw[if_neg O])) tL
theorem um{r:Sr}(hF:Fits F w)(hx:Ks F r l)(hn:r.n<=9223372036854775807):Qf prog 24 [r.v] w F (.bool (Ts l)):=by
 have hl:=hx.len;refine QU.intro (G:=λF=>Ks F r l) func24 rfl tH rfl rfl hF (λF' hF'=>hx.le hF')<|wa<|wZ rfl<|QG<|wa<|wZ rfl<|QV<|J9 (ι:=Wo l AZ) [(0,_)] (λi=>[(3,.int .i64 ((i.i:Nat):Int))]) (λi=>l.length-i.i) (Wo.start _ _) wk wk λi=>?_
 simp only[ae,af];have hi:=i.le;refine wA 5 I<|QA (Qg I XF)<|wD 3 I ?_
 refine QQ I (λhc2=>?_) λhc2=>?_
 ·have hlt:i.i<l.length:=tD<|wi hc2
  have hem:=Qw hlt;refine wC 4 I ?_;refine ZZ [(0,_),(3,_)] [(25,.bool (!(AZ (el l i.i))))] wm ?_ ?_
  ·refine wA 3 I<|QA (Q3 (n:=r.n) i.i (λF hx=>hx.row) rfl rfl XF Jd O)<|QA (QH I V6 JF)<|QA (JA (n:=r.n) ((i.i)*2+0) (λF hx=>hx.row) O rfl JF (JN (f:=NU) (l:=l) K1 O rfl))<|QA (Xc I Bw)<|wB 2 I ?_
   refine Qn (t:=17) rfl (λhb17=>?_) λhb17=>?_
   ·refine wB 9 I ?_;exact JY ⟨rfl,rfl,(congrArg (λb=>some (ab b)) (by unfold AZ;rw[aj,hb17];rfl)),trivial⟩ we tM
   refine wB 5 I<|QA (Q3 (n:=r.n) i.i (λF hx=>hx.row) rfl rfl XF Jd O)<|QL I I<|QA (QH I We JF)<|QL I I<|QA (JA (n:=r.n) ((i.i)*2+1) (λF hx=>hx.row) O rfl JF (JN (f:=NU) (l:=l) K1 O rfl))<|QL I I<|QA (Xc I Bw)<|wB 4 I ?_
   exact JY ⟨rfl,rfl,(congrArg (λb=>some (ab b)) (by unfold AZ;rw[aj,hb17];rfl)),trivial⟩ we tM
  simp only[ae,af];refine QQ I (λhc2=>?_) λhc2=>?_
  ·have h25:AZ (el l i.i)=false:=by simpa using hc2
   refine wA 6 I ?_
   repeat first|refine Q6 ?_|refine Qv ?_
   exact wg I I (congrArg ab (by unfold Ts;rw[i.hit hlt h25];rfl)) tL
  have h25:AZ (el l i.i)=true:=by simpa using hc2
  refine QN<|Qj<|wE 3 I<|QA (Qu I I O)<|wB 2 I ?_
  exact Ql (i.next hlt h25) (by show l.length-(i.i+1)<l.length-i.i;omega) wm we tM
 have hge:l.length<=i.i:=tD<|wj hc2
 refine Qx ?_
 repeat first|refine QY ?_|refine QO tH ?_
 refine QZ<|wE 4 I<|QA (Qg I XF)<|wD 5 I ?_
 exact wg I I (congrArg ab (by unfold Ts;rw[i.stop hge,aB,hl];exact decide_eq_decide.2 O)) tL
structure vG(y:Xz):Prop where
 nn:y.nm.n<=9223372036854775807
 nc:y.nm.n<=y.nm.cap
 nt:∀s∈y.nl,s.length<=9223372036854775807
 rn:y.rt.n<=9223372036854775807
 sn:y.st.n<=9223372036854775807
 rl:∀e∈y.rl,e.2.length=e.1.n/\e.1.n<=9223372036854775807/\∀t∈e.2,t.k.length=t.r.n
def shT(t:V0):Bool:=!(decide ((t.r.n:Int)>30)||decide ((t.f.length:Int)>30))
def shP(e:NQ):Bool:=!(decide ((e.1.n:Int)>70))&&e.2.all shT
def shN(y:Xz):Bool:=decide ((y.nm.n:Int)>30)||decide ((y.rt.n:Int)>30)||decide ((y.st.n:Int)>30)
def shS(y:Xz):Bool:=!(shN y)&&(y.rl.all shP&&y.sl.all AZ)
structure QId(y:Xz):Prop where
 n:y.nm.n<=30/\y.rt.n<=30/\y.st.n<=30
 r:∀e∈y.rl,e.1.n<=70/\∀t∈e.2,t.r.n<=30/\t.f.length<=30
 s:∀s∈y.sl,s.1.length<=40/\s.2.length<=40
def QHL{s:List UInt8×List UInt8}(h:AZ s=true):s.1.length<=40/\s.2.length<=40:=by
 unfold AZ at h;simp at h;omega
def QIJ(h:shS y=true):QId y:=by
 unfold shS at h;simp only[aA,ay]at h;obtain⟨h1,h2,h3⟩:=h;refine⟨?_,λe he=>?_,λs hs=>QHL (h3 s hs)⟩
 ·unfold shN at h1;simp at h1;omega
 have:=h2 e he;unfold shP at this;simp only[aA,ay]at this;refine⟨by have:=this.1;simp at this;omega,λt ht=>?_⟩;have h4:=this.2 t ht;unfold shT at h4;simp at h4;omega
theorem vG.t(h:vG y)(k:QId y):GJ y :=
 ⟨tD k.n,h.nc,h.nt,tD k.n,λe he=>⟨(h.rl e he).1,λt ht=>⟨tD<|(k.r e he).2 t ht,by rw[(h.rl e he).2.2 t ht];have:=(k.r e he).2 t ht;omega⟩,by rw[(h.rl e he).1];have:=(k.r e he).1;omega⟩,tD k.n,λs hs=>tD<|k.s s hs⟩
def vG.ts(h:vG y)(k:shS y=true):GJ y:=h.t (QIJ k)
def yX(y:Xz)(v g:Int):Bool:=!(!(shS y)||(y.e != 0)||decide ((y.rt.n:Int)>v)||(!(decide ((y.st.n:Int)<=v)&&y.sl.all (cx g))&&decide ((y.st.n:Int)>0)))
def pT(y:Xz)(v d g:Int):Bool:=yX y v g&&y.rl.all λe=>fpB (ZX e.2) (y.rt.n:Int) 4 d g
def QFQ{v g:Int}(h:yX y v g=true):shS y=true/\y.e=0/\(y.rt.n:Int)<=v/\(y.st.n=0\/((y.st.n:Int)<=v/\∀s∈y.sl,cx g s=true)):=by
 unfold yX at h;simp only[aL,aq,av,bne_eq_false_iff_eq,decide_eq_false_iff_not]at h;obtain⟨⟨⟨h1,h2⟩,h3⟩,h4⟩:=h;refine⟨by simpa using h1,h2,O,?_⟩;by_cases g:y.st.n=0
 ·exact .inl g
 right;have:decide ((y.st.n:Int)>0)=true:=decide_eq_true O;rw[this,Bool.and_true]at h4;simp only[av,aA,decide_eq_true_eq,ay]at h4;exact h4
def gK{nl:List (List UInt8)}{rl:List Pt}{sl:List (List UInt8×List UInt8)}(h1:nl.length≠0)(h2:¬nl.length>24)(h3:rl.length=nl.length/\sl.length=nl.length):Bz nl rl sl=Qs [DX nl,Qs (rl.map λp=>Zh p nl.length),Qs (sl.map λs=>Xd s.1 s.2)]:=by
 unfold Bz;rw[if_neg h1,if_neg h2,if_neg O]
theorem QHP{q:Option Addr}{c:Nat}{l:List (List UInt8)}{v:List UInt8}(hF:Fits F w)(hR:Qy F q n 1 (l.map tx))(hn:l.length=n)(hb:n<=1000000000):Qf prog 211 [.slice q n c,tx v] w F (.bool (decide (v∈l))):=by
 refine QU.intro (G:=λF=>Qy F q n 1 (l.map tx)) func211 rfl tH rfl rfl hF (λF' hF'=>hR.le hF')<|wa<|wZ rfl<|QG<|wa<|wZ rfl<|QV<|J9 (ι:=NoI l v) [(0,_),(1,_)] (λi=>[(5,.int .i64 ((i.i:Nat):Int))]) (λi=>l.length-i.i) (⟨0,ar _,λj h=>absurd h (aN _)⟩) wm wk λi=>?_
 simp only[ae,af];have hi:=i.le;refine wA 5 I<|QA (Qg I Kw)<|wD 3 I ?_
 refine QQ I (λhc2=>?_) λhc2=>?_
 ·have hlt:i.i<l.length:=tD<|wi hc2
  have hem:=Qw hlt;refine wC 8 I<|QA (Q3 (n:=n) i.i tM rfl rfl Kw Du O)<|QA (JA (n:=n) ((i.i)*1) tM O rfl Du (XT (f:=tx) (l:=l) O))<|wW I<|QA (VE I I)<|QE<|QC ?_
  refine QQ I (λhc2=>?_) λhc2=>?_
  ·have h17:el l i.i=v:=eq_of_beq hc2;refine wA 6 I ?_
   repeat first|refine Q6 ?_|refine Qv ?_
   exact wg I I (congrArg ab (decide_eq_true (by rw[<-h17];exact hem))) tL
  have h17:¬el l i.i=v:=by simpa using hc2
  refine QN<|Qj<|wE 3 I<|QA (Qu I I O)<|wB 2 I ?_
  exact Ql (⟨i.i+1,hlt,λj hj=>by rcases Nat.lt_succ_iff_lt_or_eq.1 hj with h | rfl;exact i.h j h;exact h17⟩) (by show l.length-(i.i+1)<l.length-i.i;omega) wu we tM
 have hge:l.length<=i.i:=tD<|wj hc2
 refine Qx ?_
 repeat first|refine QY ?_|refine QO tH ?_
 refine QZ<|wE 7 I ?_
 exact wg I I (congrArg ab (decide_eq_false (i.stop hge))) tL
theorem QHS{q:Option Addr}{c:Nat}{l:List (List UInt8)}{v:List UInt8}(hF:Fits F w)(hR:Qy F q n 1 (l.map tx))(hn:l.length=n)(hb:n<=1000000000):Qf prog 117 [.slice q n c,tx v] w F (.bool (decide (v∈l))):=by
 refine QU.intro (G:=λF=>Qy F q n 1 (l.map tx)) func117 rfl tH rfl rfl hF (λF' hF'=>hR.le hF')<|wa<|wZ rfl<|wb rfl<|wW rfl<|QI rfl (λ_ _ f k=>QHP f k hn hb) λ_=>wZ rfl<|QX ?_
 exact wg I I (rfl) tL
theorem QA3(hF:Fits F w)(hGl:JE F)(hy:X4 F y)(ht:GJ y):Qf prog 26 [y.v] w F (.int .i64 y.e):=by
 obtain⟨⟨qn,nn,cn⟩,nl,⟨qr,nr,cr⟩,rl,⟨qs,ns,cs⟩,sl⟩:=y;have hnl:=hy.jL;have hrl:=hy.Ka;have hsl:=hy.P0;have hnn:=ht.nn;have hrn:=ht.rn;have hsn:=ht.sn;dsimp only at *
 dsimp only[Xz.v];refine QU.intro (G:=λF=>JE F/\X4 F ⟨⟨qn,nn,cn⟩,nl,⟨qr,nr,cr⟩,rl,⟨qs,ns,cs⟩,sl⟩) func26 rfl tH rfl rfl hF (λF' hF'=>⟨hGl.le hF',hy.le hF'⟩)<|wa<|Qp rfl (vs:=[_,_,_]) rfl λb1=>wZ rfl<|wa<|QA (QH rfl Hj VU)<|QA (Qe rfl VU .here .h1)<|QA (Qg rfl Kw)<|wZ rfl<|QG<|wb rfl<|QA (QT rfl rfl rfl)<|QE<|QC ?_
 refine QQ I (λhc2=>?_) λhc2=>?_
 ·have h11:nl.length=0:=by have:(nn:Int)=0:=eq_of_beq hc2;omega
  refine wA 6 I ?_;exact wg I I (congrArg (ak .i64) (by show Bz nl (rl.map λe=>ZX e.2) sl=12;unfold Bz;rw[if_pos h11])) tL
 have h11:nl.length≠0:=by have:¬(nn:Int)=0:=(by simpa using hc2);omega
 refine wC 9 I ?_;refine QQ I (λhc2=>?_) λhc2=>?_
 ·have h13:nl.length>24:=tD<|wi hc2
  refine wA 6 I ?_;exact wg I I (congrArg (ak .i64) (by show Bz nl (rl.map λe=>ZX e.2) sl=5;unfold Bz;rw[if_neg h11,if_pos h13])) tL
 have h13:¬nl.length>24:=tD<|wj hc2
 refine wC 3 I ?_;refine ZZ [(1,_),(3,_)] [(25,.bool (((nr:Int) != nn||(ns:Int) != nn)))] wm ?_ ?_
 ·refine QB<|QA (QH I VY Z6)<|QA (Qe I Z6 .here (.skip .h1))<|QA (Qg I VJ)<|wB 3 I ?_
  refine Qn (t:=19) rfl (λhb19=>?_) λhb19=>?_
  ·refine wB 7 I ?_;exact JY ⟨rfl,rfl,(congrArg (λb=>some (ab b)) (by rw[hb19];rfl)),trivial⟩ we tM
  refine QL I I<|QA (QH I YM J0)<|QL I I<|QA (Qe I J0 .here (.skip (.skip .h1)))<|QL I I<|QA (Qg I XF)<|wB 6 I ?_
  exact JY ⟨rfl,rfl,(congrArg (λb=>some (ab b)) (by rw[hb19];rfl)),trivial⟩ we tM
 simp only[ae,af];refine QQ I (λhc2=>?_) λhc2=>?_
 ·have h25:(rl.map λe=>ZX e.2).length≠nl.length\/sl.length≠nl.length:=by simp only[Bool.or_eq_true,bne_iff_ne]at hc2;rw[ah];omega
  refine wA 6 I ?_;exact wg I I (congrArg (ak .i64) (by show Bz nl (rl.map λe=>ZX e.2) sl=2;unfold Bz;rw[if_neg h11,if_neg h13,if_pos h25])) tL
 have h25:(rl.map λe=>ZX e.2).length=nl.length/\sl.length=nl.length:=by simp only[aq,bne_eq_false_iff_eq]at hc2;rw[ah];omega
 have h25r:rl.length=nl.length:=by rw[<-h25.1,ah]
 refine wC 9 I<|J9 (ι:=X7 (ai nl.length) (EL nl)) [(1,_),(3,_)] (λi=>[(4,.int .i64 ((i.i:Nat):Int))]) (λi=>nl.length-i.i) (X7.start _ _) wm wk λi=>?_
 simp only[ae,af];have hi:=i.le;rw[ag]at hi;refine wA 8 I ?_;refine QQ I (λhc2=>?_) λhc2=>?_
 ·have hlt:i.i<nl.length:=tD<|wi hc2
  have hem:=Qw hlt;refine wC 7 I<|QA (QH I Hj VU)<|QA (Qe I VU .here .h1)<|wW I<|QA (Q3 (n:=nn) i.i (λF h9=>h9.2.nm) rfl rfl Kw Du O)<|QA (JA (n:=nn) ((i.i)*1) (λF h9=>h9.2.nm) O rfl Du (XT (f:=tx) (l:=nl) O))<|QI I (λ_ _ f k=>QEo f (ht.nt _ hem)) λ_=>QA (XL I)<|QE<|QC ?_
  refine QQ I (λhc2=>?_) λhc2=>?_
  ·have h37:(!cN (el nl i.i))=true:=hc2;have hnE:EL nl i.i≠0:=by unfold EL;rw[if_pos h37,Zf tF];decide
   refine wA 6 I ?_
   repeat first|refine Q6 ?_|refine Qv ?_
   exact wg I I (congrArg (ak .i64) (by show Bz nl (rl.map λe=>ZX e.2) sl=8;rw[gK h11 h13 h25];have h9:=i.hit (by rw[ag];exact hlt) (by rw[ZG hlt];exact hnE);rw[ZG hlt]at h9;rw[show DX nl=EL nl i.i from h9,Zf hnE];unfold EL;rw[if_pos h37,Zf tF])) tL
  have h37:(!cN (el nl i.i))=false:=hc2;refine wC 3 I<|JG we mixed tE<|QK (QH I Hj VU)<|QK (Qe I VU .here .h1)<|QK (QD I)<|QK (NV i.i I I I Kw Du (by have:=ht.nc;dsimp only at this;omega))<|QK (QH I Hj VU)<|QK (Qe I VU .here .h1)<|QK (QD I)<|QK (Q3 (n:=nn) i.i (λF h9=>h9.1.2.nm) rfl rfl Kw Du O)<|QK (JA (n:=nn) ((i.i)*1) (λF h9=>h9.1.2.nm) O rfl Du (XT (f:=tx) (l:=nl) O))<|QR I (λ_ _ f k=>QHS f (Qy.QCd (l:=nl) k.1.2.nm hnl hi) (by rw[au];omega) O) λ_=>Q7<|QC ?_
  refine QQ I (λhc2=>?_) λhc2=>?_
  ·have h47:decide (el nl i.i∈nl.take i.i)=true:=hc2;have hnE:EL nl i.i≠0:=by unfold EL;rw[if_neg (by rw[h37];decide),if_pos h47,Zn,Zf tF];decide
   refine wA 6 I ?_
   repeat first|refine Q6 ?_|refine Qv ?_
   exact wg I I (congrArg (ak .i64) (by show Bz nl (rl.map λe=>ZX e.2) sl=9;rw[gK h11 h13 h25];have h9:=i.hit (by rw[ag];exact hlt) (by rw[ZG hlt];exact hnE);rw[ZG hlt]at h9;rw[show DX nl=EL nl i.i from h9,Zf hnE];unfold EL;rw[if_neg (by rw[h37];decide),if_pos h47,Zn,Zf tF])) tL
  have h47:decide (el nl i.i∈nl.take i.i)=false:=hc2;refine QN<|Qj<|wE 3 I<|QA (Qu I I O)<|wB 2 I ?_
  exact Ql (i.next (by rw[ag];exact hlt) (by rw[ZG hlt];unfold EL;rw[if_neg (by rw[h37];decide),if_neg (by rw[h47];decide)];rfl)) (by show nl.length-(i.i+1)<nl.length-i.i;omega) wu we λF h=>h.1.1
 have hge:nl.length<=i.i:=tD<|wj hc2
 have hnz:DX nl=0:=i.stop (by rw[ag];exact hge);refine Qx ?_
 repeat first|refine QY ?_|refine QO tH ?_
 refine QZ<|wE 8 I<|J9 (ι:=X7 rl λe=>Zh (ZX e.2) (nn:Int)) [(1,_),(3,_)] (λi2=>[(5,.int .i64 ((i2.i:Nat):Int))]) (λi2=>rl.length-i2.i) (X7.start _ _) wm wk λi2=>?_
 simp only[ae,af];have hi2:=i2.le;refine wA 8 I ?_;refine QQ I (λhc2=>?_) λhc2=>?_
 ·have hlt2:i2.i<rl.length:=tD<|wi hc2
  have hem:=Qw hlt2;refine wC 6 I<|QA (QH I VY Z6)<|QA (Qe I Z6 .here (.skip .h1))<|wW I<|QA (Q3 (n:=nr) (i2.i) (λF h9=>h9.2.rt) rfl rfl VJ Vu O)<|QA (JA (n:=nr) ((i2.i)*1) (λF h9=>h9.2.rt) O rfl Vu (XT (f:=λe:NQ=>e.1.v) (l:=rl) O))<|wW I<|QI I (λ_ _ f k=>Iw (q:=(el rl i2.i).1.q) (n:=(el rl i2.i).1.n) (cap:=(el rl i2.i).1.cap) f k.1 (k.2.pl _ hem).1 (k.2.pl _ hem).2 (ht.tm _ hem).1 (λt htt=>tD<|(ht.tm _ hem).2.1 t htt) (tD<|(ht.tm _ hem).2.2) O) λ_=>wD 9 I ?_
  refine QQ I (λhc2=>?_) λhc2=>?_
  ·have h61:=bne_iff_ne.1 hc2;refine wA 7 I ?_
   repeat first|refine Q6 ?_|refine Qv ?_
   exact wg I I (congrArg (ak .i64) (by show Bz nl (rl.map λe=>ZX e.2) sl=_;rw[gK h11 h13 h25,hnz,Zn,aQ,hnl];have h9:=i2.hit hlt2 h61;rw[show Qs (rl.map ((λp=>Zh p (nn:Int))∘λe=>ZX e.2))=Zh (ZX (el rl i2.i).2) (nn:Int)from h9,Zf h61])) tL
  have h61:=bne_eq_false_iff_eq.1 hc2;refine QN<|Qj<|wE 3 I<|QA (Qu I I O)<|wB 2 I ?_
  exact Ql (i2.next hlt2 h61) (by show rl.length-(i2.i+1)<rl.length-i2.i;omega) wu we tN
 have hge2:rl.length<=i2.i:=tD<|wj hc2
 refine Qx ?_
 repeat first|refine QY ?_|refine QO tH ?_
 refine QZ<|QC<|wa<|QA (QH I YM J0)<|QA (Qe I J0 .here (.skip (.skip .h1)))<|QI I (λ_ _ f k=>jG f k.2.st ⟨hsl,ht.st⟩ hsn) λ_=>wD 4 I ?_
 exact wg I I (congrArg (ak .i64) (by show Bz nl (rl.map λe=>ZX e.2) sl=_;rw[gK h11 h13 h25,hnz,Zn,aQ,hnl];have h9:=i2.stop hge2;rw[show Qs (rl.map ((λp=>Zh p (nn:Int))∘λe=>ZX e.2))=0 from h9,Zn,QCD])) tL
theorem uk(hF:Fits F w)(hy:X4 F y)(ht:vG y):Qf prog 105 [y.v] w F (.bool (shS y)):=by
 have hnl:=hy.jL;have hrl:=hy.Ka;have hsl:=hy.P0;have hnn:=ht.nn;have hrn:=ht.rn;have hsn:=ht.sn;refine QU.intro (G:=λF=>X4 F y) func105 rfl tH rfl rfl hF (λF' hF'=>hy.le hF')<|wa<|Qp rfl (vs:=[_,_,_]) rfl λb1=>wZ rfl<|QG ?_
 refine ZZ [(1,_)] [(21,.bool (shN y))] wk ?_ ?_
 ·refine QB<|QA (QH I Hj VU)<|QA (Qe I VU .here .h1)<|QA (Qg I Kw)<|wB 2 I ?_
  refine Qn (t:=10) rfl (λhb10=>?_) λhb10=>?_
  ·refine wB 12 I ?_;exact JY ⟨rfl,(congrArg (λb=>some (ab b)) (by unfold shN;rw[hb10];rfl)),trivial⟩ we tM
  refine QL I I<|QA (QH I VY Z6)<|QL I I<|QA (Qe I Z6 .here (.skip .h1))<|QL I I<|QA (Qg I VJ)<|wB 4 I ?_
  refine Qn (t:=16) rfl (λhb16=>?_) λhb16=>?_
  ·refine wB 6 I ?_;exact JY ⟨rfl,(congrArg (λb=>some (ab b)) (by unfold shN;rw[hb10,hb16];rfl)),trivial⟩ we tM
  refine QL I I<|QA (QH I YM J0)<|QL I I<|QA (Qe I J0 .here (.skip (.skip .h1)))<|QL I I<|QA (Qg I XF)<|wB 4 I ?_
  exact JY ⟨rfl,(congrArg (λb=>some (ab b)) (by unfold shN;rw[hb10,hb16];rfl)),trivial⟩ we tM
 simp only[ae,af];refine QQ I (λhc2=>?_) λhc2=>?_
 ·have h21:shN y=true:=hc2;refine wA 6 I ?_;exact wg I I (congrArg ab (by unfold shS;rw[h21];rfl)) tL
 have h21:shN y=false:=hc2;refine wC 9 I<|J9 (ι:=Wo y.rl shP) [(1,_)] (λi=>[(3,.int .i64 ((i.i:Nat):Int))]) (λi=>y.rl.length-i.i) (Wo.start _ _) wk wk λi=>?_
 simp only[ae,af];have hi:=i.le;refine wA 4 I<|QA (QH I VY Z6)<|QA (Qe I Z6 .here (.skip .h1))<|QA (Qg I VJ)<|wD 3 I ?_
 refine QQ I (λhc2=>?_) λhc2=>?_
 ·have hlt:i.i<y.rl.length:=tD<|wi hc2
  have hem:=Qw hlt;have hpl:=(ht.rl _ hem).1;have hpn:=(ht.rl _ hem).2.1;refine wC 7 I<|QA (QH I VY Z6)<|QA (Qe I Z6 .here (.skip .h1))<|wW I<|QA (Q3 (n:=y.rt.n) i.i (λF hy=>hy.rt) rfl rfl VJ Vu O)<|QA (JA (n:=y.rt.n) ((i.i)*1) (λF hy=>hy.rt) O rfl Vu (XT (f:=λe:NQ=>e.1.v) (l:=y.rl) O))<|QA (Qg I Zg)<|wD 3 I ?_
  refine QQ I (λhc2=>?_) λhc2=>?_
  ·have h35:((el y.rl i.i).1.n:Int)>70:=wi hc2;refine wA 6 I ?_
   repeat first|refine Q6 ?_|refine Qv ?_
   exact wg I I (congrArg ab (by unfold shS;rw[h21,i.hit hlt (by unfold shP;rw[decide_eq_true h35];rfl)];rfl)) tL
  have h35:¬((el y.rl i.i).1.n:Int)>70:=wj hc2;refine wC 8 I<|J9 (ι:=Wo (el y.rl i.i).2 shT) [(1,_),(3,_)] (λi2=>[(4,.int .i64 ((i2.i:Nat):Int))]) (λi2=>(el y.rl i.i).2.length-i2.i) (Wo.start _ _) wm wk λi2=>?_
  simp only[ae,af];have hi2:=i2.le;refine wA 4 I<|QA (QH I VY Z6)<|QA (Qe I Z6 .here (.skip .h1))<|wW I<|QA (Q3 (n:=y.rt.n) i.i (λF hy=>hy.rt) rfl rfl VJ Vu O)<|QA (JA (n:=y.rt.n) ((i.i)*1) (λF hy=>hy.rt) O rfl Vu (XT (f:=λe:NQ=>e.1.v) (l:=y.rl) O))<|QA (Qg I Zg)<|wD 3 I ?_
  refine QQ I (λhc2=>?_) λhc2=>?_
  ·have hlt2:i2.i<(el y.rl i.i).2.length:=tD<|wi hc2
   refine wC 4 I ?_;refine ZZ [(1,_),(3,_),(4,_)] [(69,.bool (!(shT (el (el y.rl i.i).2 i2.i))))] wu ?_ ?_
   ·refine QB<|QA (QH I VY Z6)<|QA (Qe I Z6 .here (.skip .h1))<|wW I<|QA (Q3 (n:=y.rt.n) i.i (λF hy=>hy.rt) rfl rfl VJ Vu O)<|QA (JA (n:=y.rt.n) ((i.i)*1) (λF hy=>hy.rt) O rfl Vu (XT (f:=λe:NQ=>e.1.v) (l:=y.rl) O))<|wW I<|QA (Q3 (n:=(el y.rl i.i).1.n) (i2.i) (λF hy=>(hy.pl _ hem).1) rfl rfl Zg Xh O)<|QA (QH I Yh JM)<|QA (JA (n:=(el y.rl i.i).1.n) ((i2.i)*2+1) (λF hy=>(hy.pl _ hem).1) O rfl JM (JN (f:=VM) (l:=(el y.rl i.i).2) YR O rfl))<|QA (Qg I Q2)<|wB 2 I ?_
    refine Qn (t:=57) rfl (λhb57=>?_) λhb57=>?_
    ·refine wB 13 I ?_;exact JY ⟨rfl,rfl,rfl,(congrArg (λb=>some (ab b)) (by unfold shT;rw[aj,hb57];rfl)),trivial⟩ we tM
    refine QL I I<|QA (QH I VY Z6)<|QL I I<|QA (Qe I Z6 .here (.skip .h1))<|wB 3 I<|QA (Q3 (n:=y.rt.n) i.i (λF hy=>hy.rt) rfl rfl VJ Vu O)<|QL I I<|QA (JA (n:=y.rt.n) ((i.i)*1) (λF hy=>hy.rt) O rfl Vu (XT (f:=λe:NQ=>e.1.v) (l:=y.rl) O))<|wB 3 I<|QA (Q3 (n:=(el y.rl i.i).1.n) (i2.i) (λF hy=>(hy.pl _ hem).1) rfl rfl Zg Xh O)<|QL I I<|QA (QH I GM JF)<|QL I I<|QA (JA (n:=(el y.rl i.i).1.n) ((i2.i)*2+0) (λF hy=>(hy.pl _ hem).1) O rfl JF (JN (f:=VM) (l:=(el y.rl i.i).2) YR O rfl))<|QL I I<|QA (Xc I Bw)<|wB 4 I ?_
    exact JY ⟨rfl,rfl,rfl,(congrArg (λb=>some (ab b)) (by unfold shT;rw[aj,hb57];rfl)),trivial⟩ we tM
   simp only[ae,af];refine QQ I (λhc2=>?_) λhc2=>?_
   ·have h69:shT (el (el y.rl i.i).2 i2.i)=false:=by simpa using hc2
    refine wA 6 I ?_
    repeat first|refine Q6 ?_|refine Qv ?_
    exact wg I I (congrArg ab (by unfold shS;rw[h21,i.hit hlt (by unfold shP;rw[i2.hit hlt2 h69,Bool.and_false])];rfl)) tL
   have h69:shT (el (el y.rl i.i).2 i2.i)=true:=by simpa using hc2
   refine QN<|Qj<|wE 3 I<|QA (Qu I I O)<|wB 2 I ?_
   exact Ql (i2.next hlt2 h69) (by show(el y.rl i.i).2.length-(i2.i+1)<(el y.rl i.i).2.length-i2.i;omega) wu we tM
  have hge2:(el y.rl i.i).2.length<=i2.i:=tD<|wj hc2
  refine Qx ?_
  repeat first|refine QY ?_|refine QO tH ?_
  refine QZ<|Qj<|wE 3 I<|QA (Qu I I O)<|wB 2 I ?_
  exact Ql (i.next hlt (by unfold shP;rw[decide_eq_false h35,i2.stop hge2];rfl)) (by show y.rl.length-(i.i+1)<y.rl.length-i.i;omega) wm we tM
 have hge:y.rl.length<=i.i:=tD<|wj hc2
 have hra:=i.stop hge;refine Qx ?_
 repeat first|refine QY ?_|refine QO tH ?_
 refine QZ<|wE 8 I<|J9 (ι:=Wo y.sl AZ) [(1,_)] (λi3=>[(5,.int .i64 ((i3.i:Nat):Int))]) (λi3=>y.sl.length-i3.i) (Wo.start _ _) wk wk λi3=>?_
 simp only[ae,af];have hi3:=i3.le;refine wA 4 I<|QA (QH I YM J0)<|QA (Qe I J0 .here (.skip (.skip .h1)))<|QA (Qg I XF)<|wD 3 I ?_
 refine QQ I (λhc2=>?_) λhc2=>?_
 ·have hlt3:i3.i<y.sl.length:=tD<|wi hc2
  refine wC 4 I ?_;refine ZZ [(1,_),(5,_)] [(94,.bool (!(AZ (el y.sl i3.i))))] wm ?_ ?_
  ·refine QB<|QA (QH I YM J0)<|QA (Qe I J0 .here (.skip (.skip .h1)))<|wW I<|QA (Q3 (n:=y.st.n) (i3.i) (λF hy=>hy.st) rfl rfl XF Jd O)<|QA (QH I V6 JF)<|QA (JA (n:=y.st.n) ((i3.i)*2+0) (λF hy=>hy.st) O rfl JF (JN (f:=NU) (l:=y.sl) K1 O rfl))<|QA (Xc I Bw)<|wB 2 I ?_
   refine Qn (t:=85) rfl (λhb85=>?_) λhb85=>?_
   ·refine wB 10 I ?_;exact JY ⟨rfl,rfl,(congrArg (λb=>some (ab b)) (by unfold AZ;rw[aj,hb85];rfl)),trivial⟩ we tM
   refine QL I I<|QA (QH I YM J0)<|QL I I<|QA (Qe I J0 .here (.skip (.skip .h1)))<|wB 3 I<|QA (Q3 (n:=y.st.n) (i3.i) (λF hy=>hy.st) rfl rfl XF Jd O)<|QL I I<|QA (QH I We JF)<|QL I I<|QA (JA (n:=y.st.n) ((i3.i)*2+1) (λF hy=>hy.st) O rfl JF (JN (f:=NU) (l:=y.sl) K1 O rfl))<|QL I I<|QA (Xc I Bw)<|wB 4 I ?_
   exact JY ⟨rfl,rfl,(congrArg (λb=>some (ab b)) (by unfold AZ;rw[aj,hb85];rfl)),trivial⟩ we tM
  simp only[ae,af];refine QQ I (λhc2=>?_) λhc2=>?_
  ·have h94:AZ (el y.sl i3.i)=false:=by simpa using hc2
   refine wA 6 I ?_
   repeat first|refine Q6 ?_|refine Qv ?_
   exact wg I I (congrArg ab (by unfold shS;rw[h21,hra,i3.hit hlt3 h94];rfl)) tL
  have h94:AZ (el y.sl i3.i)=true:=by simpa using hc2
  refine QN<|Qj<|wE 3 I<|QA (Qu I I O)<|wB 2 I ?_
  exact Ql (i3.next hlt3 h94) (by show y.sl.length-(i3.i+1)<y.sl.length-i3.i;omega) wm we tM
 have hge3:y.sl.length<=i3.i:=tD<|wj hc2
 refine Qx ?_
 repeat first|refine QY ?_|refine QO tH ?_
 refine QZ<|wE 7 I ?_
 exact wg I I (congrArg ab (by unfold shS;rw[h21,hra,i3.stop hge3];rfl)) tL
theorem QGM{v d g:Int}(hF:Fits F w)(hGl:JE F)(hy:X4 F y)(hl:vG y)(hg:0<=g/\g<=1000):Qf prog 55 [y.v,.int .i64 v,.int .i64 d,.int .i64 g] w F (.bool (pT y v d g)):=by
 have hnl:=hy.jL;have hrl:=hy.Ka;have hsl:=hy.P0;refine QU.intro (G:=λF=>JE F/\X4 F y) func55 rfl tH rfl rfl hF (λF' hF'=>⟨hGl.le hF',hy.le hF'⟩)<|wa<|Qp rfl (vs:=[_,_,_]) rfl λb4=>wZ rfl<|QG ?_
 refine ZZ [(2,_),(3,_),(4,_)] [(38,.bool (!(yX y v g)))] wu ?_ ?_
 ·refine QB<|QA (wO I J6 .here)<|QI I (λ_ _ f k=>uk (y:=y) f k.2 hl) λ_=>QA (XL I)<|wW I ?_
  refine Qn (t:=13) rfl (λhb13=>?_) λhb13=>?_
  ·refine wB 19 I<|Jn I I<|Jn I I<|Jn I I<|Jn I I<|wB 2 I ?_
   refine QE ?_;exact JY ⟨rfl,rfl,rfl,(congrArg (λb=>some (ab b)) (by unfold yX;rw[aj,hb13];rfl)),trivial⟩ we tN
  have ht:GJ y:=hl.ts (by simpa using hb13);refine QL I I<|QA (wO I J6 .here)<|QL I I<|QI I (λ_ _ f k=>QA3 (y:=y) f k.1.1 k.1.2 ht) λ_=>wB 4 I ?_
  refine Qn (t:=18) rfl (λhb18=>?_) λhb18=>?_
  ·refine wB 14 I<|Jn I I<|Jn I I<|Jn I I<|Jn I I<|wB 3 I ?_
   exact JY ⟨rfl,rfl,rfl,(congrArg (λb=>some (ab b)) (by unfold yX;rw[aj,hb13,hb18];rfl)),trivial⟩ we λ_ h=>h.1.1
  refine QL I I<|QA (QH I VY Z6)<|QL I I<|QA (Qe I Z6 .here (.skip .h1))<|QL I I<|QA (Qg I VJ)<|wB 6 I ?_
  refine Qn (t:=25) rfl (λhb25=>?_) λhb25=>?_
  ·refine wB 7 I<|Jn I I<|Jn I I<|Jn I I<|Jn I I<|wB 3 I ?_
   exact JY ⟨rfl,rfl,rfl,(congrArg (λb=>some (ab b)) (by unfold yX;rw[aj,hb13,hb18,hb25];rfl)),trivial⟩ we λ_ h=>h.1.1
  refine QL I I<|QA (QH I YM J0)<|QL I I<|QA (Qe I J0 .here (.skip (.skip .h1)))<|wB 5 I<|QI I (λ_ _ f k=>gU f k.1.1.2.st hsl hg (tD ht.sn)) λ_=>QL I I<|QA (XL I)<|wB 2 I ?_
  refine Qn (t:=32) rfl (λhb32=>?_) λhb32=>?_
  ·refine QL I I<|QA (QH I YM J0)<|QL I I<|QA (Qe I J0 .here (.skip (.skip .h1)))<|QL I I<|QA (Qg I XF)<|wB 6 I ?_
   exact JY ⟨rfl,rfl,rfl,(congrArg (λb=>some (ab b)) (by unfold yX;rw[aj,hb13,hb18,hb25,hb32];rfl)),trivial⟩ we λ_ h=>h.1.1.1
  refine wB 8 I ?_;exact JY ⟨rfl,rfl,rfl,(congrArg (λb=>some (ab b)) (by unfold yX;rw[aj,hb13,hb18,hb25,hb32];rfl)),trivial⟩ we λ_ h=>h.1.1.1
 simp only[ae,af];refine QQ I (λhc2=>?_) λhc2=>?_
 ·have h38:yX y v g=false:=by simpa using hc2
  refine wA 6 I ?_;exact wg I I (congrArg ab (by unfold pT;rw[h38];rfl)) tL
 have h38:yX y v g=true:=by simpa using hc2
 obtain⟨hS1,he1,hv1,hs1⟩:=QFQ h38;have ht:GJ y:=hl.ts hS1;have hrn:=ht.rn;have ho:=hy.ok he1;have hon:=ho.n1;have hor:=ho.rn;refine wC 9 I<|J9 (ι:=Wo y.rl λe=>fpB (ZX e.2) (y.rt.n:Int) 4 d g) [(2,_),(3,_),(4,_)] (λi=>[(9,.int .i64 ((i.i:Nat):Int))]) (λi=>y.rl.length-i.i) (Wo.start _ _) wu wk λi=>?_
 simp only[ae,af];have hi:=i.le;refine wA 4 I<|QA (QH I VY Z6)<|QA (Qe I Z6 .here (.skip .h1))<|QA (Qg I VJ)<|wD 3 I ?_
 refine QQ I (λhc2=>?_) λhc2=>?_
 ·have hlt:i.i<y.rl.length:=tD<|wi hc2
  have hem:=Qw hlt;refine wC 5 I<|JG we mixed tE<|QK (QH I VY Z6)<|QK (Qe I Z6 .here (.skip .h1))<|QK (QD I)<|QK (Q3 (n:=y.rt.n) i.i (λF h9=>h9.2.rt) rfl rfl VJ Vu O)<|QK (JA (n:=y.rt.n) ((i.i)*1) (λF h9=>h9.2.rt) O rfl Vu (XT (f:=λe:NQ=>e.1.v) (l:=y.rl) O))<|QK (QH I VY Z6)<|QK (Qe I Z6 .here (.skip .h1))<|QK (Qg I VJ)<|QK (QD I)<|QK (QD I)<|QR I (λ_ _ f k=>uw (q:=(el y.rl i.i).1.q) (n:=(el y.rl i.i).1.n) (cap:=(el y.rl i.i).1.cap) f k.1 (k.2.pl _ hem).1 (k.2.pl _ hem).2 (ht.tm _ hem).1 (λt htt=>tD<|(ht.tm _ hem).2.1 t htt) (tD<|(ht.tm _ hem).2.2) O O) λ_=>QK (XL I)<|Q7<|QC ?_
  refine QQ I (λhc2=>?_) λhc2=>?_
  ·have h57:fpB (ZX (el y.rl i.i).2) (y.rt.n:Int) 4 d g=false:=by simpa using hc2
   refine wA 6 I ?_
   repeat first|refine Q6 ?_|refine Qv ?_
   exact wg I I (congrArg ab (by unfold pT;rw[h38,i.hit hlt h57];rfl)) tL
  have h57:fpB (ZX (el y.rl i.i).2) (y.rt.n:Int) 4 d g=true:=by simpa using hc2
  refine QN<|Qj<|wE 3 I<|QA (Qu I I O)<|wB 2 I ?_
  exact Ql (i.next hlt h57) (by show y.rl.length-(i.i+1)<y.rl.length-i.i;omega) wv we tN
 have hge:y.rl.length<=i.i:=tD<|wj hc2
 refine Qx ?_
 repeat first|refine QY ?_|refine QO tH ?_
 refine QZ<|wE 7 I ?_
 exact wg I I (congrArg ab (by unfold pT;rw[h38,i.stop hge];rfl)) tL
def Xfb(tb:List Wl)(i:Nat):List UInt8:=if i=0 then[48]else(el tb (i-1)).e
def Xh9:Jp [48]=0/\Qz [48]=((0:Int):Rat):=tG
def Xhm(h:Jp (el tb i).e≠0):k6 n tb i=Jp (el tb i).e:=by
 unfold k6 Nb;rw[if_pos h,Zf h]
def Xhk(h0:Jp (el tb i).e=0)(h:Yw (Qz (el tb i).e) (Hd tb i)<=0):k6 n tb i=11:=by
 unfold k6 Nb Wc;rw[if_neg (by simpa using h0),if_pos (decide_eq_true h),Zf tF]
def Xhg(h0:Jp (el tb i).e=0)(h:¬Yw (Qz (el tb i).e) (Hd tb i)<=0):Nb (Hd tb i) (el tb i).e=0:=by
 unfold Nb Wc;rw[if_neg (by simpa using h0),if_neg (by rw[decide_eq_false h];decide)]
def Xhj(h0:Jp (el tb i).e=0)(h:¬Yw (Qz (el tb i).e) (Hd tb i)<=0)(h1:YZ n (el tb i).wl≠0):k6 n tb i=YZ n (el tb i).wl:=by
 unfold k6;rw[Xhg h0 h,Zn,Zf h1]
def Xhf(h0:Jp (el tb i).e=0)(h:¬Yw (Qz (el tb i).e) (Hd tb i)<=0)(h1:YZ n (el tb i).wl=0):k6 n tb i=YZ n (el tb i).ll:=by
 unfold k6;rw[Xhg h0 h,Zn,h1,Zn,QCD]
def Xf6(s:X7 (ai tb.length) (k6 n tb))(hl:¬tb.length>1000)(h:s.i<tb.length){e:Int}(he:k6 n tb s.i=e)(h0:e≠0):Dz n tb=e:=by
 unfold Dz;rw[if_neg hl];have h9:=s.hit (by rw[ag];exact h) (by rw[ZG h,he];exact h0);rw[ZG h]at h9;rw[h9,he]
def Xgg(s:X7 (ai tb.length) (k6 n tb))(hl:¬tb.length>1000)(h:tb.length<=s.i):Dz n tb=0:=by
 unfold Dz;rw[if_neg hl];exact s.stop (by rw[ag];exact h)
structure CfJ(n:Nat)(tb:List Wl) extends X7 (ai tb.length) (k6 n tb) where
 ok:Jp (Xfb tb i)=0/\Qz (Xfb tb i)=Hd tb i
def Xfa(tb:List Wl)(i:Nat):Xfb tb (i+1)=(el tb i).e:=by unfold Xfb;rw[if_neg O,Nat.add_sub_cancel]
def Xjx{a:Wl}(h:(a.e != b.e)=true):(!decide (a.d=b.d))=true:=by
 have:a.e≠b.e:=bne_iff_ne.1 h;rw[decide_eq_false (λk=>this (congrArg (·.1) k))];rfl
def Xjw{a:Wl}(h:(!decide (a.wl=b.wl))=true):(!decide (a.d=b.d))=true:=by
 have:¬a.wl=b.wl:=by simpa using h
 rw[decide_eq_false (λk=>this (congrArg (·.2.1) k))];rfl
def Xjv{a:Wl}(h:(a.e != b.e)=false)(k:(!decide (a.wl=b.wl))=false):(!decide (a.d=b.d))=!decide (a.ll=b.ll):=by
 have h1:a.e=b.e:=bne_eq_false_iff_eq.1 h;have h2:a.wl=b.wl:=by simpa using k
 congr 1;unfold Wl.d;rw[h1,h2];exact decide_eq_decide.2 ⟨λe=>congrArg (·.2.2) e,λe=>by rw[e]⟩
def Xhu(h:i<tb.length):el (tb.map Wl.d) i=(el tb i).d:=by rw[Jb (by simpa using h),Jb h];simp
theorem Xfn{n:Nat}{r:Sr}(hF:Fits F w)(hx:IF F r tb)(hc:QCR r tb):Qf prog 52 [.int .i64 (n:Int),r.v] w F (.int .i64 (Dz n tb)):=by
 have hxr:=hx.len;have hcn:=hc.n;refine QU.intro (G:=λF=>IF F r tb) func52 rfl tH rfl rfl hF (λF' hF'=>hx.le hF')<|wa<|wZ rfl<|QG<|wb rfl<|QA (Qg rfl EC)<|QA (QT rfl rfl rfl)<|QE<|QC ?_
 refine QQ I (λhc2=>?_) λhc2=>?_
 ·have h12:tb.length>1000:=tD<|wi hc2
  refine wA 6 I ?_;exact wg I I (congrArg (ak .i64) (by unfold Dz;rw[if_pos h12])) tL
 have h12:¬tb.length>1000:=tD<|wj hc2
 have hct:∀b∈tb,b.e.length<=1000000/\BS b.w b.wl/\BS b.l b.ll:=hc.t.resolve_left O;refine wC 14 I<|J9 (ι:=CfJ n tb) [(0,_),(1,_)] (λi=>[(5,tx (Xfb tb i.i)),(6,.int .i64 ((i.i:Nat):Int))]) (λi=>tb.length-i.i) (⟨X7.start _ _,Xh9⟩) wm wm λi=>?_
 simp only[ae,af];have hi:=i.le;rw[ag]at hi;refine wA 5 I<|QA (Qg I EC)<|wD 3 I ?_
 refine QQ I (λhc2=>?_) λhc2=>?_
 ·have hlt:i.i<tb.length:=tD<|wi hc2
  have hem:=Qw hlt;refine wC 9 I<|QA (Q3 (n:=r.n) i.i (λF hx=>hx.row) rfl rfl EC X8 O)<|QA (QH I Ec JF)<|QA (JA (n:=r.n) ((i.i)*3+0) (λF hx=>hx.row) O rfl JF (JN (f:=uI) (l:=tb) Cb O rfl))<|QI I (λ_ _ f k=>vN f (tD<|(hct _ hem).1)) λ_=>wD 9 I ?_
  refine QQ I (λhc2=>?_) λhc2=>?_
  ·have h26:=bne_iff_ne.1 hc2;refine wA 7 I ?_
   repeat first|refine Q6 ?_|refine Qv ?_
   exact wg I I (congrArg (ak .i64) (Xf6 i.toX7 h12 hlt (Xhm h26) h26)) tL
  have h26:=bne_eq_false_iff_eq.1 hc2;refine wC 7 I<|QA (Q3 (n:=r.n) i.i (λF h9=>h9.1.row) rfl rfl EC X8 O)<|QA (QH I Ec JF)<|QA (JA (n:=r.n) ((i.i)*3+0) (λF h9=>h9.1.row) O rfl JF (JN (f:=uI) (l:=tb) Cb O rfl))<|wW I<|QI I (λ_ _ f k=>QCs f h26 i.ok.1) λ_=>wD 3 I ?_
  refine QQ I (λhc2=>?_) λhc2=>?_
  ·have h35:=wi hc2;rw[i.ok.2]at h35;refine wA 6 I ?_
   repeat first|refine Q6 ?_|refine Qv ?_
   exact wg I I (congrArg (ak .i64) (Xf6 i.toX7 h12 hlt (Xhk h26 h35) tF)) tL
  have h35:=wj hc2;rw[i.ok.2]at h35;refine wC 8 I<|QA (Q3 (n:=r.n) i.i (λF h9=>h9.1.1.row) rfl rfl EC X8 O)<|QA (QH I Ub J0)<|QA (JA (n:=r.n) ((i.i)*3+1) (λF h9=>h9.1.1.row) O rfl J0 (JN (f:=uI) (l:=tb) Cb O rfl))<|QI I (λ_ _ f k=>gW f (k.1.1.bx _ hem).1 (hct _ hem).2.1) λ_=>wD 9 I ?_
  refine QQ I (λhc2=>?_) λhc2=>?_
  ·have h44:=bne_iff_ne.1 hc2;refine wA 7 I ?_
   repeat first|refine Q6 ?_|refine Qv ?_
   exact wg I I (congrArg (ak .i64) (Xf6 i.toX7 h12 hlt (Xhj h26 h35 h44) h44)) tL
  have h44:=bne_eq_false_iff_eq.1 hc2;refine wC 8 I<|QA (Q3 (n:=r.n) i.i (λF h9=>h9.1.1.1.row) rfl rfl EC X8 O)<|QA (QH I N6 J0)<|QA (JA (n:=r.n) ((i.i)*3+2) (λF h9=>h9.1.1.1.row) O rfl J0 (JN (f:=uI) (l:=tb) Cb O rfl))<|QI I (λ_ _ f k=>gW f (k.1.1.1.bx _ hem).2 (hct _ hem).2.2) λ_=>wD 9 I ?_
  refine QQ I (λhc2=>?_) λhc2=>?_
  ·have h54:=bne_iff_ne.1 hc2;refine wA 7 I ?_
   repeat first|refine Q6 ?_|refine Qv ?_
   exact wg I I (congrArg (ak .i64) (Xf6 i.toX7 h12 hlt (Xhf h26 h35 h44) h54)) tL
  have h54:=bne_eq_false_iff_eq.1 hc2;refine wC 5 I<|QA (Q3 (n:=r.n) i.i (λF h9=>h9.1.1.1.1.row) rfl rfl EC X8 O)<|QA (QH I Ec JF)<|QA (JA (n:=r.n) ((i.i)*3+0) (λF h9=>h9.1.1.1.1.row) O rfl JF (JN (f:=uI) (l:=tb) Cb O rfl))<|wB 2 I<|Qj<|wE 3 I<|QA (Qu I I O)<|wB 2 I ?_
  exact Ql (⟨i.toX7.next (by rw[ag];exact hlt) (by rw[ZG hlt,Xhf h26 h35 h44];exact h54),by show Jp (Xfb tb (i.i+1))=0/\Qz (Xfb tb (i.i+1))=Hd tb (i.i+1);rw[Xfa,RU];exact⟨h26,rfl⟩⟩) (by show tb.length-(i.i+1)<tb.length-i.i;omega) ⟨rfl,rfl,(congrArg (λs=>some (tx s)) (Xfa tb i.i).symm),rfl,trivial⟩ we λF h=>h.1.1.1.1
 have hge:tb.length<=i.i:=tD<|wj hc2
 refine Qx ?_
 repeat first|refine QY ?_|refine QO tH ?_
 refine QZ<|wE 7 I ?_
 exact wg I I (congrArg (ak .i64) (Xgg i.toX7 h12 hge)) tL
theorem Xio(hF:Fits F w)(ha:IF F ra ta)(hb:IF F rb tb)(hn:ra.n<=1000000)(hz:∀b∈ta,b.w.n<=1000000/\b.l.n<=1000000):Qf prog 69 [ra.v,rb.v] w F (.bool (decide (ta.map Wl.d=tb.map Wl.d))):=by
 have hal:=ha.len;have hbl:=hb.len;refine QU.intro (G:=λF=>IF F ra ta/\IF F rb tb) func69 rfl tH rfl rfl hF (λF' hF'=>⟨ha.le hF',hb.le hF'⟩)<|wa<|wZ rfl<|QG<|wb rfl<|QA (Qg rfl EC)<|wW rfl<|QA (Qg rfl EC)<|QA (QT rfl rfl rfl)<|QE<|QC ?_
 refine QQ I (λhc2=>?_) λhc2=>?_
 ·have h10:=bne_iff_ne.1 hc2;refine wA 6 I ?_;exact wg I I (congrArg ab (decide_eq_false λe=>h10 (by have:=congrArg List.length e;rw[ah,ah]at this;omega))) tL
 have h10:=bne_eq_false_iff_eq.1 hc2;refine wC 9 I<|J9 (ι:=SmI (ta.map Wl.d) (tb.map Wl.d)) [(0,_),(1,_)] (λi=>[(5,.int .i64 ((i.i:Nat):Int))]) (λi=>ta.length-i.i) (⟨0,ar _,rfl⟩) wm wk λi=>?_
 simp only[ae,af];have hi:=i.le;rw[ah]at hi;refine wA 5 I<|QA (Qg I EC)<|wD 3 I ?_
 refine QQ I (λhc2=>?_) λhc2=>?_
 ·have hlt:i.i<ta.length:=tD<|wi hc2
  have hem:=Qw hlt;have hlt2:i.i<tb.length:=O;have hem2:=Qw hlt2;refine wC 4 I ?_;refine ZZ [(0,_),(1,_),(5,_)] [(55,.bool (!(decide ((el ta i.i).d=(el tb i.i).d))))] wu ?_ ?_
  ·refine JG we mixed tE<|QK (QD I)<|QK (QD I)<|QK (Q3 (n:=ra.n) i.i (λF h9=>h9.1.row) rfl rfl EC X8 O)<|QK (QH I Ec JF)<|QK (JA (n:=ra.n) ((i.i)*3+0) (λF h9=>h9.1.row) O rfl JF (JN (f:=uI) (l:=ta) Cb O rfl))<|QK (QD I)<|QK (QD I)<|QK (Q3 (n:=rb.n) i.i (λF h9=>h9.2.row) rfl rfl EC X8 O)<|QK (QH I Ec JF)<|QK (JA (n:=rb.n) ((i.i)*3+0) (λF h9=>h9.2.row) O rfl JF (JN (f:=uI) (l:=tb) Cb O rfl))<|QK (xb I I)<|QK (QD I) ?_
   refine Gg (t:=28) rfl (λhb28=>?_) λhb28=>?_
   ·refine Jj I I I<|Jj I I I<|Jj I I I<|Jj I I I<|Jj I I I<|Jj I I I<|Jj I I I<|Jj I I I<|Jj I I I<|Jj I I I<|Jj I I I<|Jj I I I<|QK (Qh I I I)<|QK (QD I)<|Jj I I I<|Jj I I I<|Jj I I I<|Jj I I I<|Jj I I I<|Jj I I I<|Jj I I I<|Jj I I I<|Jj I I I<|Jj I I I<|Jj I I I ?_
    refine Jj I I I<|QK (Qh I I I)<|Q7 ?_
    exact JY ⟨rfl,rfl,rfl,(congrArg (λb=>some (ab b)) ((Xjx hb28).symm)),trivial⟩ we tM
   refine XA I I<|QK (QD I)<|XA I I<|QK (QD I)<|XA I I<|QK (Q3 (n:=ra.n) i.i (λF h9=>h9.1.row) rfl rfl EC X8 O)<|XA I I<|QK (QH I Ub J0)<|XA I I<|QK (JA (n:=ra.n) ((i.i)*3+1) (λF h9=>h9.1.row) O rfl J0 (JN (f:=uI) (l:=ta) Cb O rfl))<|XA I I<|QK (QD I)<|XA I I<|QK (QD I)<|XA I I<|QK (Q3 (n:=rb.n) i.i (λF h9=>h9.2.row) rfl rfl EC X8 O)<|XA I I<|QK (QH I Ub J0)<|XA I I<|QK (JA (n:=rb.n) ((i.i)*3+1) (λF h9=>h9.2.row) O rfl J0 (JN (f:=uI) (l:=tb) Cb O rfl))<|XA I I<|QR I (λ_ _ f k=>Cy f (k.1.bx _ hem).1 (k.2.bx _ hem2).1 (hz _ hem).1) λ_=>XA I I<|QK (XL I)<|QK (Qd I I I) ?_
   refine QK (QD I) ?_;refine Gg (t:=42) rfl (λhb42=>?_) λhb42=>?_
   ·refine Jj I I I<|Jj I I I<|Jj I I I<|Jj I I I<|Jj I I I<|Jj I I I<|Jj I I I<|Jj I I I<|Jj I I I<|Jj I I I<|Jj I I I<|Jj I I I<|QK (Qh I I I)<|Q7 ?_
    exact JY ⟨rfl,rfl,rfl,(congrArg (λb=>some (ab b)) ((Xjw hb42).symm)),trivial⟩ we tN
   refine XA I I<|QK (QD I)<|XA I I<|QK (QD I)<|XA I I<|QK (Q3 (n:=ra.n) i.i (λF h9=>h9.1.row) rfl rfl EC X8 O)<|XA I I<|QK (QH I N6 J0)<|XA I I<|QK (JA (n:=ra.n) ((i.i)*3+2) (λF h9=>h9.1.row) O rfl J0 (JN (f:=uI) (l:=ta) Cb O rfl))<|XA I I<|QK (QD I)<|XA I I<|QK (QD I)<|XA I I<|QK (Q3 (n:=rb.n) i.i (λF h9=>h9.2.row) rfl rfl EC X8 O)<|XA I I<|QK (QH I N6 J0)<|XA I I<|QK (JA (n:=rb.n) ((i.i)*3+2) (λF h9=>h9.2.row) O rfl J0 (JN (f:=uI) (l:=tb) Cb O rfl))<|XA I I<|QR I (λ_ _ f k=>Cy f (k.1.1.bx _ hem).2 (k.1.2.bx _ hem2).2 (hz _ hem).2) λ_=>XA I I<|QK (XL I)<|QK (Qd I I I) ?_
   refine Q7 ?_;exact JY ⟨rfl,rfl,rfl,(congrArg (λb=>some (ab b)) ((Xjv hb28 hb42).symm)),trivial⟩ we λ_ h=>h.1.1
  simp only[ae,af];refine QQ I (λhc2=>?_) λhc2=>?_
  ·have hne:¬(el ta i.i).d=(el tb i.i).d:=by simpa using hc2
   refine wA 6 I ?_
   repeat first|refine Q6 ?_|refine Qv ?_
   exact wg I I (congrArg ab (decide_eq_false λe=>hne (by have h9:el (ta.map Wl.d) i.i=el (tb.map Wl.d) i.i:=(congrArg (λl=>el l i.i) e);rwa [Xhu hlt,Xhu hlt2]at h9))) tL
  have heq:(el ta i.i).d=(el tb i.i).d:=by simpa using hc2
  refine QN<|Qj<|wE 3 I<|QA (Qu I I O)<|wB 2 I ?_
  exact Ql (⟨i.i+1,by rw[ah];exact hlt,i.step (by rw[ah];exact hlt) (by rw[ah];exact hlt2) (by rw[Xhu hlt,Xhu hlt2];exact heq)⟩) (by show ta.length-(i.i+1)<ta.length-i.i;omega) wu we tM
 have hge:i.i=ta.length:=tD<|wj hc2
 refine Qx ?_
 repeat first|refine QY ?_|refine QO tH ?_
 refine QZ<|wE 7 I ?_
 exact wg I I (congrArg ab (decide_eq_true (i.done (by rw[ah,ah];omega) (by rw[ah];exact hge)))) tL
def QDg{l:List (List UInt8)}(h:i<l.length)(k:decide ((el l i).length>14)=true):l.any (λs=>decide (s.length>14))=true:=List.any_eq_true.2 ⟨_,Qw h,k⟩
structure LgJ(l:List (List UInt8)) where
 i:Nat
 le:i<=l.length
 no:∀j,j<i->¬(el l j).length>14
def LgJ.stop{l:List (List UInt8)}(s:LgJ l)(h:l.length<=s.i):l.any (λs=>decide (s.length>14))=false:=by
 cases e:l.any (λs=>decide (s.length>14))with
 |false=>rfl
 |true =>
  obtain⟨x,hx,k⟩:=List.any_eq_true.1 e;obtain⟨j,hj,rfl⟩:=aK hx;exact absurd (wi k) (by have:=s.no j O;rwa [Jb hj]at this)
theorem QGb{q:Option Addr}{c:Nat}{l:List (List UInt8)}(hF:Fits F w)(hR:Qy F q n 1 (l.map tx))(hn:l.length=n)(hb:n<=1000000000):Qf prog 15 [.slice q n c] w F (.bool (l.any λs=>decide (s.length>14))):=by
 refine QU.intro (G:=λF=>Qy F q n 1 (l.map tx)) func15 rfl tH rfl rfl hF (λF' hF'=>hR.le hF')<|wa<|wZ rfl<|QG<|wa<|wZ rfl<|QV<|J9 (ι:=LgJ l) [(0,_)] (λi=>[(3,.int .i64 ((i.i:Nat):Int))]) (λi=>l.length-i.i) (⟨0,ar _,λj h=>absurd h (aN _)⟩) wk wk λi=>?_
 simp only[ae,af];have hi:=i.le;refine wA 5 I<|QA (Qg I YG)<|wD 3 I ?_
 refine QQ I (λhc=>?_) λhc=>?_
 ·have hlt:i.i<l.length:=tD<|wi hc
  refine wC 8 I<|QA (Q3 (n:=n) i.i tM rfl rfl YG JF O)<|QA (JA (n:=n) ((i.i)*1) tM O rfl JF (XT (f:=tx) (l:=l) O))<|QA (Xc I Bw)<|wD 3 I ?_
  refine QQ I (λhc=>?_) λhc=>?_
  ·have h15:(el l i.i).length>14:=tD<|wi hc
   refine wA 6 I ?_
   repeat first|refine Q6 ?_|refine Qv ?_
   exact wg I I (congrArg ab (QDg hlt (decide_eq_true h15))) tL
  have h15:¬(el l i.i).length>14:=tD<|wj hc
  refine QN<|Qj<|wE 3 I<|QA (Qu I I O)<|wB 2 I ?_
  exact Ql (⟨i.i+1,hlt,λj hj=>by rcases Nat.lt_succ_iff_lt_or_eq.1 hj with h | rfl;exact i.no j h;exact h15⟩) (by show l.length-(i.i+1)<l.length-i.i;omega) wm we tM
 have hge:l.length<=i.i:=tD<|wj hc
 refine Qx ?_
 repeat first|refine QY ?_|refine QO tH ?_
 refine QZ<|wE 7 I ?_
 exact wg I I (congrArg ab (i.stop hge)) tL
def Xhc{α:Type}[Inhabited α]{l:List α}{n i:Nat}(h:i<(l.take n).length):el (l.take n) i=el l i:=by
 have h2:i<l.length:=by rw[au]at h;omega
 rw[Jb h,Jb h2,List.getElem_take]
def Ff(y:Xz)(n:Int):Bool:=!(shS y)||((y.e==0)&&!(pT y n 3 6))
def yQ{n:Int}(h:Ff y n=false):shS y=true/\(y.e=0->pT y n 3 6=true):=by
 unfold Ff at h;simp only[aq,av,aJ,beq_eq_false_iff_ne]at h;exact⟨h.1,λe=>h.2.resolve_left λk=>k e⟩
def Xf7(y:Xz)(tb:List Wl):Int:=if y.e≠0 then y.e else Dz y.rt.n tb
structure ATk where
 fr:List UInt8
 te:List UInt8
 bx:Sr
 bl:List (List UInt8×List UInt8)
 wh:Sr
 wl:List (List UInt8×List UInt8)
 o:Int
 b:Int
@[reducible] def ATk.v (x:ATk):Value:=.agg #[tx x.fr,tx x.te,.slice x.bx.q x.bx.n x.bx.cap,.slice x.wh.q x.wh.n x.wh.cap,.int .i64 x.o,.int .i64 x.b]
def cT(l:List (List UInt8)):Bool:=l.any λs=>decide (s.length>14)
def stX(b:Wl):Bool:=!(cT [b.e]||!(Ts b.wl)||!(Ts b.ll))
def stN(n:Nat):Bool:=(decide ((n:Int)>4)&&decide ((n:Int)<=1000))||decide ((n:Int)>1005)
def Xdo(tb:List Wl):Bool:=!(stN tb.length)&&(tb.take 4).all stX
def Xhi(h:stX b=true)(hw:b.wl.length=b.w.n)(hl:b.ll.length=b.l.n):b.e.length<=14/\BS b.w b.wl/\BS b.l b.ll:=by
 simp only[stX,aL,aq,av]at h;obtain⟨⟨h1,h2⟩,h3⟩:=h;have h4:=AY h2;have h5:=AY h3;refine⟨by unfold cT at h1;simp at h1;omega,⟨O,λs hs=>tD<|h4.2 s hs⟩,⟨O,λs hs=>tD<|h5.2 s hs⟩⟩
def Xh2{r:Sr}(hn:tb.length=r.n)(hx:∀b∈tb,b.wl.length=b.w.n/\b.ll.length=b.l.n)(h:Xdo tb=true):QCR r tb:=by
 unfold Xdo at h;rw[aA,ay]at h;have h1:stN tb.length=false:=by simpa using h.1
 unfold stN at h1;simp only[aq,aJ,decide_eq_false_iff_not]at h1;refine⟨O,?_⟩;rcases Nat.lt_or_ge 1000 r.n with g | g
 ·exact .inl g
 right;intro b hb;rw[List.take_of_length_le O]at h;have h2:=Xhi (h.2 b hb) (hx b hb).1 (hx b hb).2;exact⟨O,h2.2⟩
theorem QFF{n:Int}(hF:Fits F w)(hGl:JE F)(hy:X4 F y)(hl:vG y):Qf prog 23 [y.v,.int .i64 n] w F (.bool (Ff y n)):=by
 refine QU.intro (G:=λF=>JE F/\X4 F y) func23 rfl tH rfl rfl hF (λF' hF'=>⟨hGl.le hF',hy.le hF'⟩)<|wa<|Qp rfl (vs:=[_,_,_]) rfl λb2=>wZ rfl<|wa<|QA (wO I J6 .here)<|QI rfl (λ_ _ f k=>uk (y:=y) f k.2 hl) λ_=>QA (XL rfl)<|wW rfl ?_
 refine Qn (t:=8) rfl (λhb8=>?_) λhb8=>?_
 ·refine wB 4 I<|Jn I I<|Jn I I<|Jn I I<|Jn I I<|wD 6 I ?_
  exact wg I I (congrArg ab (by unfold Ff;rw[hb8];rfl)) tL
 have ht:GJ y:=hl.ts (by simpa using hb8);refine QL I I<|QA (wO I J6 .here)<|QL I I<|QI I (λ_ _ f k=>QA3 (y:=y) f k.1.1 k.1.2 ht) λ_=>wB 4 I ?_
 refine Qn (t:=12) rfl (λhb12=>?_) λhb12=>?_
 ·refine QL I I<|QA (wO I J6 .here)<|wB 3 I<|QI I (λ_ _ f k=>QGM (y:=y) f k.1.1.1 k.1.1.2 hl tF) λ_=>QL I I<|QA (XL I)<|wD 7 I ?_
  exact wg I I (congrArg ab (by unfold Ff;rw[hb8,hb12];rfl)) tL
 refine wD 11 I ?_;exact wg I I (congrArg ab (by unfold Ff;rw[hb8,hb12];rfl)) tL
theorem Xgn{r:Sr}(hF:Fits F w)(hGl:JE F)(hy:X4 F y)(ht:GJ y)(hx:IF F r tb)(hc:QCR r tb):Qf prog 64 [y.v,r.v] w F (.int .i64 (Xf7 y tb)):=by
 refine QU.intro (G:=λF=>JE F/\X4 F y/\IF F r tb) func64 rfl tH rfl rfl hF (λF' hF'=>⟨hGl.le hF',hy.le hF',hx.le hF'⟩)<|wa<|Qp rfl (vs:=[_,_,_]) rfl λb2=>wZ rfl<|QG<|wa<|QA (wO I J6 .here)<|QI rfl (λ_ _ f k=>QA3 (y:=y) f k.1 k.2.1 ht) λ_=>wZ rfl<|wb rfl<|QA (QT rfl rfl rfl)<|QE<|QC ?_
 refine QQ I (λhc2=>?_) λhc2=>?_
 ·have h9:=bne_iff_ne.1 hc2;refine wA 7 I ?_;exact wg I I (congrArg (ak .i64) (by unfold Xf7;rw[if_pos h9])) tL
 have h9:=bne_eq_false_iff_eq.1 hc2;refine wC 4 I<|QA (QH I VY Z6)<|QA (Qe I Z6 .here (.skip .h1))<|QA (Qg I VJ)<|wW I<|QI I (λ_ _ f k=>Xfn (n:=y.rt.n) f k.1.2.2 hc) λ_=>wD 4 I ?_
 exact wg I I (congrArg (ak .i64) (by unfold Xf7;rw[if_neg (by rw[h9];decide)])) tL
theorem Xgm{r:Sr}(hF:Fits F w)(hx:IF F r tb)(hn:r.n<=9223372036854775807)(hz:∀b∈tb,b.w.n<=9223372036854775807/\b.l.n<=9223372036854775807):Qf prog 46 [r.v] w F (.bool (Xdo tb)):=by
 have hxr:=hx.len;have hem4:∀ {i:Nat},i<(tb.take 4).length->i<tb.length:=λh=>by rw[au]at h;omega
 refine QU.intro (G:=λF=>IF F r tb) func46 rfl tH rfl rfl hF (λF' hF'=>hx.le hF')<|wa<|wZ rfl<|QG ?_
 refine ZZ [(0,_)] [(16,.bool (stN tb.length))] wk ?_ ?_
 ·refine wA 2 I<|QA (Qg I EC)<|wB 2 I ?_
  refine Qn (t:=7) rfl (λhb7=>?_) λhb7=>?_
  ·refine wB 3 I<|QA (Qg I EC)<|wB 4 I ?_
   refine Qn (t:=12) rfl (λhb12=>?_) λhb12=>?_
   ·refine wB 5 I ?_;exact JY ⟨rfl,(congrArg (λb=>some (ab b)) (by unfold stN;rw[hxr,hb7,hb12];rfl)),trivial⟩ we tM
   refine wB 3 I<|QA (Qg I EC)<|wB 4 I ?_
   exact JY ⟨rfl,(congrArg (λb=>some (ab b)) (by unfold stN;rw[hxr,hb7,hb12];rfl)),trivial⟩ we tM
  refine wB 8 I<|QA (Qg I EC)<|wB 4 I ?_
  exact JY ⟨rfl,(congrArg (λb=>some (ab b)) (by unfold stN;rw[hxr,hb7];rfl)),trivial⟩ we tM
 simp only[ae,af];refine QQ I (λhc2=>?_) λhc2=>?_
 ·have h16:stN tb.length=true:=hc2;refine wA 6 I ?_;exact wg I I (congrArg ab (by unfold Xdo;rw[h16];rfl)) tL
 have h16:stN tb.length=false:=hc2;refine wC 9 I<|J9 (ι:=Wo (tb.take 4) stX) [(0,_)] (λi=>[(3,.int .i64 ((i.i:Nat):Int))]) (λi=>(tb.take 4).length-i.i) (Wo.start _ _) wk wk λi=>?_
 simp only[ae,af];have hi:=i.le;have hi4:i.i<=tb.length:=by rw[au]at hi;omega
 refine QG ?_;refine ZZ [(0,_),(3,_)] [(24,.bool (decide (i.i<(tb.take 4).length)))] wm ?_ ?_
 ·refine wA 3 I<|QA (Qg I EC)<|wB 2 I ?_
  refine Qn (t:=21) rfl (λhb21=>?_) λhb21=>?_
  ·refine wB 6 I ?_;exact JY ⟨rfl,rfl,(congrArg (λb=>some (ab b)) (by rw[au];have hb:=wi hb21;exact decide_eq_decide.2 O)),trivial⟩ we tM
  refine wB 4 I ?_;exact JY ⟨rfl,rfl,(congrArg (λb=>some (ab b)) (by rw[au];have hb:=wj hb21;rw[decide_eq_false O])),trivial⟩ we tM
 simp only[ae,af];refine QQ I (λhc2=>?_) λhc2=>?_
 ·have hlt4:i.i<(tb.take 4).length:=wi hc2;have hlt:i.i<tb.length:=hem4 hlt4;have hem:=Qw hlt;have he4:el (tb.take 4) i.i=el tb i.i:=Xhc hlt4;refine wC 4 I ?_;refine ZZ [(0,_),(3,_)] [(51,.bool (!(stX (el tb i.i))))] wm ?_ ?_
  ·refine wA 3 I<|QA (Q3 (n:=r.n) i.i (λF hx=>hx.row) rfl rfl EC X8 O)<|QA (QH I Ec JF)<|QA (JA (n:=r.n) ((i.i)*3+0) (λF hx=>hx.row) O rfl JF (JN (f:=uI) (l:=tb) Cb O rfl))<|Qb I (Q5 YG) JF Im I I λb32=>QI I (λ_ _ f k=>QGb (l:=[(el tb i.i).e]) f (Qy.of (n:=1) (sz:=1) (cs:=[(el tb i.i).e].map tx) k.2 I) rfl tF) λ_=>wW I ?_
   refine Qn (t:=34) rfl (λhb34=>?_) λhb34=>?_
   ·refine wB 18 I ?_;exact JY ⟨rfl,rfl,(congrArg (λb=>some (ab b)) (by unfold stX;rw[aj,show cT [(el tb i.i).e]=true from hb34];rfl)),trivial⟩ we λ_ h=>h.1.1
   refine wB 5 I<|QA (Q3 (n:=r.n) i.i (λF h9=>h9.1.1.row) rfl rfl EC X8 O)<|QL I I<|QA (QH I Ub J0)<|QL I I<|QA (JA (n:=r.n) ((i.i)*3+1) (λF h9=>h9.1.1.row) O rfl J0 (JN (f:=uI) (l:=tb) Cb O rfl))<|QL I I<|QI I (λ_ _ f k=>um f (k.1.1.bx _ hem).1 (hz _ hem).1) λ_=>QL I I<|QA (XL I)<|wB 2 I ?_
   refine Qn (t:=43) rfl (λhb43=>?_) λhb43=>?_
   ·refine wB 9 I ?_;exact JY ⟨rfl,rfl,(congrArg (λb=>some (ab b)) (by unfold stX;rw[aj,show cT [(el tb i.i).e]=false from hb34,hb43];rfl)),trivial⟩ we λ_ h=>h.1.1.1
   refine wB 5 I<|QA (Q3 (n:=r.n) i.i (λF h9=>h9.1.1.1.row) rfl rfl EC X8 O)<|QL I I<|QA (QH I N6 J0)<|QL I I<|QA (JA (n:=r.n) ((i.i)*3+2) (λF h9=>h9.1.1.1.row) O rfl J0 (JN (f:=uI) (l:=tb) Cb O rfl))<|QL I I<|QI I (λ_ _ f k=>um f (k.1.1.1.bx _ hem).2 (hz _ hem).2) λ_=>QL I I<|QA (XL I)<|wB 2 I ?_
   exact JY ⟨rfl,rfl,(congrArg (λb=>some (ab b)) (by unfold stX;rw[aj,show cT [(el tb i.i).e]=false from hb34,hb43];rfl)),trivial⟩ we λ_ h=>h.1.1.1.1
  simp only[ae,af];refine QQ I (λhc2=>?_) λhc2=>?_
  ·have h51:stX (el (tb.take 4) i.i)=false:=by rw[he4];simpa using hc2
   refine wA 6 I ?_
   repeat first|refine Q6 ?_|refine Qv ?_
   exact wg I I (congrArg ab (by unfold Xdo;rw[h16,i.hit hlt4 h51];rfl)) tL
  have h51:stX (el (tb.take 4) i.i)=true:=by rw[he4];simpa using hc2
  refine QN<|Qj<|wE 3 I<|QA (Qu I I O)<|wB 2 I ?_
  exact Ql (i.next hlt4 h51) (by show(tb.take 4).length-(i.i+1)<(tb.take 4).length-i.i;omega) wm we tM
 have hge4:(tb.take 4).length<=i.i:=tD<|wj hc2
 refine Qx ?_
 repeat first|refine QY ?_|refine QO tH ?_
 refine QZ<|wE 7 I ?_
 exact wg I I (congrArg ab (by unfold Xdo;rw[h16,i.stop hge4];rfl)) tL
section
open Go.RowKit Go.ChangeShapes Go.WideShapes Ig
section
variable{H:Type}{enc:TypeId×Value->H}{w:World}
def QGx(n:Nat):Prop:=n<=9223372036854775807
set_option maxRecDepth 100000 in
theorem QFd{m:Nat}{cs:List Value}{x:DataW H×List MemPlace}(h:ax enc prog w 0 (λ_=>true) true m 36 cs=some x):∃(r:Sr) (l:List (List UInt8×List UInt8)),cs=[.slice r.q r.n r.cap]/\Ks (Vx w) r l/\QGx r.n:=by
 obtain⟨q,n,cap,l,h1,h2,h3,h4,_,_⟩:=Pe (f:=NU) (Q:=λ_=>True) underlying36 (show prog.cellsOf 40=2 by kernel_rfl) tF (λ_=>rfl) (λn cs x h=>by obtain⟨y,hy⟩:=xF n cs x h;exact⟨y,hy,trivial⟩) h;exact⟨⟨q,n,cap⟩,l,h1,⟨h2,h3⟩,h4⟩
theorem QAc(n:Nat)(cs:List Value)(x:DataW H×List MemPlace)(h:ax enc prog w 0 (λ_=>true) true n 9 cs=some x):∃y:List UInt8,cs=[tx y]/\y.length<=9223372036854775807:=by
 obtain⟨s,rfl,_,hs⟩:=DataW.trod_string underlying9 h;refine⟨s.data.toList,by simp[tx],?_⟩;unfold maxLen at hs;have:s.data.toList.length=s.size:=tJ;omega
set_option maxRecDepth 100000 in
theorem QBJ(m:Nat)(cs:List Value)(x:DataW H×List MemPlace)(h:ax enc prog w 0 (λ_=>true) true m 76 cs=some x):
  ∃a:NQ,cs=[a.1.v]/\(Qy (Vx w) a.1.q a.1.n 2 (a.2.flatMap VM)/\Yy (Vx w) a.2)/\a.2.length=a.1.n/\QGx a.1.n/\∀t∈a.2,QGw t:=by
 obtain⟨q,n,cap,l,h1,h2,h3,h4,h5,h6⟩:=Pe (cs:=cs) (f:=VM) (Q:=λy=>J8 (Vx w) y.r y.k/\QGw y) underlying76 (show prog.cellsOf 108=2 by kernel_rfl) tF (λ_=>rfl) ua h;exact⟨(⟨q,n,cap⟩,l),h1,⟨h2,λt ht=>(h5 t ht).1⟩,h3,h4,λt ht=>(h5 t ht).2⟩
def QFP(l:List NQ):(l.flatMap λa=>[a.1.v])=l.map λe=>e.1.v:=by
 induction l with
 |nil=>rfl
 |cons a l ih=>rw[List.flatMap_cons,ih];rfl
set_option maxRecDepth 100000 in
theorem QEz{b:Nat}{v:Value}{d:DataW H}{p:List MemPlace}(hv:aP prog w .any b 38 v)(h:aR enc prog w 0 (λ_=>true) true 38 v d p):∃y:Xz,v=y.v/\X4 (Vx w) y/\vG y:=by
 obtain⟨v0,v1,v2,yz0,y1,y2,n,rfl,_,_,h0,h1,h2⟩:=Joins.open_agg3 underlying38 tE tE hv h;obtain⟨q0,n0,c0,nl,e0,a1,a2,a3,a4,a5⟩:=Pe (cs:=[v0]) (f:=λy=>[tx y]) (Q:=λy=>y.length<=9223372036854775807) underlying34 (show prog.cellsOf 9=1 by kernel_rfl) tF (λ_=>rfl) QAc h0;obtain⟨q1,n1,c1,rl,e1,b1,b2,b3,b4,b5⟩:=Pe (cs:=[v1]) (f:=λa:NQ=>[a.1.v]) (Q:=λa=>(Qy (Vx w) a.1.q a.1.n 2 (a.2.flatMap VM)/\Yy (Vx w) a.2)/\a.2.length=a.1.n/\QGx a.1.n/\∀t∈a.2,QGw t) underlying35 (show prog.cellsOf 76=1 by kernel_rfl) tF (λ_=>rfl) QBJ h1;obtain⟨r2,sl,e2,s1,s2⟩:=QFd h2;obtain rfl:=(aD e0).1;obtain rfl:=(aD e1).1;obtain rfl:=(aD e2).1;rw[QGf]at a1;rw[QFP]at b1;exact⟨⟨⟨q0,n0,c0⟩,nl,⟨q1,n1,c1⟩,rl,r2,sl⟩,rfl,⟨a1,b1,λe he=>(b4 e he).1,s1.row,a2,b2,s1.len⟩,⟨a3,a5,a4,b3,s2,λe he=>⟨(b4 e he).2.1,(b4 e he).2.2.1,λt ht=>((b4 e he).1.2 t ht).2.1⟩⟩⟩
theorem trod_struct3{t:TypeId}{f0 f1 f2:Field}{fuel:Nat}{cs:List Value}{x:DataW H×List MemPlace}(ht:prog.underlying t=some (.struct #[f0,f1,f2]))(h:ax enc prog w 0 (λ_=>true) true fuel t cs=some x):
  ∃yz0 y1 y2 n,cs.length=prog.cellsOf t/\ax enc prog w 0 (λ_=>true) true n f0.type ((cs.drop f0.offset).take (prog.cellsOf f0.type))=some yz0/\ax enc prog w 0 (λ_=>true) true n f1.type ((cs.drop f1.offset).take (prog.cellsOf f1.type))=some y1 /\
   ax enc prog w 0 (λ_=>true) true n f2.type ((cs.drop f2.offset).take (prog.cellsOf f2.type))=some y2:=by
 obtain⟨xs,n,_,rfl,hl,hlen,hf⟩:=DataW.trod_struct ht h
 match xs,hlen with
 |[yz0,y1,y2],_=>exact⟨yz0,y1,y2,n,hl,by simpa using hf 0 f0 rfl,by simpa using hf 1 f1 rfl,by simpa using hf 2 f2 rfl⟩
set_option maxRecDepth 100000 in
theorem Xgz(m:Nat)(cs:List Value)(x:DataW H×List MemPlace)(h:ax enc prog w 0 (λ_=>true) true m 123 cs=some x):∃y:Wl,cs=uI y/\(Ks (Vx w) y.w y.wl/\Ks (Vx w) y.l y.ll)/\QGx y.w.n/\QGx y.l.n:=by
 obtain⟨yz0,y1,y2,n,hl,h0,h1,h2⟩:=trod_struct3 underlying123 h;have c3:prog.cellsOf 123=3:=tE;have c1:prog.cellsOf 22=1:=tE;have c2:prog.cellsOf 36=1:=tE;rw[c3]at hl
 match cs,hl with
 |[a,b,c],_ =>
  dsimp only at h0 h1 h2;rw[c1]at h0;rw[c2]at h1 h2;obtain⟨e,rfl⟩:=LG jD (v:=a) h0;obtain⟨r1,l1,e1,p1,q1⟩:=QFd (cs:=[b]) h1;obtain⟨r2,l2,e2,p2,q2⟩:=QFd (cs:=[c]) h2;obtain rfl:=(aD e1).1;obtain rfl:=(aD e2).1;exact⟨⟨e,r1,l1,r2,l2⟩,rfl,⟨p1,p2⟩,q1,q2⟩
set_option maxRecDepth 100000 in
theorem Xgk{b:Nat}{v:Value}{d:DataW H}{p:List MemPlace}(hv:aP prog w .any b 77 v)(h:aR enc prog w 0 (λ_=>true) true 77 v d p):∃(r:Sr) (tb:List Wl),v=r.v/\IF (Vx w) r tb/\QGx r.n/\∀b∈tb,QGx b.w.n/\QGx b.l.n:=by
 obtain⟨q,n,cap,l,h1,h2,h3,h4,h5⟩:=QDZ (f:=uI) (Q:=λy=>(Ks (Vx w) y.w y.wl/\Ks (Vx w) y.l y.ll)/\QGx y.w.n/\QGx y.l.n) underlying77 (show prog.cellsOf 123=3 by kernel_rfl) tF Cb Xgz hv h;exact⟨⟨q,n,cap⟩,l,h1,⟨h2,h3,λb hb=>(h5 b hb).1⟩,h4,λb hb=>(h5 b hb).2⟩
end
end
def eqI8(a:Int):It .eql (.int .i64 a) (.int .i64 a)=some (.bool true):=by simp[It]
structure QxR(F:Gs)(r:Sr)(vs:List XP):Prop where
 row:Qy F r.q r.n 2 (vs.flatMap LP)
 len:vs.length=r.n
def QxR.le{F':Gs}{r:Sr}{vs:List XP}(h:QxR F r vs)(k:Gs.le F F'):QxR F' r vs:=⟨h.row.le k,h.len⟩
def QEi(x:XP):∀v∈LP x,v.oneCell'=true:=λv hv=>by
 simp only[LP,aI,aF,or_false]at hv;rcases hv with rfl | rfl<;>rfl
def QEh(h:∀s∈l,Xd s.1 s.2=0):l.flatMap NU=(lV l).flatMap LP:=by
 induction l with
 |nil=>rfl
 |cons s l ih =>
  have h1:=Ku (h s (.head _));show NU s++l.flatMap NU=LP (JB s)++(lV l).flatMap LP;rw[ih λu hu=>h u (.tail _ hu)];congr 1;show[tx s.1,tx s.2]=[tx (JP (Qz s.1)),tx (JP (Qz s.2))];rw[<-(XM h1.1).1,<-(XM h1.2.1).1]
def Ks.q{r:Sr}(hx:Ks F r l)(h:∀s∈l,Xd s.1 s.2=0):QxR F r (lV l):=⟨by rw[<-QEh h];exact hx.row,by rw[Yg];exact hx.len⟩
def Xc7(vs:List XP):(I4 vs).flatMap NU=vs.flatMap LP:=by unfold I4;rw[List.flatMap_map];rfl
def QxR.CW{r:Sr}{vs:List XP}(h:QxR F r vs):Ks F r (I4 vs):=⟨by rw[Xc7];exact h.row,by rw[vz];exact h.len⟩
def BQ.q{c:Sr}{vs:List XP}(h:BQ F c vs):QxR F c vs:=⟨h.1,h.2.1.symm⟩
structure Xaf(n:Nat)(f:Nat->XP) where
 i:Nat
 v:Value
 ob:List (Nat×Obj)
 le:i<=n
 hr:Q8 40 2 v i (((ai i).map f).flatMap LP) ob
def Xaf.start(n:Nat)(f:Nat->XP):Xaf n f:=⟨0,.slice none 0 0,[],ar _,.nil⟩
def Xaf.next{n:Nat}{f:Nat->XP}(s:Xaf n f)(h:s.i<n){v:Value}{ob:List (Nat×Obj)}{x:XP}(hr:Q8 40 2 v (s.i+1) (((ai s.i).map f).flatMap LP++LP x) ob)(hx:x=f s.i):Xaf n f :=
 ⟨s.i+1,v,ob,h,by rw[aE,aG,show aO f [s.i]=[x] by rw[hx];rfl,CK];exact hr⟩
def Xaf.row{f:Nat->XP}(s:Xaf n f)(h:s.i=n){F:Gs}{q:Option Addr}{c:Nat}(hr:Qy F q s.i 2 (((ai s.i).map f).flatMap LP)):QxR F ⟨q,s.i,c⟩ ((ai n).map f):=⟨by have e:(ai n).map f=(ai s.i).map f:=congrArg (λk=>(ai k).map f) h.symm;rw[e];exact hr,by rw[ah,ag,h]⟩
structure GdB(n:Nat)(v:List XP):Prop where
 len:v.length=n
 sz:∀a∈v,Xf a 2400
 lg:∀a∈v,Jh a.1=false/\Jh a.2=false
def GdB.of(h:YZ n l=0):GdB n (lV l):=⟨by rw[Yg];exact(XZ h).1,QBo h,λa ha=>by
 obtain⟨s,hs,rfl⟩:=List.mem_map.1 ha;have h1:=Ku ((XZ h).2 s hs);exact⟨(XM h1.1).2,(XM h1.2.1).2⟩⟩
def GdB.Xju{v:List XP}(h:GdB n v):Jx v=false:=dT λa ha=>by rw[(h.lg a ha).1,(h.lg a ha).2];rfl
structure Xgf(F:Gs)(r:Sr)(tb:List Wl):Prop where
 a:IF F r tb
 q:∀b∈tb,QxR F b.w (lV b.wl)/\QxR F b.l (lV b.ll)
theorem Xgf.le{F':Gs}{r:Sr}(h:Xgf F r tb)(k:Gs.le F F'):Xgf F' r tb:=⟨h.a.le k,λb hb=>⟨(h.q b hb).1.le k,(h.q b hb).2.le k⟩⟩
theorem IF.q{r:Sr}(h:IF F r tb)(ho:QHw n tb):Xgf F r tb:=⟨h,λb hb=>by
 obtain⟨i,hi,rfl⟩:=aK hb;rw[<-Jb hi];have hm:=Qw hi;exact⟨(h.bx _ hm).1.q (XZ (ho.w i hi)).2,(h.bx _ hm).2.q (XZ (ho.l i hi)).2⟩⟩
def Wl.sl(b:Wl)(k:Nat):List (List UInt8×List UInt8):=if k=0 then b.wl else b.ll
def QGA{a b:Rat}{k:Nat}(ha:JW a<=k)(hb:JW b<=k):JW (E2 a b)<=k:=by unfold E2;split<;>assumption
theorem QGV(m x:Rat):Gx m x=E2 m x:=by
 have h1:=Uj m x;have h2:=K3 x m;unfold Gx E2;by_cases h:Yw m x>=0
 ·rw[if_pos h];have h3:=h1.1 h;rw[if_neg (λk=>by have:=h2.1 k;grind)]
 rw[if_neg h];rw[if_pos (h2.2 (by have:¬x<=m:=λk=>h (h1.2 k);grind))]
section
variable[Dr][df:Df]{P:Program}{ops:Array Oper}{Q:Exit->Act->World->Prop}{l:List Oper}{N:Nat}{m:Sl}{w0:World}{F0:Gs}{bs:List (Nat×Obj)}{G:Gs->Prop}
variable{d:Nat}{ty:TypeId}{pos:String}{aft:Array Edge}{f:FuncId}{args:Array Operand}{tys:Array TypeId}{vs:List Value}{γ:Type}{val:γ->Value}{E':γ->Env}{bs1:List (Nat×Obj)}
theorem Xj9{x:Operand}{c1 c2:List Value}{bs0:List (Nat×Obj)}{G0:Gs->Prop}(hx:ev m x=some (.func (.func f) c1.toArray c2.toArray))(hv:E3 m args.toList=some vs)(hp:bs.Perm bs1)(hc:XN P f (c1++vs++c2) ⟨w0,F0,bs1,G⟩ val E')(h0:∀c w,St (E' c) w->St ⟨w0,F0,bs0,G0⟩ w)
  (k:∀c,JD P ops Q ⟨w0,F0,bs0,G0⟩ l N ((d,val c)::m) (E' c)) (hd:J5 N (some d)=true:=by rfl):JD P ops Q ⟨w0,F0,bs0,G0⟩ (⟨some d,.call ⟨.value x,args,tys⟩,ty,pos,aft,none⟩::l) N m ⟨w0,F0,bs,G⟩:=by
 intro hE a w ha hw;refine .inr ⟨rfl,?_⟩;rw[if_pos (by simp[Region.wanted])];unfold Oper.wp;rw[Gr hc.1 (ha.ev hx)];have e:c1.toArray++args.map a.eval++c2.toArray=(c1++vs++c2).toArray:=by
  have:=ha.E3 hv;have e2:args.map a.eval=vs.toArray:=by rw[<-this];apply aS ;simp
  rw[e2];apply aS;simp
 simp only[Oper.upon];rw[e];refine(hc.2 w (hw.perm hp)).mono ?_;rintro e w' ⟨c,rfl,h⟩;exact⟨h0 c w' h,k c (h0 c) _ w' (ha.put hd (val c)) h⟩
end
def Xat(a c:XP):XP:=(E2 a.1 c.1,UK a.2 c.2)
def Xft(a c:XP):Bool:=decide (Yw (Xat a c).1 (Xat a c).2<=0)
def Xfg{a b:Rat}{k:Nat}(ha:JW a<=k)(hb:JW b<=k):JW (UK a b)<=k:=by unfold UK;split<;>assumption
def okI(va vb:List XP)(i:Nat):Bool:=(ai i).all λj=>Xft (el va j) (el vb j)
def Xhs(va vb:List XP)(i:Nat):okI va vb (i+1)=(okI va vb i&&Xft (el va i) (el vb i)):=by unfold okI;rw[aE,aM];simp
theorem Xjt{w0:World}{F0:Gs}{bs:List (Nat×Obj)}{G:Gs->Prop}{x y:Sp}{a c:XP}{bk:Nat}{k:Bool}(hX:∀F,G F->Jl F x a)(hY:∀F,G F->Jl F y c)(ha:Xf a 2400)(hc:Xf c 2400):XN prog 244 [x.v,y.v,.pointer (some ⟨bk,0,none⟩)] ⟨w0,F0,(bk,.cells #[.bool k] 4 (0,0))::bs,G⟩ Sp.v (λz=>⟨w0,F0,(bk,.cells #[.bool (k&&Xft a c)] 4 (0,0))::bs,λF=>G F/\Jl F z (Xat a c)⟩):=by
 refine XN.intro func244 rfl tH rfl rfl<|wa<|Qp rfl (vs:=[_,_,_,_,_,_,_,_]) rfl λb3=>Qp rfl (vs:=[_,_,_,_,_,_,_,_]) rfl λb4=>Qc Jk λb5=>wY<|QG<|Kr (r:=[0,1,2,3,4,5,6,7,8,9,10,11,12,13,14]) (.cons_cons _ (.cons_cons _ (.cons_cons _ we))) mixed tE rfl<|Jr 0 tE rfl rfl<|QK (QH rfl Xu QS)<|JC<|Jr 1 tE rfl rfl<|QK (wP I QS .u2)<|JC<|Jr 2 tE rfl rfl<|QK (QH rfl Xu QS)<|JC<|Jr 3 tE rfl rfl<|QK (wP I QS .u1)<|JC<|Jr 6 tE rfl rfl<|QK (QH rfl Xt QS)<|JC ?_
 refine Jr 7 tE rfl rfl<|QK (wR I QS .u2)<|JC<|Jr 8 tE rfl rfl<|QK (QH I Xt QS)<|JC<|Jr 9 tE rfl rfl<|QK (wR I QS .u1)<|JC ?_
 refine Xjr 4 10 13 tE tE rfl rfl rfl rfl rfl rfl rfl rfl rfl ?_ ?_ ?_
 ·refine Qo I (Q5 Xb) QS Jw I I (λb11=>?_) (λw h=>h.imp (.cons_cons _ (.cons_cons _ (.cons_cons _ we))) tM);refine JC ?_;refine Xjr 5 10 13 tE tE rfl rfl rfl rfl rfl rfl rfl rfl rfl ?_ ?_ ?_
  ·refine QR I (λ_ _ f k=>Xo (x:=x.lo) (r:=a.1) (n:=1) (ps:=[(y.lo,c.1)]) f (hX _ k.1).1 (Qy.of (n:=1) (sz:=4) (cs:=[(y.lo,c.1)].flatMap λe=>Kj e.1) k.2 I) (λp hp=>by rw[List.mem_singleton.1 hp];exact(hY _ k.1).1) rfl tF ⟨aa ha.1 tF,λp hp=>by rw[List.mem_singleton.1 hp];exact aa hc.1 tF⟩) (λc12=>JC ?_);refine NO 10 13 tE tE rfl rfl rfl rfl rfl rfl ?_ ?_
   ·refine Qo I (Q5 Xb) QS Jw I I (λb17=>?_) (λw h=>h.imp (.cons_cons _ (.cons_cons _ (.cons_cons _ we))) λF h=>h.1.1);refine JC ?_;refine NO 11 13 tE tE rfl rfl rfl rfl rfl rfl ?_ ?_
    ·refine QR I (λ_ _ f k=>V5 (x:=x.hi) (r:=a.2) (n:=1) (ps:=[(y.hi,c.2)]) f (hX _ k.1.1.1).2 (Qy.of (n:=1) (sz:=4) (cs:=[(y.hi,c.2)].flatMap λe=>Kj e.1) k.2 I) (λp hp=>by rw[List.mem_singleton.1 hp];exact(hY _ k.1.1.1).2) rfl tF ⟨aa ha.2 tF,λp hp=>by rw[List.mem_singleton.1 hp];exact aa hc.2 tF⟩) (λc18=>JC<|Jr 12 tE rfl rfl<|QK (Q4 I Z2 Jk (.cons (vs:=[_,_,_,_]) I I I .h4 (.cons (vs:=[_,_,_,_]) I I I (.skip (.skip (.skip (.skip .h4)))) .nil)))<|JC<|Xe 13 tE tE rfl rfl rfl<|Xfh Jk λb6=>JC<|Xe 14 tE tE rfl rfl rfl<|JV (vs:=[_,_,_,_,_,_,_,_]) I I I Qk I .here (.cons_cons _ (.cons_cons _ (.cons_cons _ we))) (λ_ h=>h.1.1.1.1) .h8 w8<|JC<|Yk<|QC<|wa<|QA (Qe I R5 .u4 .h1)<|wW I ?_);refine Qn (t:=21) rfl (λhb21=>?_) λhb21=>?_
     ·refine QL I I<|QA (QH I Xu QS)<|QL I I<|QA (wP I QS .here)<|QL I I<|QA (QH I Xt QS)<|QL I I<|QA (wR I QS .here)<|QL I I<|QI I (λ_ _ f k=>G3 (x:=c12) (y:=c18) (r:=(Xat a c).1) (s:=(Xat a c).2) f k.1.1.2 k.2 (aa (QGA ha.1 hc.1) tF) (aa (Xfg ha.2 hc.2) tF)) λ_=>wB 3 I<|QW (vs:=[_]) I I I R5 I .u4 .h1 wk<|wY<|wa<|QA (wQ I Qk .here)<|QW (vs:=[_,_,_,_,_,_,_,_]) I I I Qk I .u1 .h8 w8<|wY<|QX ?_
      exact Y3 (⟨c12,c18⟩) I (.JX (c:=[_,_,_,_,_,_,_,_]) I Qk .u1 .nil) (rfl) λw h=>St.imp h (bs':=(bk,.cells #[.bool (k&&Xft a c)] 4 (0,0))::bs) (by rw[hb21];exact .cons _ (.cons _ (.cons _ (.cons _ we)))) λF h9=>⟨h9.1.1.1.1.1,h9.1.1.1.2,h9.1.2⟩
     refine wB 7 I<|QW (vs:=[_]) I I I R5 I .u4 .h1 wk<|wY<|wa<|QA (wQ I Qk .here)<|QW (vs:=[_,_,_,_,_,_,_,_]) I I I Qk I .u1 .h8 w8<|wY<|QX ?_
     exact Y3 (⟨c12,c18⟩) I (.JX (c:=[_,_,_,_,_,_,_,_]) I Qk .u1 .nil) (rfl) λw h=>St.imp h (bs':=(bk,.cells #[.bool (k&&Xft a c)] 4 (0,0))::bs) (by rw[hb21];exact .cons _ (.cons _ (.cons _ (.cons _ we)))) λF h9=>⟨h9.1.1.1.1,h9.1.1.2,h9.2⟩
    refine Xfh Jk (λb6=>JC<|Xe 11 tE tE rfl rfl rfl<|QR I (λ_ _ f k=>V5 (x:=x.hi) (r:=a.2) (n:=1) (ps:=[(y.hi,c.2)]) f (hX _ k.1.1.1).2 (Qy.of (n:=1) (sz:=4) (cs:=[(y.hi,c.2)].flatMap λe=>Kj e.1) k.2 I) (λp hp=>by rw[List.mem_singleton.1 hp];exact(hY _ k.1.1.1).2) rfl tF ⟨aa ha.2 tF,λp hp=>by rw[List.mem_singleton.1 hp];exact aa hc.2 tF⟩) λc18=>JC<|Jr 12 tE rfl rfl<|QK (Q4 I Z2 Jk (.cons (vs:=[_,_,_,_]) I I I .h4 (.cons (vs:=[_,_,_,_]) I I I (.skip (.skip (.skip (.skip .h4)))) .nil)))<|JC<|Xe 14 tE tE rfl rfl rfl<|JV (vs:=[_,_,_,_,_,_,_,_]) I I I Qk I .here (.cons_cons _ (.cons_cons _ (.cons_cons _ we))) (λ_ h=>h.1.1.1.1) .h8 w8<|JC<|Yk<|QC<|wa<|QA (Qe I R5 .u4 .h1)<|wW I ?_);refine Qn (t:=21) rfl (λhb21=>?_) λhb21=>?_
    ·refine QL I I<|QA (QH I Xu QS)<|QL I I<|QA (wP I QS .here)<|QL I I<|QA (QH I Xt QS)<|QL I I<|QA (wR I QS .here)<|QL I I<|QI I (λ_ _ f k=>G3 (x:=c12) (y:=c18) (r:=(Xat a c).1) (s:=(Xat a c).2) f k.1.1.2 k.2 (aa (QGA ha.1 hc.1) tF) (aa (Xfg ha.2 hc.2) tF)) λ_=>wB 3 I<|QW (vs:=[_]) I I I R5 I .u4 .h1 wk<|wY<|wa<|QA (wQ I Qk .here)<|QW (vs:=[_,_,_,_,_,_,_,_]) I I I Qk I .u1 .h8 w8<|wY<|QX ?_
     exact Y3 (⟨c12,c18⟩) I (.JX (c:=[_,_,_,_,_,_,_,_]) I Qk .u1 .nil) (rfl) λw h=>St.imp h (bs':=(bk,.cells #[.bool (k&&Xft a c)] 4 (0,0))::bs) (by rw[hb21];exact .cons _ (.cons _ (.cons _ (.cons _ we)))) λF h9=>⟨h9.1.1.1.1.1,h9.1.1.1.2,h9.1.2⟩
    refine wB 7 I<|QW (vs:=[_]) I I I R5 I .u4 .h1 wk<|wY<|wa<|QA (wQ I Qk .here)<|QW (vs:=[_,_,_,_,_,_,_,_]) I I I Qk I .u1 .h8 w8<|wY<|QX ?_
    exact Y3 (⟨c12,c18⟩) I (.JX (c:=[_,_,_,_,_,_,_,_]) I Qk .u1 .nil) (rfl) λw h=>St.imp h (bs':=(bk,.cells #[.bool (k&&Xft a c)] 4 (0,0))::bs) (by rw[hb21];exact .cons _ (.cons _ (.cons _ (.cons _ we)))) λF h9=>⟨h9.1.1.1.1,h9.1.1.2,h9.2⟩
   refine Xfh Jk (λb6=>JC<|Xe 10 tE tE rfl rfl rfl ?_);refine Qo I (Q5 Xb) QS Jw I I (λb17=>?_) (λw h=>h.imp (.cons _ (.cons_cons _ (.cons_cons _ (.cons_cons _ we)))) λF h=>h.1.1);refine JC<|Xe 11 tE tE rfl rfl rfl<|QR I (λ_ _ f k=>V5 (x:=x.hi) (r:=a.2) (n:=1) (ps:=[(y.hi,c.2)]) f (hX _ k.1.1.1).2 (Qy.of (n:=1) (sz:=4) (cs:=[(y.hi,c.2)].flatMap λe=>Kj e.1) k.2 I) (λp hp=>by rw[List.mem_singleton.1 hp];exact(hY _ k.1.1.1).2) rfl tF ⟨aa ha.2 tF,λp hp=>by rw[List.mem_singleton.1 hp];exact aa hc.2 tF⟩) λc18=>JC<|Jr 12 tE rfl rfl<|QK (Q4 I Z2 Jk (.cons (vs:=[_,_,_,_]) I I I .h4 (.cons (vs:=[_,_,_,_]) I I I (.skip (.skip (.skip (.skip .h4)))) .nil)))<|JC<|Xe 14 tE tE rfl rfl rfl<|JV (vs:=[_,_,_,_,_,_,_,_]) I I I Qk I .here (.cons_cons _ (.cons_cons _ (.cons_cons _ we))) (λ_ h=>h.1.1.1.1) .h8 w8<|JC<|Yk<|QC<|wa<|QA (Qe I R5 .u4 .h1)<|wW I ?_
   refine Qn (t:=21) rfl (λhb21=>?_) λhb21=>?_
   ·refine QL I I<|QA (QH I Xu QS)<|QL I I<|QA (wP I QS .here)<|QL I I<|QA (QH I Xt QS)<|QL I I<|QA (wR I QS .here)<|QL I I<|QI I (λ_ _ f k=>G3 (x:=c12) (y:=c18) (r:=(Xat a c).1) (s:=(Xat a c).2) f k.1.1.2 k.2 (aa (QGA ha.1 hc.1) tF) (aa (Xfg ha.2 hc.2) tF)) λ_=>wB 3 I<|QW (vs:=[_]) I I I R5 I .u4 .h1 wk<|wY<|wa<|QA (wQ I Qk .here)<|QW (vs:=[_,_,_,_,_,_,_,_]) I I I Qk I .u1 .h8 w8<|wY<|QX ?_
    exact Y3 (⟨c12,c18⟩) I (.JX (c:=[_,_,_,_,_,_,_,_]) I Qk .u1 .nil) (rfl) λw h=>St.imp h (bs':=(bk,.cells #[.bool (k&&Xft a c)] 4 (0,0))::bs) (by rw[hb21];exact .cons _ (.cons _ (.cons _ (.cons _ we)))) λF h9=>⟨h9.1.1.1.1.1,h9.1.1.1.2,h9.1.2⟩
   refine wB 7 I<|QW (vs:=[_]) I I I R5 I .u4 .h1 wk<|wY<|wa<|QA (wQ I Qk .here)<|QW (vs:=[_,_,_,_,_,_,_,_]) I I I Qk I .u1 .h8 w8<|wY<|QX ?_
   exact Y3 (⟨c12,c18⟩) I (.JX (c:=[_,_,_,_,_,_,_,_]) I Qk .u1 .nil) (rfl) λw h=>St.imp h (bs':=(bk,.cells #[.bool (k&&Xft a c)] 4 (0,0))::bs) (by rw[hb21];exact .cons _ (.cons _ (.cons _ (.cons _ we)))) λF h9=>⟨h9.1.1.1.1,h9.1.1.2,h9.2⟩
  ·refine Qo I (Q5 Xb) QS Jw I I (λb17=>?_) (λw h=>h.imp (.cons_cons _ (.cons_cons _ (.cons_cons _ we))) tN);refine JC ?_;refine NO 5 13 tE tE rfl rfl rfl rfl rfl rfl ?_ ?_
   ·refine QR I (λ_ _ f k=>Xo (x:=x.lo) (r:=a.1) (n:=1) (ps:=[(y.lo,c.1)]) f (hX _ k.1.1).1 (Qy.of (n:=1) (sz:=4) (cs:=[(y.lo,c.1)].flatMap λe=>Kj e.1) k.1.2 I) (λp hp=>by rw[List.mem_singleton.1 hp];exact(hY _ k.1.1).1) rfl tF ⟨aa ha.1 tF,λp hp=>by rw[List.mem_singleton.1 hp];exact aa hc.1 tF⟩) (λc12=>JC ?_);refine NO 11 13 tE tE rfl rfl rfl rfl rfl rfl ?_ ?_
    ·refine QR I (λ_ _ f k=>V5 (x:=x.hi) (r:=a.2) (n:=1) (ps:=[(y.hi,c.2)]) f (hX _ k.1.1.1).2 (Qy.of (n:=1) (sz:=4) (cs:=[(y.hi,c.2)].flatMap λe=>Kj e.1) k.1.2 I) (λp hp=>by rw[List.mem_singleton.1 hp];exact(hY _ k.1.1.1).2) rfl tF ⟨aa ha.2 tF,λp hp=>by rw[List.mem_singleton.1 hp];exact aa hc.2 tF⟩) (λc18=>JC<|Jr 12 tE rfl rfl<|QK (Q4 I Z2 Jk (.cons (vs:=[_,_,_,_]) I I I .h4 (.cons (vs:=[_,_,_,_]) I I I (.skip (.skip (.skip (.skip .h4)))) .nil)))<|JC<|Xe 13 tE tE rfl rfl rfl<|Xfh Jk λb6=>JC<|Xe 14 tE tE rfl rfl rfl<|JV (vs:=[_,_,_,_,_,_,_,_]) I I I Qk I .here (.cons_cons _ (.cons_cons _ (.cons_cons _ we))) (λ_ h=>h.1.1.1.1) .h8 w8<|JC<|Yk<|QC<|wa<|QA (Qe I R5 .u4 .h1)<|wW I ?_);refine Qn (t:=21) rfl (λhb21=>?_) λhb21=>?_
     ·refine QL I I<|QA (QH I Xu QS)<|QL I I<|QA (wP I QS .here)<|QL I I<|QA (QH I Xt QS)<|QL I I<|QA (wR I QS .here)<|QL I I<|QI I (λ_ _ f k=>G3 (x:=c12) (y:=c18) (r:=(Xat a c).1) (s:=(Xat a c).2) f k.1.2 k.2 (aa (QGA ha.1 hc.1) tF) (aa (Xfg ha.2 hc.2) tF)) λ_=>wB 3 I<|QW (vs:=[_]) I I I R5 I .u4 .h1 wk<|wY<|wa<|QA (wQ I Qk .here)<|QW (vs:=[_,_,_,_,_,_,_,_]) I I I Qk I .u1 .h8 w8<|wY<|QX ?_
      exact Y3 (⟨c12,c18⟩) I (.JX (c:=[_,_,_,_,_,_,_,_]) I Qk .u1 .nil) (rfl) λw h=>St.imp h (bs':=(bk,.cells #[.bool (k&&Xft a c)] 4 (0,0))::bs) (by rw[hb21];exact .cons _ (.cons _ (.cons _ (.cons _ we)))) λF h9=>⟨h9.1.1.1.1.1,h9.1.1.2,h9.1.2⟩
     refine wB 7 I<|QW (vs:=[_]) I I I R5 I .u4 .h1 wk<|wY<|wa<|QA (wQ I Qk .here)<|QW (vs:=[_,_,_,_,_,_,_,_]) I I I Qk I .u1 .h8 w8<|wY<|QX ?_
     exact Y3 (⟨c12,c18⟩) I (.JX (c:=[_,_,_,_,_,_,_,_]) I Qk .u1 .nil) (rfl) λw h=>St.imp h (bs':=(bk,.cells #[.bool (k&&Xft a c)] 4 (0,0))::bs) (by rw[hb21];exact .cons _ (.cons _ (.cons _ (.cons _ we)))) λF h9=>⟨h9.1.1.1.1,h9.1.2,h9.2⟩
    refine Xfh Jk (λb6=>JC<|Xe 11 tE tE rfl rfl rfl<|QR I (λ_ _ f k=>V5 (x:=x.hi) (r:=a.2) (n:=1) (ps:=[(y.hi,c.2)]) f (hX _ k.1.1.1).2 (Qy.of (n:=1) (sz:=4) (cs:=[(y.hi,c.2)].flatMap λe=>Kj e.1) k.1.2 I) (λp hp=>by rw[List.mem_singleton.1 hp];exact(hY _ k.1.1.1).2) rfl tF ⟨aa ha.2 tF,λp hp=>by rw[List.mem_singleton.1 hp];exact aa hc.2 tF⟩) λc18=>JC<|Jr 12 tE rfl rfl<|QK (Q4 I Z2 Jk (.cons (vs:=[_,_,_,_]) I I I .h4 (.cons (vs:=[_,_,_,_]) I I I (.skip (.skip (.skip (.skip .h4)))) .nil)))<|JC<|Xe 14 tE tE rfl rfl rfl<|JV (vs:=[_,_,_,_,_,_,_,_]) I I I Qk I .here (.cons_cons _ (.cons_cons _ (.cons_cons _ we))) (λ_ h=>h.1.1.1.1) .h8 w8<|JC<|Yk<|QC<|wa<|QA (Qe I R5 .u4 .h1)<|wW I ?_);refine Qn (t:=21) rfl (λhb21=>?_) λhb21=>?_
    ·refine QL I I<|QA (QH I Xu QS)<|QL I I<|QA (wP I QS .here)<|QL I I<|QA (QH I Xt QS)<|QL I I<|QA (wR I QS .here)<|QL I I<|QI I (λ_ _ f k=>G3 (x:=c12) (y:=c18) (r:=(Xat a c).1) (s:=(Xat a c).2) f k.1.2 k.2 (aa (QGA ha.1 hc.1) tF) (aa (Xfg ha.2 hc.2) tF)) λ_=>wB 3 I<|QW (vs:=[_]) I I I R5 I .u4 .h1 wk<|wY<|wa<|QA (wQ I Qk .here)<|QW (vs:=[_,_,_,_,_,_,_,_]) I I I Qk I .u1 .h8 w8<|wY<|QX ?_
     exact Y3 (⟨c12,c18⟩) I (.JX (c:=[_,_,_,_,_,_,_,_]) I Qk .u1 .nil) (rfl) λw h=>St.imp h (bs':=(bk,.cells #[.bool (k&&Xft a c)] 4 (0,0))::bs) (by rw[hb21];exact .cons _ (.cons _ (.cons _ (.cons _ we)))) λF h9=>⟨h9.1.1.1.1.1,h9.1.1.2,h9.1.2⟩
    refine wB 7 I<|QW (vs:=[_]) I I I R5 I .u4 .h1 wk<|wY<|wa<|QA (wQ I Qk .here)<|QW (vs:=[_,_,_,_,_,_,_,_]) I I I Qk I .u1 .h8 w8<|wY<|QX ?_
    exact Y3 (⟨c12,c18⟩) I (.JX (c:=[_,_,_,_,_,_,_,_]) I Qk .u1 .nil) (rfl) λw h=>St.imp h (bs':=(bk,.cells #[.bool (k&&Xft a c)] 4 (0,0))::bs) (by rw[hb21];exact .cons _ (.cons _ (.cons _ (.cons _ we)))) λF h9=>⟨h9.1.1.1.1,h9.1.2,h9.2⟩
   refine Xfh Jk (λb6=>JC<|Xe 5 tE tE rfl rfl rfl<|QR I (λ_ _ f k=>Xo (x:=x.lo) (r:=a.1) (n:=1) (ps:=[(y.lo,c.1)]) f (hX _ k.1.1).1 (Qy.of (n:=1) (sz:=4) (cs:=[(y.lo,c.1)].flatMap λe=>Kj e.1) k.1.2 I) (λp hp=>by rw[List.mem_singleton.1 hp];exact(hY _ k.1.1).1) rfl tF ⟨aa ha.1 tF,λp hp=>by rw[List.mem_singleton.1 hp];exact aa hc.1 tF⟩) λc12=>JC<|Xe 11 tE tE rfl rfl rfl<|QR I (λ_ _ f k=>V5 (x:=x.hi) (r:=a.2) (n:=1) (ps:=[(y.hi,c.2)]) f (hX _ k.1.1.1).2 (Qy.of (n:=1) (sz:=4) (cs:=[(y.hi,c.2)].flatMap λe=>Kj e.1) k.1.2 I) (λp hp=>by rw[List.mem_singleton.1 hp];exact(hY _ k.1.1.1).2) rfl tF ⟨aa ha.2 tF,λp hp=>by rw[List.mem_singleton.1 hp];exact aa hc.2 tF⟩) λc18=>JC<|Jr 12 tE rfl rfl<|QK (Q4 I Z2 Jk (.cons (vs:=[_,_,_,_]) I I I .h4 (.cons (vs:=[_,_,_,_]) I I I (.skip (.skip (.skip (.skip .h4)))) .nil)))<|JC<|Xe 14 tE tE rfl rfl rfl<|JV (vs:=[_,_,_,_,_,_,_,_]) I I I Qk I .here (.cons_cons _ (.cons_cons _ (.cons_cons _ we))) (λ_ h=>h.1.1.1.1) .h8 w8<|JC<|Yk<|QC<|wa<|QA (Qe I R5 .u4 .h1)<|wW I ?_);refine Qn (t:=21) rfl (λhb21=>?_) λhb21=>?_
   ·refine QL I I<|QA (QH I Xu QS)<|QL I I<|QA (wP I QS .here)<|QL I I<|QA (QH I Xt QS)<|QL I I<|QA (wR I QS .here)<|QL I I<|QI I (λ_ _ f k=>G3 (x:=c12) (y:=c18) (r:=(Xat a c).1) (s:=(Xat a c).2) f k.1.2 k.2 (aa (QGA ha.1 hc.1) tF) (aa (Xfg ha.2 hc.2) tF)) λ_=>wB 3 I<|QW (vs:=[_]) I I I R5 I .u4 .h1 wk<|wY<|wa<|QA (wQ I Qk .here)<|QW (vs:=[_,_,_,_,_,_,_,_]) I I I Qk I .u1 .h8 w8<|wY<|QX ?_
    exact Y3 (⟨c12,c18⟩) I (.JX (c:=[_,_,_,_,_,_,_,_]) I Qk .u1 .nil) (rfl) λw h=>St.imp h (bs':=(bk,.cells #[.bool (k&&Xft a c)] 4 (0,0))::bs) (by rw[hb21];exact .cons _ (.cons _ (.cons _ (.cons _ we)))) λF h9=>⟨h9.1.1.1.1.1,h9.1.1.2,h9.1.2⟩
   refine wB 7 I<|QW (vs:=[_]) I I I R5 I .u4 .h1 wk<|wY<|wa<|QA (wQ I Qk .here)<|QW (vs:=[_,_,_,_,_,_,_,_]) I I I Qk I .u1 .h8 w8<|wY<|QX ?_
   exact Y3 (⟨c12,c18⟩) I (.JX (c:=[_,_,_,_,_,_,_,_]) I Qk .u1 .nil) (rfl) λw h=>St.imp h (bs':=(bk,.cells #[.bool (k&&Xft a c)] 4 (0,0))::bs) (by rw[hb21];exact .cons _ (.cons _ (.cons _ (.cons _ we)))) λF h9=>⟨h9.1.1.1.1,h9.1.2,h9.2⟩
  refine Xfh Jk (λb6=>JC ?_);refine NO 5 10 tE tE rfl rfl rfl rfl rfl rfl ?_ ?_
  ·refine QR I (λ_ _ f k=>Xo (x:=x.lo) (r:=a.1) (n:=1) (ps:=[(y.lo,c.1)]) f (hX _ k.1).1 (Qy.of (n:=1) (sz:=4) (cs:=[(y.lo,c.1)].flatMap λe=>Kj e.1) k.2 I) (λp hp=>by rw[List.mem_singleton.1 hp];exact(hY _ k.1).1) rfl tF ⟨aa ha.1 tF,λp hp=>by rw[List.mem_singleton.1 hp];exact aa hc.1 tF⟩) (λc12=>JC<|Xe 10 tE tE rfl rfl rfl ?_);refine Qo I (Q5 Xb) QS Jw I I (λb17=>?_) (λw h=>h.imp (.cons _ (.cons_cons _ (.cons_cons _ (.cons_cons _ we)))) λF h=>h.1.1);refine JC<|Xe 11 tE tE rfl rfl rfl<|QR I (λ_ _ f k=>V5 (x:=x.hi) (r:=a.2) (n:=1) (ps:=[(y.hi,c.2)]) f (hX _ k.1.1.1).2 (Qy.of (n:=1) (sz:=4) (cs:=[(y.hi,c.2)].flatMap λe=>Kj e.1) k.2 I) (λp hp=>by rw[List.mem_singleton.1 hp];exact(hY _ k.1.1.1).2) rfl tF ⟨aa ha.2 tF,λp hp=>by rw[List.mem_singleton.1 hp];exact aa hc.2 tF⟩) λc18=>JC<|Jr 12 tE rfl rfl<|QK (Q4 I Z2 Jk (.cons (vs:=[_,_,_,_]) I I I .h4 (.cons (vs:=[_,_,_,_]) I I I (.skip (.skip (.skip (.skip .h4)))) .nil)))<|JC<|Xe 14 tE tE rfl rfl rfl<|JV (vs:=[_,_,_,_,_,_,_,_]) I I I Qk I .here (.cons_cons _ (.cons_cons _ (.cons_cons _ we))) (λ_ h=>h.1.1.1.1) .h8 w8<|JC<|Yk<|QC<|wa<|QA (Qe I R5 .u4 .h1)<|wW I ?_
   refine Qn (t:=21) rfl (λhb21=>?_) λhb21=>?_
   ·refine QL I I<|QA (QH I Xu QS)<|QL I I<|QA (wP I QS .here)<|QL I I<|QA (QH I Xt QS)<|QL I I<|QA (wR I QS .here)<|QL I I<|QI I (λ_ _ f k=>G3 (x:=c12) (y:=c18) (r:=(Xat a c).1) (s:=(Xat a c).2) f k.1.1.2 k.2 (aa (QGA ha.1 hc.1) tF) (aa (Xfg ha.2 hc.2) tF)) λ_=>wB 3 I<|QW (vs:=[_]) I I I R5 I .u4 .h1 wk<|wY<|wa<|QA (wQ I Qk .here)<|QW (vs:=[_,_,_,_,_,_,_,_]) I I I Qk I .u1 .h8 w8<|wY<|QX ?_
    exact Y3 (⟨c12,c18⟩) I (.JX (c:=[_,_,_,_,_,_,_,_]) I Qk .u1 .nil) (rfl) λw h=>St.imp h (bs':=(bk,.cells #[.bool (k&&Xft a c)] 4 (0,0))::bs) (by rw[hb21];exact .cons _ (.cons _ (.cons _ (.cons _ we)))) λF h9=>⟨h9.1.1.1.1.1,h9.1.1.1.2,h9.1.2⟩
   refine wB 7 I<|QW (vs:=[_]) I I I R5 I .u4 .h1 wk<|wY<|wa<|QA (wQ I Qk .here)<|QW (vs:=[_,_,_,_,_,_,_,_]) I I I Qk I .u1 .h8 w8<|wY<|QX ?_
   exact Y3 (⟨c12,c18⟩) I (.JX (c:=[_,_,_,_,_,_,_,_]) I Qk .u1 .nil) (rfl) λw h=>St.imp h (bs':=(bk,.cells #[.bool (k&&Xft a c)] 4 (0,0))::bs) (by rw[hb21];exact .cons _ (.cons _ (.cons _ (.cons _ we)))) λF h9=>⟨h9.1.1.1.1,h9.1.1.2,h9.2⟩
  refine Qo I (Q5 Xb) QS Jw I I (λb17=>?_) (λw h=>h.imp (.cons _ (.cons_cons _ (.cons_cons _ (.cons_cons _ we)))) tN);refine JC<|Xe 5 tE tE rfl rfl rfl<|QR I (λ_ _ f k=>Xo (x:=x.lo) (r:=a.1) (n:=1) (ps:=[(y.lo,c.1)]) f (hX _ k.1.1).1 (Qy.of (n:=1) (sz:=4) (cs:=[(y.lo,c.1)].flatMap λe=>Kj e.1) k.1.2 I) (λp hp=>by rw[List.mem_singleton.1 hp];exact(hY _ k.1.1).1) rfl tF ⟨aa ha.1 tF,λp hp=>by rw[List.mem_singleton.1 hp];exact aa hc.1 tF⟩) λc12=>JC<|Xe 11 tE tE rfl rfl rfl<|QR I (λ_ _ f k=>V5 (x:=x.hi) (r:=a.2) (n:=1) (ps:=[(y.hi,c.2)]) f (hX _ k.1.1.1).2 (Qy.of (n:=1) (sz:=4) (cs:=[(y.hi,c.2)].flatMap λe=>Kj e.1) k.1.2 I) (λp hp=>by rw[List.mem_singleton.1 hp];exact(hY _ k.1.1.1).2) rfl tF ⟨aa ha.2 tF,λp hp=>by rw[List.mem_singleton.1 hp];exact aa hc.2 tF⟩) λc18=>JC<|Jr 12 tE rfl rfl<|QK (Q4 I Z2 Jk (.cons (vs:=[_,_,_,_]) I I I .h4 (.cons (vs:=[_,_,_,_]) I I I (.skip (.skip (.skip (.skip .h4)))) .nil)))<|JC<|Xe 14 tE tE rfl rfl rfl<|JV (vs:=[_,_,_,_,_,_,_,_]) I I I Qk I .here (.cons_cons _ (.cons_cons _ (.cons_cons _ we))) (λ_ h=>h.1.1.1.1) .h8 w8<|JC<|Yk<|QC<|wa<|QA (Qe I R5 .u4 .h1)<|wW I ?_
  refine Qn (t:=21) rfl (λhb21=>?_) λhb21=>?_
  ·refine QL I I<|QA (QH I Xu QS)<|QL I I<|QA (wP I QS .here)<|QL I I<|QA (QH I Xt QS)<|QL I I<|QA (wR I QS .here)<|QL I I<|QI I (λ_ _ f k=>G3 (x:=c12) (y:=c18) (r:=(Xat a c).1) (s:=(Xat a c).2) f k.1.2 k.2 (aa (QGA ha.1 hc.1) tF) (aa (Xfg ha.2 hc.2) tF)) λ_=>wB 3 I<|QW (vs:=[_]) I I I R5 I .u4 .h1 wk<|wY<|wa<|QA (wQ I Qk .here)<|QW (vs:=[_,_,_,_,_,_,_,_]) I I I Qk I .u1 .h8 w8<|wY<|QX ?_
   exact Y3 (⟨c12,c18⟩) I (.JX (c:=[_,_,_,_,_,_,_,_]) I Qk .u1 .nil) (rfl) λw h=>St.imp h (bs':=(bk,.cells #[.bool (k&&Xft a c)] 4 (0,0))::bs) (by rw[hb21];exact .cons _ (.cons _ (.cons _ (.cons _ we)))) λF h9=>⟨h9.1.1.1.1.1,h9.1.1.2,h9.1.2⟩
  refine wB 7 I<|QW (vs:=[_]) I I I R5 I .u4 .h1 wk<|wY<|wa<|QA (wQ I Qk .here)<|QW (vs:=[_,_,_,_,_,_,_,_]) I I I Qk I .u1 .h8 w8<|wY<|QX ?_
  exact Y3 (⟨c12,c18⟩) I (.JX (c:=[_,_,_,_,_,_,_,_]) I Qk .u1 .nil) (rfl) λw h=>St.imp h (bs':=(bk,.cells #[.bool (k&&Xft a c)] 4 (0,0))::bs) (by rw[hb21];exact .cons _ (.cons _ (.cons _ (.cons _ we)))) λF h9=>⟨h9.1.1.1.1,h9.1.2,h9.2⟩
 ·refine Qo I (Q5 Xb) QS Jw I I (λb17=>?_) (λw h=>h.imp (.cons_cons _ (.cons_cons _ (.cons_cons _ we))) tM);refine JC ?_;refine NO 4 13 tE tE rfl rfl rfl rfl rfl rfl ?_ ?_
  ·refine Qo I (Q5 Xb) QS Jw I I (λb11=>?_) (λw h=>h.imp (.cons_cons _ (.cons_cons _ (.cons_cons _ we))) tN);refine JC ?_;refine NO 5 13 tE tE rfl rfl rfl rfl rfl rfl ?_ ?_
   ·refine QR I (λ_ _ f k=>Xo (x:=x.lo) (r:=a.1) (n:=1) (ps:=[(y.lo,c.1)]) f (hX _ k.1.1).1 (Qy.of (n:=1) (sz:=4) (cs:=[(y.lo,c.1)].flatMap λe=>Kj e.1) k.2 I) (λp hp=>by rw[List.mem_singleton.1 hp];exact(hY _ k.1.1).1) rfl tF ⟨aa ha.1 tF,λp hp=>by rw[List.mem_singleton.1 hp];exact aa hc.1 tF⟩) (λc12=>JC ?_);refine NO 11 13 tE tE rfl rfl rfl rfl rfl rfl ?_ ?_
    ·refine QR I (λ_ _ f k=>V5 (x:=x.hi) (r:=a.2) (n:=1) (ps:=[(y.hi,c.2)]) f (hX _ k.1.1.1).2 (Qy.of (n:=1) (sz:=4) (cs:=[(y.hi,c.2)].flatMap λe=>Kj e.1) k.1.1.2 I) (λp hp=>by rw[List.mem_singleton.1 hp];exact(hY _ k.1.1.1).2) rfl tF ⟨aa ha.2 tF,λp hp=>by rw[List.mem_singleton.1 hp];exact aa hc.2 tF⟩) (λc18=>JC<|Jr 12 tE rfl rfl<|QK (Q4 I Z2 Jk (.cons (vs:=[_,_,_,_]) I I I .h4 (.cons (vs:=[_,_,_,_]) I I I (.skip (.skip (.skip (.skip .h4)))) .nil)))<|JC<|Xe 13 tE tE rfl rfl rfl<|Xfh Jk λb6=>JC<|Xe 14 tE tE rfl rfl rfl<|JV (vs:=[_,_,_,_,_,_,_,_]) I I I Qk I .here (.cons_cons _ (.cons_cons _ (.cons_cons _ we))) (λ_ h=>h.1.1.1.1) .h8 w8<|JC<|Yk<|QC<|wa<|QA (Qe I R5 .u4 .h1)<|wW I ?_);refine Qn (t:=21) rfl (λhb21=>?_) λhb21=>?_
     ·refine QL I I<|QA (QH I Xu QS)<|QL I I<|QA (wP I QS .here)<|QL I I<|QA (QH I Xt QS)<|QL I I<|QA (wR I QS .here)<|QL I I<|QI I (λ_ _ f k=>G3 (x:=c12) (y:=c18) (r:=(Xat a c).1) (s:=(Xat a c).2) f k.1.2 k.2 (aa (QGA ha.1 hc.1) tF) (aa (Xfg ha.2 hc.2) tF)) λ_=>wB 3 I<|QW (vs:=[_]) I I I R5 I .u4 .h1 wk<|wY<|wa<|QA (wQ I Qk .here)<|QW (vs:=[_,_,_,_,_,_,_,_]) I I I Qk I .u1 .h8 w8<|wY<|QX ?_
      exact Y3 (⟨c12,c18⟩) I (.JX (c:=[_,_,_,_,_,_,_,_]) I Qk .u1 .nil) (rfl) λw h=>St.imp h (bs':=(bk,.cells #[.bool (k&&Xft a c)] 4 (0,0))::bs) (by rw[hb21];exact .cons _ (.cons _ (.cons _ (.cons _ we)))) λF h9=>⟨h9.1.1.1.1.1,h9.1.1.2,h9.1.2⟩
     refine wB 7 I<|QW (vs:=[_]) I I I R5 I .u4 .h1 wk<|wY<|wa<|QA (wQ I Qk .here)<|QW (vs:=[_,_,_,_,_,_,_,_]) I I I Qk I .u1 .h8 w8<|wY<|QX ?_
     exact Y3 (⟨c12,c18⟩) I (.JX (c:=[_,_,_,_,_,_,_,_]) I Qk .u1 .nil) (rfl) λw h=>St.imp h (bs':=(bk,.cells #[.bool (k&&Xft a c)] 4 (0,0))::bs) (by rw[hb21];exact .cons _ (.cons _ (.cons _ (.cons _ we)))) λF h9=>⟨h9.1.1.1.1,h9.1.2,h9.2⟩
    refine Xfh Jk (λb6=>JC<|Xe 11 tE tE rfl rfl rfl<|QR I (λ_ _ f k=>V5 (x:=x.hi) (r:=a.2) (n:=1) (ps:=[(y.hi,c.2)]) f (hX _ k.1.1.1).2 (Qy.of (n:=1) (sz:=4) (cs:=[(y.hi,c.2)].flatMap λe=>Kj e.1) k.1.1.2 I) (λp hp=>by rw[List.mem_singleton.1 hp];exact(hY _ k.1.1.1).2) rfl tF ⟨aa ha.2 tF,λp hp=>by rw[List.mem_singleton.1 hp];exact aa hc.2 tF⟩) λc18=>JC<|Jr 12 tE rfl rfl<|QK (Q4 I Z2 Jk (.cons (vs:=[_,_,_,_]) I I I .h4 (.cons (vs:=[_,_,_,_]) I I I (.skip (.skip (.skip (.skip .h4)))) .nil)))<|JC<|Xe 14 tE tE rfl rfl rfl<|JV (vs:=[_,_,_,_,_,_,_,_]) I I I Qk I .here (.cons_cons _ (.cons_cons _ (.cons_cons _ we))) (λ_ h=>h.1.1.1.1) .h8 w8<|JC<|Yk<|QC<|wa<|QA (Qe I R5 .u4 .h1)<|wW I ?_);refine Qn (t:=21) rfl (λhb21=>?_) λhb21=>?_
    ·refine QL I I<|QA (QH I Xu QS)<|QL I I<|QA (wP I QS .here)<|QL I I<|QA (QH I Xt QS)<|QL I I<|QA (wR I QS .here)<|QL I I<|QI I (λ_ _ f k=>G3 (x:=c12) (y:=c18) (r:=(Xat a c).1) (s:=(Xat a c).2) f k.1.2 k.2 (aa (QGA ha.1 hc.1) tF) (aa (Xfg ha.2 hc.2) tF)) λ_=>wB 3 I<|QW (vs:=[_]) I I I R5 I .u4 .h1 wk<|wY<|wa<|QA (wQ I Qk .here)<|QW (vs:=[_,_,_,_,_,_,_,_]) I I I Qk I .u1 .h8 w8<|wY<|QX ?_
     exact Y3 (⟨c12,c18⟩) I (.JX (c:=[_,_,_,_,_,_,_,_]) I Qk .u1 .nil) (rfl) λw h=>St.imp h (bs':=(bk,.cells #[.bool (k&&Xft a c)] 4 (0,0))::bs) (by rw[hb21];exact .cons _ (.cons _ (.cons _ (.cons _ we)))) λF h9=>⟨h9.1.1.1.1.1,h9.1.1.2,h9.1.2⟩
    refine wB 7 I<|QW (vs:=[_]) I I I R5 I .u4 .h1 wk<|wY<|wa<|QA (wQ I Qk .here)<|QW (vs:=[_,_,_,_,_,_,_,_]) I I I Qk I .u1 .h8 w8<|wY<|QX ?_
    exact Y3 (⟨c12,c18⟩) I (.JX (c:=[_,_,_,_,_,_,_,_]) I Qk .u1 .nil) (rfl) λw h=>St.imp h (bs':=(bk,.cells #[.bool (k&&Xft a c)] 4 (0,0))::bs) (by rw[hb21];exact .cons _ (.cons _ (.cons _ (.cons _ we)))) λF h9=>⟨h9.1.1.1.1,h9.1.2,h9.2⟩
   refine Xfh Jk (λb6=>JC<|Xe 5 tE tE rfl rfl rfl<|QR I (λ_ _ f k=>Xo (x:=x.lo) (r:=a.1) (n:=1) (ps:=[(y.lo,c.1)]) f (hX _ k.1.1).1 (Qy.of (n:=1) (sz:=4) (cs:=[(y.lo,c.1)].flatMap λe=>Kj e.1) k.2 I) (λp hp=>by rw[List.mem_singleton.1 hp];exact(hY _ k.1.1).1) rfl tF ⟨aa ha.1 tF,λp hp=>by rw[List.mem_singleton.1 hp];exact aa hc.1 tF⟩) λc12=>JC<|Xe 11 tE tE rfl rfl rfl<|QR I (λ_ _ f k=>V5 (x:=x.hi) (r:=a.2) (n:=1) (ps:=[(y.hi,c.2)]) f (hX _ k.1.1.1).2 (Qy.of (n:=1) (sz:=4) (cs:=[(y.hi,c.2)].flatMap λe=>Kj e.1) k.1.1.2 I) (λp hp=>by rw[List.mem_singleton.1 hp];exact(hY _ k.1.1.1).2) rfl tF ⟨aa ha.2 tF,λp hp=>by rw[List.mem_singleton.1 hp];exact aa hc.2 tF⟩) λc18=>JC<|Jr 12 tE rfl rfl<|QK (Q4 I Z2 Jk (.cons (vs:=[_,_,_,_]) I I I .h4 (.cons (vs:=[_,_,_,_]) I I I (.skip (.skip (.skip (.skip .h4)))) .nil)))<|JC<|Xe 14 tE tE rfl rfl rfl<|JV (vs:=[_,_,_,_,_,_,_,_]) I I I Qk I .here (.cons_cons _ (.cons_cons _ (.cons_cons _ we))) (λ_ h=>h.1.1.1.1) .h8 w8<|JC<|Yk<|QC<|wa<|QA (Qe I R5 .u4 .h1)<|wW I ?_);refine Qn (t:=21) rfl (λhb21=>?_) λhb21=>?_
   ·refine QL I I<|QA (QH I Xu QS)<|QL I I<|QA (wP I QS .here)<|QL I I<|QA (QH I Xt QS)<|QL I I<|QA (wR I QS .here)<|QL I I<|QI I (λ_ _ f k=>G3 (x:=c12) (y:=c18) (r:=(Xat a c).1) (s:=(Xat a c).2) f k.1.2 k.2 (aa (QGA ha.1 hc.1) tF) (aa (Xfg ha.2 hc.2) tF)) λ_=>wB 3 I<|QW (vs:=[_]) I I I R5 I .u4 .h1 wk<|wY<|wa<|QA (wQ I Qk .here)<|QW (vs:=[_,_,_,_,_,_,_,_]) I I I Qk I .u1 .h8 w8<|wY<|QX ?_
    exact Y3 (⟨c12,c18⟩) I (.JX (c:=[_,_,_,_,_,_,_,_]) I Qk .u1 .nil) (rfl) λw h=>St.imp h (bs':=(bk,.cells #[.bool (k&&Xft a c)] 4 (0,0))::bs) (by rw[hb21];exact .cons _ (.cons _ (.cons _ (.cons _ we)))) λF h9=>⟨h9.1.1.1.1.1,h9.1.1.2,h9.1.2⟩
   refine wB 7 I<|QW (vs:=[_]) I I I R5 I .u4 .h1 wk<|wY<|wa<|QA (wQ I Qk .here)<|QW (vs:=[_,_,_,_,_,_,_,_]) I I I Qk I .u1 .h8 w8<|wY<|QX ?_
   exact Y3 (⟨c12,c18⟩) I (.JX (c:=[_,_,_,_,_,_,_,_]) I Qk .u1 .nil) (rfl) λw h=>St.imp h (bs':=(bk,.cells #[.bool (k&&Xft a c)] 4 (0,0))::bs) (by rw[hb21];exact .cons _ (.cons _ (.cons _ (.cons _ we)))) λF h9=>⟨h9.1.1.1.1,h9.1.2,h9.2⟩
  refine Xfh Jk (λb6=>JC<|Xe 4 tE tE rfl rfl rfl ?_);refine Qo I (Q5 Xb) QS Jw I I (λb11=>?_) (λw h=>h.imp (.cons _ (.cons_cons _ (.cons_cons _ (.cons_cons _ we)))) tN);refine JC<|Xe 5 tE tE rfl rfl rfl<|QR I (λ_ _ f k=>Xo (x:=x.lo) (r:=a.1) (n:=1) (ps:=[(y.lo,c.1)]) f (hX _ k.1.1).1 (Qy.of (n:=1) (sz:=4) (cs:=[(y.lo,c.1)].flatMap λe=>Kj e.1) k.2 I) (λp hp=>by rw[List.mem_singleton.1 hp];exact(hY _ k.1.1).1) rfl tF ⟨aa ha.1 tF,λp hp=>by rw[List.mem_singleton.1 hp];exact aa hc.1 tF⟩) λc12=>JC<|Xe 11 tE tE rfl rfl rfl<|QR I (λ_ _ f k=>V5 (x:=x.hi) (r:=a.2) (n:=1) (ps:=[(y.hi,c.2)]) f (hX _ k.1.1.1).2 (Qy.of (n:=1) (sz:=4) (cs:=[(y.hi,c.2)].flatMap λe=>Kj e.1) k.1.1.2 I) (λp hp=>by rw[List.mem_singleton.1 hp];exact(hY _ k.1.1.1).2) rfl tF ⟨aa ha.2 tF,λp hp=>by rw[List.mem_singleton.1 hp];exact aa hc.2 tF⟩) λc18=>JC<|Jr 12 tE rfl rfl<|QK (Q4 I Z2 Jk (.cons (vs:=[_,_,_,_]) I I I .h4 (.cons (vs:=[_,_,_,_]) I I I (.skip (.skip (.skip (.skip .h4)))) .nil)))<|JC<|Xe 14 tE tE rfl rfl rfl<|JV (vs:=[_,_,_,_,_,_,_,_]) I I I Qk I .here (.cons_cons _ (.cons_cons _ (.cons_cons _ we))) (λ_ h=>h.1.1.1.1) .h8 w8<|JC<|Yk<|QC<|wa<|QA (Qe I R5 .u4 .h1)<|wW I ?_
  refine Qn (t:=21) rfl (λhb21=>?_) λhb21=>?_
  ·refine QL I I<|QA (QH I Xu QS)<|QL I I<|QA (wP I QS .here)<|QL I I<|QA (QH I Xt QS)<|QL I I<|QA (wR I QS .here)<|QL I I<|QI I (λ_ _ f k=>G3 (x:=c12) (y:=c18) (r:=(Xat a c).1) (s:=(Xat a c).2) f k.1.2 k.2 (aa (QGA ha.1 hc.1) tF) (aa (Xfg ha.2 hc.2) tF)) λ_=>wB 3 I<|QW (vs:=[_]) I I I R5 I .u4 .h1 wk<|wY<|wa<|QA (wQ I Qk .here)<|QW (vs:=[_,_,_,_,_,_,_,_]) I I I Qk I .u1 .h8 w8<|wY<|QX ?_
   exact Y3 (⟨c12,c18⟩) I (.JX (c:=[_,_,_,_,_,_,_,_]) I Qk .u1 .nil) (rfl) λw h=>St.imp h (bs':=(bk,.cells #[.bool (k&&Xft a c)] 4 (0,0))::bs) (by rw[hb21];exact .cons _ (.cons _ (.cons _ (.cons _ we)))) λF h9=>⟨h9.1.1.1.1.1,h9.1.1.2,h9.1.2⟩
  refine wB 7 I<|QW (vs:=[_]) I I I R5 I .u4 .h1 wk<|wY<|wa<|QA (wQ I Qk .here)<|QW (vs:=[_,_,_,_,_,_,_,_]) I I I Qk I .u1 .h8 w8<|wY<|QX ?_
  exact Y3 (⟨c12,c18⟩) I (.JX (c:=[_,_,_,_,_,_,_,_]) I Qk .u1 .nil) (rfl) λw h=>St.imp h (bs':=(bk,.cells #[.bool (k&&Xft a c)] 4 (0,0))::bs) (by rw[hb21];exact .cons _ (.cons _ (.cons _ (.cons _ we)))) λF h9=>⟨h9.1.1.1.1,h9.1.2,h9.2⟩
 refine Xfh Jk (λb6=>JC ?_);refine NO 4 10 tE tE rfl rfl rfl rfl rfl rfl ?_ ?_
 ·refine Qo I (Q5 Xb) QS Jw I I (λb11=>?_) (λw h=>h.imp (.cons _ (.cons_cons _ (.cons_cons _ (.cons_cons _ we)))) tM);refine JC ?_;refine NO 5 10 tE tE rfl rfl rfl rfl rfl rfl ?_ ?_
  ·refine QR I (λ_ _ f k=>Xo (x:=x.lo) (r:=a.1) (n:=1) (ps:=[(y.lo,c.1)]) f (hX _ k.1).1 (Qy.of (n:=1) (sz:=4) (cs:=[(y.lo,c.1)].flatMap λe=>Kj e.1) k.2 I) (λp hp=>by rw[List.mem_singleton.1 hp];exact(hY _ k.1).1) rfl tF ⟨aa ha.1 tF,λp hp=>by rw[List.mem_singleton.1 hp];exact aa hc.1 tF⟩) (λc12=>JC<|Xe 10 tE tE rfl rfl rfl ?_);refine Qo I (Q5 Xb) QS Jw I I (λb17=>?_) (λw h=>h.imp (.cons _ (.cons_cons _ (.cons_cons _ (.cons_cons _ we)))) λF h=>h.1.1);refine JC<|Xe 11 tE tE rfl rfl rfl<|QR I (λ_ _ f k=>V5 (x:=x.hi) (r:=a.2) (n:=1) (ps:=[(y.hi,c.2)]) f (hX _ k.1.1.1).2 (Qy.of (n:=1) (sz:=4) (cs:=[(y.hi,c.2)].flatMap λe=>Kj e.1) k.2 I) (λp hp=>by rw[List.mem_singleton.1 hp];exact(hY _ k.1.1.1).2) rfl tF ⟨aa ha.2 tF,λp hp=>by rw[List.mem_singleton.1 hp];exact aa hc.2 tF⟩) λc18=>JC<|Jr 12 tE rfl rfl<|QK (Q4 I Z2 Jk (.cons (vs:=[_,_,_,_]) I I I .h4 (.cons (vs:=[_,_,_,_]) I I I (.skip (.skip (.skip (.skip .h4)))) .nil)))<|JC<|Xe 14 tE tE rfl rfl rfl<|JV (vs:=[_,_,_,_,_,_,_,_]) I I I Qk I .here (.cons_cons _ (.cons_cons _ (.cons_cons _ we))) (λ_ h=>h.1.1.1.1) .h8 w8<|JC<|Yk<|QC<|wa<|QA (Qe I R5 .u4 .h1)<|wW I ?_
   refine Qn (t:=21) rfl (λhb21=>?_) λhb21=>?_
   ·refine QL I I<|QA (QH I Xu QS)<|QL I I<|QA (wP I QS .here)<|QL I I<|QA (QH I Xt QS)<|QL I I<|QA (wR I QS .here)<|QL I I<|QI I (λ_ _ f k=>G3 (x:=c12) (y:=c18) (r:=(Xat a c).1) (s:=(Xat a c).2) f k.1.1.2 k.2 (aa (QGA ha.1 hc.1) tF) (aa (Xfg ha.2 hc.2) tF)) λ_=>wB 3 I<|QW (vs:=[_]) I I I R5 I .u4 .h1 wk<|wY<|wa<|QA (wQ I Qk .here)<|QW (vs:=[_,_,_,_,_,_,_,_]) I I I Qk I .u1 .h8 w8<|wY<|QX ?_
    exact Y3 (⟨c12,c18⟩) I (.JX (c:=[_,_,_,_,_,_,_,_]) I Qk .u1 .nil) (rfl) λw h=>St.imp h (bs':=(bk,.cells #[.bool (k&&Xft a c)] 4 (0,0))::bs) (by rw[hb21];exact .cons _ (.cons _ (.cons _ (.cons _ we)))) λF h9=>⟨h9.1.1.1.1.1,h9.1.1.1.2,h9.1.2⟩
   refine wB 7 I<|QW (vs:=[_]) I I I R5 I .u4 .h1 wk<|wY<|wa<|QA (wQ I Qk .here)<|QW (vs:=[_,_,_,_,_,_,_,_]) I I I Qk I .u1 .h8 w8<|wY<|QX ?_
   exact Y3 (⟨c12,c18⟩) I (.JX (c:=[_,_,_,_,_,_,_,_]) I Qk .u1 .nil) (rfl) λw h=>St.imp h (bs':=(bk,.cells #[.bool (k&&Xft a c)] 4 (0,0))::bs) (by rw[hb21];exact .cons _ (.cons _ (.cons _ (.cons _ we)))) λF h9=>⟨h9.1.1.1.1,h9.1.1.2,h9.2⟩
  refine Qo I (Q5 Xb) QS Jw I I (λb17=>?_) (λw h=>h.imp (.cons _ (.cons_cons _ (.cons_cons _ (.cons_cons _ we)))) tN);refine JC<|Xe 5 tE tE rfl rfl rfl<|QR I (λ_ _ f k=>Xo (x:=x.lo) (r:=a.1) (n:=1) (ps:=[(y.lo,c.1)]) f (hX _ k.1.1).1 (Qy.of (n:=1) (sz:=4) (cs:=[(y.lo,c.1)].flatMap λe=>Kj e.1) k.1.2 I) (λp hp=>by rw[List.mem_singleton.1 hp];exact(hY _ k.1.1).1) rfl tF ⟨aa ha.1 tF,λp hp=>by rw[List.mem_singleton.1 hp];exact aa hc.1 tF⟩) λc12=>JC<|Xe 11 tE tE rfl rfl rfl<|QR I (λ_ _ f k=>V5 (x:=x.hi) (r:=a.2) (n:=1) (ps:=[(y.hi,c.2)]) f (hX _ k.1.1.1).2 (Qy.of (n:=1) (sz:=4) (cs:=[(y.hi,c.2)].flatMap λe=>Kj e.1) k.1.2 I) (λp hp=>by rw[List.mem_singleton.1 hp];exact(hY _ k.1.1.1).2) rfl tF ⟨aa ha.2 tF,λp hp=>by rw[List.mem_singleton.1 hp];exact aa hc.2 tF⟩) λc18=>JC<|Jr 12 tE rfl rfl<|QK (Q4 I Z2 Jk (.cons (vs:=[_,_,_,_]) I I I .h4 (.cons (vs:=[_,_,_,_]) I I I (.skip (.skip (.skip (.skip .h4)))) .nil)))<|JC<|Xe 14 tE tE rfl rfl rfl<|JV (vs:=[_,_,_,_,_,_,_,_]) I I I Qk I .here (.cons_cons _ (.cons_cons _ (.cons_cons _ we))) (λ_ h=>h.1.1.1.1) .h8 w8<|JC<|Yk<|QC<|wa<|QA (Qe I R5 .u4 .h1)<|wW I ?_
  refine Qn (t:=21) rfl (λhb21=>?_) λhb21=>?_
  ·refine QL I I<|QA (QH I Xu QS)<|QL I I<|QA (wP I QS .here)<|QL I I<|QA (QH I Xt QS)<|QL I I<|QA (wR I QS .here)<|QL I I<|QI I (λ_ _ f k=>G3 (x:=c12) (y:=c18) (r:=(Xat a c).1) (s:=(Xat a c).2) f k.1.2 k.2 (aa (QGA ha.1 hc.1) tF) (aa (Xfg ha.2 hc.2) tF)) λ_=>wB 3 I<|QW (vs:=[_]) I I I R5 I .u4 .h1 wk<|wY<|wa<|QA (wQ I Qk .here)<|QW (vs:=[_,_,_,_,_,_,_,_]) I I I Qk I .u1 .h8 w8<|wY<|QX ?_
   exact Y3 (⟨c12,c18⟩) I (.JX (c:=[_,_,_,_,_,_,_,_]) I Qk .u1 .nil) (rfl) λw h=>St.imp h (bs':=(bk,.cells #[.bool (k&&Xft a c)] 4 (0,0))::bs) (by rw[hb21];exact .cons _ (.cons _ (.cons _ (.cons _ we)))) λF h9=>⟨h9.1.1.1.1.1,h9.1.1.2,h9.1.2⟩
  refine wB 7 I<|QW (vs:=[_]) I I I R5 I .u4 .h1 wk<|wY<|wa<|QA (wQ I Qk .here)<|QW (vs:=[_,_,_,_,_,_,_,_]) I I I Qk I .u1 .h8 w8<|wY<|QX ?_
  exact Y3 (⟨c12,c18⟩) I (.JX (c:=[_,_,_,_,_,_,_,_]) I Qk .u1 .nil) (rfl) λw h=>St.imp h (bs':=(bk,.cells #[.bool (k&&Xft a c)] 4 (0,0))::bs) (by rw[hb21];exact .cons _ (.cons _ (.cons _ (.cons _ we)))) λF h9=>⟨h9.1.1.1.1,h9.1.2,h9.2⟩
 refine Qo I (Q5 Xb) QS Jw I I (λb17=>?_) (λw h=>h.imp (.cons _ (.cons_cons _ (.cons_cons _ (.cons_cons _ we)))) tM);refine JC<|Xe 4 tE tE rfl rfl rfl ?_
 refine Qo I (Q5 Xb) QS Jw I I (λb11=>?_) (λw h=>h.imp (.cons _ (.cons_cons _ (.cons_cons _ (.cons_cons _ we)))) tN);refine JC<|Xe 5 tE tE rfl rfl rfl<|QR I (λ_ _ f k=>Xo (x:=x.lo) (r:=a.1) (n:=1) (ps:=[(y.lo,c.1)]) f (hX _ k.1.1).1 (Qy.of (n:=1) (sz:=4) (cs:=[(y.lo,c.1)].flatMap λe=>Kj e.1) k.2 I) (λp hp=>by rw[List.mem_singleton.1 hp];exact(hY _ k.1.1).1) rfl tF ⟨aa ha.1 tF,λp hp=>by rw[List.mem_singleton.1 hp];exact aa hc.1 tF⟩) λc12=>JC<|Xe 11 tE tE rfl rfl rfl<|QR I (λ_ _ f k=>V5 (x:=x.hi) (r:=a.2) (n:=1) (ps:=[(y.hi,c.2)]) f (hX _ k.1.1.1).2 (Qy.of (n:=1) (sz:=4) (cs:=[(y.hi,c.2)].flatMap λe=>Kj e.1) k.1.1.2 I) (λp hp=>by rw[List.mem_singleton.1 hp];exact(hY _ k.1.1.1).2) rfl tF ⟨aa ha.2 tF,λp hp=>by rw[List.mem_singleton.1 hp];exact aa hc.2 tF⟩) λc18=>JC<|Jr 12 tE rfl rfl<|QK (Q4 I Z2 Jk (.cons (vs:=[_,_,_,_]) I I I .h4 (.cons (vs:=[_,_,_,_]) I I I (.skip (.skip (.skip (.skip .h4)))) .nil)))<|JC<|Xe 14 tE tE rfl rfl rfl<|JV (vs:=[_,_,_,_,_,_,_,_]) I I I Qk I .here (.cons_cons _ (.cons_cons _ (.cons_cons _ we))) (λ_ h=>h.1.1.1.1) .h8 w8<|JC<|Yk<|QC<|wa<|QA (Qe I R5 .u4 .h1)<|wW I ?_
 refine Qn (t:=21) rfl (λhb21=>?_) λhb21=>?_
 ·refine QL I I<|QA (QH I Xu QS)<|QL I I<|QA (wP I QS .here)<|QL I I<|QA (QH I Xt QS)<|QL I I<|QA (wR I QS .here)<|QL I I<|QI I (λ_ _ f k=>G3 (x:=c12) (y:=c18) (r:=(Xat a c).1) (s:=(Xat a c).2) f k.1.2 k.2 (aa (QGA ha.1 hc.1) tF) (aa (Xfg ha.2 hc.2) tF)) λ_=>wB 3 I<|QW (vs:=[_]) I I I R5 I .u4 .h1 wk<|wY<|wa<|QA (wQ I Qk .here)<|QW (vs:=[_,_,_,_,_,_,_,_]) I I I Qk I .u1 .h8 w8<|wY<|QX ?_
  exact Y3 (⟨c12,c18⟩) I (.JX (c:=[_,_,_,_,_,_,_,_]) I Qk .u1 .nil) (rfl) λw h=>St.imp h (bs':=(bk,.cells #[.bool (k&&Xft a c)] 4 (0,0))::bs) (by rw[hb21];exact .cons _ (.cons _ (.cons _ (.cons _ we)))) λF h9=>⟨h9.1.1.1.1.1,h9.1.1.2,h9.1.2⟩
 refine wB 7 I<|QW (vs:=[_]) I I I R5 I .u4 .h1 wk<|wY<|wa<|QA (wQ I Qk .here)<|QW (vs:=[_,_,_,_,_,_,_,_]) I I I Qk I .u1 .h8 w8<|wY<|QX ?_
 exact Y3 (⟨c12,c18⟩) I (.JX (c:=[_,_,_,_,_,_,_,_]) I Qk .u1 .nil) (rfl) λw h=>St.imp h (bs':=(bk,.cells #[.bool (k&&Xft a c)] 4 (0,0))::bs) (by rw[hb21];exact .cons _ (.cons _ (.cons _ (.cons _ we)))) λF h9=>⟨h9.1.1.1.1,h9.1.2,h9.2⟩
theorem Xjb{w0:World}{F0:Gs}{bs:List (Nat×Obj)}{G:Gs->Prop}{la lb:List Yx}{va vb:List XP}{bk:Nat}(ha:∀F,G F->J7 F ra la va)(hb:∀F,G F->J7 F rb lb vb)(hla:la.length=ra.n)(hlb:lb.length=rb.n)(hva:va.length=ra.n)(hvb:vb.length=rb.n)(hn:ra.n<=rb.n)(hbn:ra.n<=1000000)(hza:∀s∈va,Xf s 2400)(hzb:∀s∈vb,Xf s 2400):
  XN prog 169 [ra.v,rb.v,.func (.func 244) #[] #[.pointer (some ⟨bk,0,none⟩)]] ⟨w0,F0,(bk,.cells #[.bool true] 4 (0,0))::bs,G⟩ (λ(c:Sr×List Yx)=>c.1.v) (λc=>⟨w0,F0,(bk,.cells #[.bool (okI va vb va.length)] 4 (0,0))::bs,λF=>G F/\J7 F c.1 c.2 (DJ Xat va vb)⟩):=by
 obtain⟨qa,na,ca⟩:=ra;obtain⟨qb,nb,cb⟩:=rb;dsimp only[Sr.v]at *
 refine XN.intro func169 rfl tH rfl rfl<|wa<|wZ rfl<|wa<|wZ rfl<|QG<|wb rfl<|QA (Qg rfl JO)<|wW rfl<|wY<|QV<|JU (ι:=Wn (na) λi=>Xat (el va i) (el vb i)) [(0,_),(1,_),(2,_),(10,_)] (λi=>[(7,i.v),(11,.int .i64 ((i.i:Nat):Int))]) (λi=>i.ob++((bk,.cells #[.bool (okI va vb i.i)] 4 (0,0))::bs)) (λi F=>YA F i.l) (λi=>(na)-i.i) (Wn.start _ _) wv wm we (λ_ _=>YA.nil _) λi=>?_
 simp only[ae,af];have hi:=i.le;refine wA 6 I ?_;refine QQ I (λhc2=>?_) λhc2=>?_
 ·have hlt:i.i<na:=tD<|wi hc2
  refine wC 10 I<|JG tQ mixed tE<|QK (QD I)<|QK (QD I)<|QK (QD I)<|QK (QD I)<|QK (Q3 (n:=na) i.i (λF h9=>(ha _ h9.1).row) rfl rfl JO Qk O)<|QK (JZ (n:=na) (vs:=[.int .i64 (el la i.i).1.lo.n.s,.slice (el la i.i).1.lo.n.q (el la i.i).1.lo.n.n (el la i.i).1.lo.n.cap,.int .i64 (el la i.i).1.lo.d.s,.slice (el la i.i).1.lo.d.q (el la i.i).1.lo.d.n (el la i.i).1.lo.d.cap,.int .i64 (el la i.i).1.hi.n.s,.slice (el la i.i).1.hi.n.q (el la i.i).1.hi.n.n (el la i.i).1.hi.n.cap,.int .i64 (el la i.i).1.hi.d.s,.slice (el la i.i).1.hi.d.q (el la i.i).1.hi.d.n (el la i.i).1.hi.d.cap]) ((i.i)*8) (λF h9=>(ha _ h9.1).row) O rfl Qk I λj v hv=>JN (f:=(λe=>Xs e.1)) (l:=la) (λ_=>rfl) O hv)<|QK (QD I)<|QK (QD I)<|QK (Q3 (n:=nb) i.i (λF h9=>(hb _ h9.1).row) rfl rfl JO Qk O)<|QK (JZ (n:=nb) (vs:=[.int .i64 (el lb i.i).1.lo.n.s,.slice (el lb i.i).1.lo.n.q (el lb i.i).1.lo.n.n (el lb i.i).1.lo.n.cap,.int .i64 (el lb i.i).1.lo.d.s,.slice (el lb i.i).1.lo.d.q (el lb i.i).1.lo.d.n (el lb i.i).1.lo.d.cap,.int .i64 (el lb i.i).1.hi.n.s,.slice (el lb i.i).1.hi.n.q (el lb i.i).1.hi.n.n (el lb i.i).1.hi.n.cap,.int .i64 (el lb i.i).1.hi.d.s,.slice (el lb i.i).1.hi.d.q (el lb i.i).1.hi.d.n (el lb i.i).1.hi.d.cap]) ((i.i)*8) (λF h9=>(hb _ h9.1).row) O rfl Qk I λj v hv=>JN (f:=(λe=>Xs e.1)) (l:=lb) (λ_=>rfl) O hv)<|Xj9 (c1:=[]) (c2:=[.pointer (some ⟨bk,0,none⟩)]) I I List.perm_middle (Xjt (x:=(el la i.i).1) (y:=(el lb i.i).1) (a:=el va i.i) (c:=el vb i.i) (λF h9=>(ha _ h9.1).at hlt) (λF h9=>(hb _ h9.1).at (show i.i<nb by omega)) (hza _ (Qw O)) (hzb _ (Qw O))) (λc w h=>h.imp tQ tN) λc24=>Y6 List.perm_middle.symm ?_
  refine Qo I (Q5 JO) Qk Jk I I (λb25=>?_) (λw h=>h.imp tQ tN);refine Yz (bs:=(bk,.cells #[.bool (okI va vb i.i&&Xft (el va i.i) (el vb i.i))] 4 (0,0))::bs) (n:=i.i) (k:=1) (sz:=8) (news:=Xs c24) rfl rfl JO Qk Jk I Wh i.hr (Src.row (off:=0) tO (λj q hq=>by rw[aC];rw[ao];exact hq) rfl) O O (KY _) tQ (λ_ h=>h.1.1) (λv26 ob26 hr26=>?_);refine QK (QF I)<|Q7<|Qj<|QC<|QB<|QA (Qu I I O)<|wB 2 I ?_
  exact Ql (i.next hlt c24 _ hr26 rfl) (by show na-(i.i+1)<na-i.i;omega) wz ((by show List.Sublist (α:=Nat×Obj) (ob26++((bk,.cells #[.bool (okI va vb (i.i+1))] 4 (0,0))::bs)) _;rw[Xhs];exact aH _)) λF h9=>⟨h9.1.1.1,h9.1.1.2.snoc h9.1.2⟩
 have hge:i.i=na:=tD<|wj hc2
 refine Qx ?_
 repeat first|refine QY ?_|refine QO tH ?_
 refine QZ<|QC<|wa<|ZL List.perm_append_comm ?_
 have hxl:=i.len;obtain⟨⟨rq,rn,rc⟩,hv2,hrn,hrc,hfix⟩:=Q8.fix (w0:=w0) (F0:=F0) (bs1:=(bk,.cells #[.bool (okI va vb i.i)] 4 (0,0))::bs) (G:=_) i.hr;dsimp only at hrn hrc hfix;subst hrn;refine Zj hfix ?_;rw[hv2];dsimp only[Sr.v];refine wD 5 I ?_;exact Y3 ((⟨rq,i.i,rc⟩,i.l)) I (wT I) (rfl) λw h=>h.imp (by rw[show okI va vb i.i=okI va vb va.length from congrArg (okI va vb) O];exact aH _) λF h9=>⟨h9.1.1,by have:=i.box hge (r:=⟨rq,i.i,rc⟩) h9.2 I hrc h9.1.2;unfold DJ;rw[hva];exact this⟩
def Xfv(a b:List XP):List XP:=DJ Xat a b
def Xfu(a b:List XP):Bool:=okI a b a.length
theorem GdB.com{a b:List XP}(ha:GdB n a)(hb:GdB n b):GdB n (Xfv a b):=by
 have key:∀x∈Xfv a b,∃u∈a,∃v∈b,x=Xat u v:=λx hx=>by
  obtain⟨i,hi,rfl⟩:=List.mem_map.1 hx;have hi:=List.mem_range.1 hi;exact⟨_,Qw hi,_,Qw (by rw[hb.len,<-ha.len];exact hi),rfl⟩
 refine⟨by unfold Xfv DJ;rw[ah,ag,ha.len],λx hx=>?_,λx hx=>?_⟩
 ·obtain⟨u,hu,v,hv,rfl⟩:=key x hx;exact⟨QGA (ha.sz u hu).1 (hb.sz v hv).1,Xfg (ha.sz u hu).2 (hb.sz v hv).2⟩
 obtain⟨u,hu,v,hv,rfl⟩:=key x hx;refine⟨?_,?_⟩
 ·show Jh (E2 u.1 v.1)=false;rcases QCB u.1 v.1 with e | e<;>rw[e]
  ·exact(ha.lg u hu).1
  exact(hb.lg v hv).1
 show Jh (UK u.2 v.2)=false;rcases QBk u.2 v.2 with e | e<;>rw[e]
 ·exact(ha.lg u hu).2
 exact(hb.lg v hv).2
def cmR(ok:Bool)(v:List XP):List XP:=if ok=true then v else[]
def Xjp(ta tb:List Wl)(i:Nat):List UInt8×List (List UInt8×List UInt8)×List (List UInt8×List UInt8):=((el ta i).e,I4 (Xfv (lV (el ta i).wl) (lV (el tb i).wl)),I4 (Xfv (lV (el ta i).ll) (lV (el tb i).ll)))
def Xja(ta tb:List Wl):List (List UInt8×List (List UInt8×List UInt8)×List (List UInt8×List UInt8)):=(ai ta.length).map (Xjp ta tb)
def Xhp(ta tb:List Wl)(i:Nat):Bool:=Xfu (lV (el ta i).wl) (lV (el tb i).wl)&&Xfu (lV (el ta i).ll) (lV (el tb i).ll)
def Xi6(ta tb:List Wl):Bool:=(ai ta.length).all λi=>(el ta i).e==(el tb i).e
def Xiq(ta tb:List Wl):Bool:=(ai ta.length).all (Xhp ta tb)
def Xhq(ta tb:List Wl):List (List UInt8×List (List UInt8×List UInt8)×List (List UInt8×List UInt8))×Int :=
 if Xi6 ta tb=false then([],11)else if Xiq ta tb=false then([],30)else(Xja ta tb,0)
def Xi4(h:Xi6 ta tb=false):Xhq ta tb=([],11):=by unfold Xhq;rw[if_pos h]
def Xi5(h:Xi6 ta tb=true)(k:Xiq ta tb=false):Xhq ta tb=([],30):=by unfold Xhq;rw[if_neg (by rw[h];decide),if_pos k]
def Xi3(h:Xi6 ta tb=true)(k:Xiq ta tb=true):Xhq ta tb=(Xja ta tb,0):=by unfold Xhq;rw[if_neg (by rw[h];decide),if_neg (by rw[k];decide)]
def Xhr(n:Nat)(ta tb:List Wl):Int:=Qs [Dz n ta,Dz n tb,if((ta.length:Int) != (tb.length:Int))=true then 2 else 0]
def Xi7(e:Int)(m:List (List UInt8×List (List UInt8×List UInt8)×List (List UInt8×List UInt8))×Int):List (List UInt8×List (List UInt8×List UInt8)×List (List UInt8×List UInt8))×Int:=if e≠0 then([],e)else m
structure Xfz(F:Gs)(c:Sr×List Wl)(d:List (List UInt8×List (List UInt8×List UInt8)×List (List UInt8×List UInt8))):Prop where
 a:IF F c.1 c.2
 d:c.2.map Wl.d=d
def Xfz.nil(F:Gs):Xfz F (⟨none,0,0⟩,[]) []:=⟨⟨Qy.nil F none 3,rfl,λb h=>by cases h⟩,rfl⟩
structure MeJ(ta tb:List Wl) where
 i:Nat
 v:Value
 ob:List (Nat×Obj)
 bs:List Wl
 le:i<=ta.length
 hr:Q8 123 3 v i (bs.flatMap uI) ob
 len:bs.length=i
 d:bs.map Wl.d=(ai i).map (Xjp ta tb)
 ok:(ai i).all (Xhp ta tb)=true
def MeJ.next{ta tb:List Wl}(s:MeJ ta tb)(h:s.i<ta.length)(be:Wl){v:Value}{ob:List (Nat×Obj)}(hr:Q8 123 3 v (s.i+1) (s.bs.flatMap uI++uI be) ob)(hd:be.d=Xjp ta tb s.i)(ho:Xhp ta tb s.i=true):MeJ ta tb :=
 ⟨s.i+1,v,ob,s.bs++[be],h,by rw[CK];exact hr,by rw[List.length_append,s.len];rfl,by rw[aG,s.d,aE,aG,show aO (Xjp ta tb) [s.i]=[be.d] by rw[hd];rfl];rfl,by rw[aE,aM,s.ok];simp[ho]⟩
def MeF(F:Gs)(l:List Wl):Prop:=∀b∈l,Ks F b.w b.wl/\Ks F b.l b.ll
def MeF.snoc{l:List Wl}(h:MeF F l)(k:Ks F b.w b.wl/\Ks F b.l b.ll):MeF F (l++[b]):=λe he=>by
 rcases List.mem_append.1 he with he | he
 ·exact h e he
 rw[List.mem_singleton.1 he];exact k
def Xiu(h:i<ta.length)(k:Xhp ta tb i=false):Xiq ta tb=false:=by
 cases e:Xiq ta tb with
 |false=>rfl
 |true =>
  have:=List.all_eq_true.1 e i (List.mem_range.2 h);rw[k]at this;cases this
def MeJ.all(s:MeJ ta tb)(h:s.i=ta.length):Xiq ta tb=true/\s.bs.map Wl.d=Xja ta tb:=by
 refine⟨?_,?_⟩
 ·have:=s.ok;rw[h]at this;exact this
 have:=s.d;rw[h]at this;exact this
theorem Xif{la lb:List (List UInt8×List UInt8)}(hF:Fits F w)(hGl:JE F)(ha:Ks F ra la)(hb:Ks F rb lb)(hca:BS ra la)(hcb:BS rb lb)(hea:YZ n la=0)(heb:YZ n lb=0):QU prog 161 [ra.v,rb.v] w F (λ(c:Sr)=>.tuple #[c.v,.bool (Xfu (lV la) (lV lb))]) (λc F=>QxR F c (cmR (Xfu (lV la) (lV lb)) (Xfv (lV la) (lV lb)))):=by
 have hal:=ha.len;have hbl:=hb.len;have h1:=XZ hea;have h2:=XZ heb;have hna:=hca.n;have hga:GdB n (lV la):=.of hea;have hgb:GdB n (lV lb):=.of heb;have hgc:=hga.com hgb;refine QU.intro (G:=λF=>JE F/\Ks F ra la/\Ks F rb lb) func161 rfl tH rfl rfl hF (λF' hF'=>⟨hGl.le hF',ha.le hF',hb.le hF'⟩)<|wa<|wX rfl<|wZ rfl<|wa<|Qc z_4 λb6=>QW (vs:=[_]) rfl rfl rfl R5 rfl .here .h1 wk<|wY<|wb rfl<|QI rfl (λ_ _ f k=>H5 f k.1 k.2.1 hca h1.2) λc11=>JQ _ (λw F hF ⟨⟨hGl,ha,hb⟩,h11⟩=>And.intro h11.YI h11.len) λhn11=>?_
 obtain⟨hn11,hl11⟩:=hn11;rw[Yg]at hn11;refine wW rfl<|QI rfl (λ_ _ f k=>H5 f k.1.1 k.1.2.2 hcb h2.2) λc13=>JQ _ (λw F hF ⟨⟨⟨hGl,ha,hb⟩,h11⟩,h13⟩=>And.intro h13.YI h13.len) λhn13=>?_
 obtain⟨hn13,hl13⟩:=hn13;rw[Yg]at hn13;refine QA (VD I)<|XX I (List.Perm.refl _) (Xjb (bs:=[]) (bk:=b6) (ra:=c11.1) (rb:=c13.1) (la:=c11.2) (lb:=c13.2) (va:=(lV la)) (vb:=(lV lb)) (λF h9=>h9.1.2) tO hl11 hl13 (by rw[Yg];omega) (by rw[Yg];omega) O O hga.sz hgb.sz) λc15=>wD 6 I<|QA (Qe I R5 .here .h1)<|QA (XL I)<|QE<|QC ?_
 refine QQ I (λhc2=>?_) λhc2=>?_
 ·have h17:Xfu (lV la) (lV lb)=false:=by have h9:(!(Xfu (lV la) (lV lb)))=true:=hc2;simpa using h9
  refine wA 7 I ?_;exact Je ((⟨none,0,0⟩:Sr)) I (wU I I) (by rw[h17]<;>rfl) λF h9=>by rw[h17];exact⟨Qy.nil F none 2,rfl⟩
 have h17:Xfu (lV la) (lV lb)=true:=by have h9:(!(Xfu (lV la) (lV lb)))=false:=hc2;simpa using h9
 refine XV _ (λ_ _ f k=>k.2.YI) (λhn15=>?_);rw[show(DJ Xat (lV la) (lV lb)).length=n from hgc.len]at hn15;refine wC 5 I<|QI I (λw F hF ⟨⟨⟨⟨hGl,ha,hb⟩,h11⟩,h13⟩,h15⟩=>BJ (l:=c15.2) hF hGl h15 O λa ha=>(hgc.sz a ha).mono tF) λc20=>?_
 rw[show Jx (DJ Xat (lV la) (lV lb))=false from hgc.Xju];refine wD 15 I ?_;exact Je (c20) rfl (wU I I) (by rw[h17]<;>rfl) λF ⟨⟨⟨⟨⟨hGl,ha,hb⟩,h11⟩,h13⟩,h15⟩,h20⟩=>by rw[h17];simp only[Bool.false_eq_true,if_false]at h20;exact BQ.q h20
theorem Xjs(hF:Fits F w)(hGl:JE F)(hy:X4 F y)(ht:GJ y)(ha:IF F ra ta)(hb:IF F rb tb)(hca:QCR ra ta)(hcb:QCR rb tb):QU prog 67 [y.v,ra.v,rb.v] w F (λ(c:Sr×List Wl)=>.tuple #[c.1.v,.int .i64 (Xi7 (Qs [y.e,(Xhr y.nm.n ta tb)]) (Xhq ta tb)).2]) (λc F=>Xfz F c (Xi7 (Qs [y.e,(Xhr y.nm.n ta tb)]) (Xhq ta tb)).1):=by
 have hal:=ha.len;have hbl:=hb.len;have hna:=hca.n;have hnb:=hcb.n;refine QU.intro (G:=λF=>JE F/\X4 F y/\IF F ra ta/\IF F rb tb) func67 rfl tH rfl rfl hF (λF' hF'=>⟨hGl.le hF',hy.le hF',ha.le hF',hb.le hF'⟩)<|wa<|Qp rfl (vs:=[_,_,_]) rfl λb3=>wX rfl<|wZ rfl<|QG<|wa<|QA (wO I J6 .here)<|QI rfl (λ_ _ f k=>Zs (y:=y) f k.1 k.2.1 ht) λ_=>wZ rfl<|wb rfl<|QA (QT rfl rfl rfl)<|QE<|QC ?_
 refine QQ I (λhc2=>?_) λhc2=>?_
 ·have h20:y.e≠0:=bne_iff_ne.1 hc2;have hE:Qs [y.e,(Xhr y.nm.n ta tb)]=y.e:=by rw[Zf h20]
  refine wA 8 I ?_;exact Je ((⟨none,0,0⟩,[])) I (wU I I) (by rw[hE];unfold Xi7;rw[if_pos h20]) λF h9=>by rw[hE];unfold Xi7;rw[if_pos h20];exact Xfz.nil F
 have h20:y.e=0:=bne_eq_false_iff_eq.1 hc2;have hE:Qs [y.e,(Xhr y.nm.n ta tb)]=(Xhr y.nm.n ta tb):=by rw[h20,Zn,QCD]
 have hn1:=(hy.ok h20).n1;refine wC 4 I<|JG we mixed tE<|QK (wO I J6 .here)<|QK (QD I)<|QR I (λ_ _ f k=>F3 (y:=y) f k.1.1 k.1.2.1 k.1.2.2.1 hca) λ_=>QK (wO I J6 .here)<|QK (QD I)<|QR I (λ_ _ f k=>F3 (y:=y) f k.1.1.1 k.1.1.2.1 k.1.1.2.2.2 hcb) λ_=>QK (QD I)<|QK (Qg I EC)<|QK (QD I)<|QK (Qg I EC)<|QK (QT I I I)<|QR I (λ_ _ f k=>Be f) λ_=>?_
 refine Qo I (Q5 ZM) YS Ht I I (λb34=>?_) (λw h=>h.imp tR λF h=>h.1.1.1);refine QR I (λ_ _ f k=>YV f (Qy.of (cs:=aO Jo [_,_,_]) k.2 I) tF) (λ_=>QK (QF I)<|Q7<|wE 7 I ?_);refine QQ I (λhc2=>?_) λhc2=>?_
 ·have h37:(Xhr y.nm.n ta tb)≠0:=by unfold Xhr;rw[hal,hbl];exact bne_iff_ne.1 hc2
  refine wA 8 I ?_;exact Je ((⟨none,0,0⟩,[])) I (wU I I) (by rw[hE];unfold Xi7;rw[if_pos h37];unfold Xhr;rw[hal,hbl]) λF h9=>by rw[hE];unfold Xi7;rw[if_pos h37];exact Xfz.nil F
 have h37:(Xhr y.nm.n ta tb)=0:=by unfold Xhr;rw[hal,hbl];exact bne_eq_false_iff_eq.1 hc2
 have h3:=EY h37;have hoa:=gA h3.1;have hob:=gA h3.2.1;have hll:ta.length=tb.length:=by
  have h9:=h3.2.2;by_cases g:((ta.length:Int) != (tb.length:Int))=true
  ·rw[if_pos g]at h9;cases h9
  have:(ta.length:Int)=(tb.length:Int):=by simpa using g
  omega
 have hcta:∀b∈ta,b.e.length<=1000000/\BS b.w b.wl/\BS b.l b.ll:=hca.t.resolve_left (tD hoa.len);have hctb:∀b∈tb,b.e.length<=1000000/\BS b.w b.wl/\BS b.l b.ll:=hcb.t.resolve_left (tD hob.len);refine wC 11 I<|QA (Qg I EC)<|wD 4 I<|J9 (ι:=Wo (ai ta.length) λi=>(el ta i).e==(el tb i).e) [(1,_),(2,_),(10,_),(40,_)] (λi=>[(41,.int .i64 ((i.i:Nat):Int))]) (λi=>ta.length-i.i) (Wo.start _ _) wv wk λi=>?_
 simp only[ae,af];have hi:=i.le;rw[ag]at hi;refine wA 6 I ?_;refine QQ I (λhc2=>?_) λhc2=>?_
 ·have hlt:i.i<ta.length:=tD<|wi hc2
  have hlt2:i.i<tb.length:=O;refine wC 11 I<|JG we mixed tE<|QK (QD I)<|QK (QD I)<|QK (Q3 (n:=ra.n) i.i (λF h9=>h9.1.1.1.1.1.1.2.2.1.row) rfl rfl EC X8 O)<|QK (QH I Ec JF)<|QK (JA (n:=ra.n) ((i.i)*3+0) (λF h9=>h9.1.1.1.1.1.1.2.2.1.row) O rfl JF (JN (f:=uI) (l:=ta) Cb O rfl))<|QK (QD I)<|QK (QD I)<|QK (Q3 (n:=rb.n) i.i (λF h9=>h9.1.1.1.1.1.1.2.2.2.row) rfl rfl EC X8 O)<|QK (QH I Ec JF)<|QK (JA (n:=rb.n) ((i.i)*3+0) (λF h9=>h9.1.1.1.1.1.1.2.2.2.row) O rfl JF (JN (f:=uI) (l:=tb) Cb O rfl))<|QK (xb I I)<|Q7<|QC ?_
  refine QQ I (λhc2=>?_) λhc2=>?_
  ·have hne:((el ta i.i).e==(el tb i.i).e)=false:=by simpa using hc2
   have hNn:Xi6 ta tb=false:=i.hit (by rw[ag];exact hlt) (by rw[ZG hlt];exact hne);refine wA 7 I ?_
   repeat first|refine Q6 ?_|refine Qv ?_
   exact Je ((⟨none,0,0⟩,[])) I (wU I I) (by rw[hE,h37,Xi4 hNn]<;>rfl) λF h9=>by rw[hE,h37,Xi4 hNn];exact Xfz.nil F
  have heq:((el ta i.i).e==(el tb i.i).e)=true:=by simpa using hc2
  refine QN<|Qj<|QC<|QB<|QA (Qu I I O)<|wB 2 I ?_
  exact Ql (i.next (by rw[ag];exact hlt) (by rw[ZG hlt];exact heq)) (by show ta.length-(i.i+1)<ta.length-i.i;omega) wy we tM
 have hge:ta.length<=i.i:=tD<|wj hc2
 have hNn:Xi6 ta tb=true:=i.stop (by rw[ag];exact hge);refine Qx ?_
 repeat first|refine QY ?_|refine QO tH ?_
 refine QZ<|QC<|QG<|wb rfl<|QA (Qg rfl EC)<|wW rfl<|wY<|QV<|JU (ι:=MeJ ta tb) [(1,_),(2,_),(57,_)] (λi2=>[(10,i2.v),(58,.int .i64 ((i2.i:Nat):Int))]) (λi2=>i2.ob) (λi2 F=>MeF F i2.bs) (λi2=>ta.length-i2.i) (⟨0,.slice none 0 0,[],[],ar _,.nil,rfl,rfl,rfl⟩) wu wm tQ (λ_ _ b h=>by cases h) λi2=>?_
 simp only[ae,af];have hi2:=i2.le;refine wA 6 I ?_;refine QQ I (λhc2=>?_) λhc2=>?_
 ·have hlt:i2.i<ta.length:=tD<|wi hc2
  have hlt2:i2.i<tb.length:=O;have hem:=Qw hlt;have hem2:=Qw hlt2;refine wC 11 I<|JG we mixed tE<|QK (QD I)<|QK (QD I)<|QK (Q3 (n:=ra.n) (i2.i) (λF h9=>h9.1.1.1.1.1.1.1.2.2.1.row) rfl rfl EC X8 O)<|QK (QH I Ub J0)<|QK (JA (n:=ra.n) ((i2.i)*3+1) (λF h9=>h9.1.1.1.1.1.1.1.2.2.1.row) O rfl J0 (JN (f:=uI) (l:=ta) Cb O rfl))<|QK (QD I)<|QK (QD I)<|QK (Q3 (n:=rb.n) (i2.i) (λF h9=>h9.1.1.1.1.1.1.1.2.2.2.row) rfl rfl EC X8 O)<|QK (QH I Ub J0)<|QK (JA (n:=rb.n) ((i2.i)*3+1) (λF h9=>h9.1.1.1.1.1.1.1.2.2.2.row) O rfl J0 (JN (f:=uI) (l:=tb) Cb O rfl))<|QR I (λw F hF ⟨⟨⟨⟨⟨⟨⟨⟨hGl,hy,ha,hb⟩,_⟩,_⟩,_⟩,_⟩,hs34⟩,_⟩,hS⟩=>Xif (n:=y.nm.n) hF hGl (ha.bx _ hem).1 (hb.bx _ hem2).1 (hcta _ hem).2.1 (hctb _ hem2).2.1 (hoa.w _ hlt) (hob.w _ hlt2)) λc72=>QK (QD I)<|QK (Qa I I) ?_
  refine QK (Qa I I)<|QK (QF I)<|QK (QF I)<|Q7<|QC<|QG<|JG we mixed tE<|QK (QD I)<|QK (QD I)<|QK (Q3 (n:=ra.n) (i2.i) (λF h9=>h9.1.1.1.1.1.1.1.1.2.2.1.row) rfl rfl EC X8 O)<|QK (QH I N6 J0)<|QK (JA (n:=ra.n) ((i2.i)*3+2) (λF h9=>h9.1.1.1.1.1.1.1.1.2.2.1.row) O rfl J0 (JN (f:=uI) (l:=ta) Cb O rfl))<|QK (QD I)<|QK (QD I)<|QK (Q3 (n:=rb.n) (i2.i) (λF h9=>h9.1.1.1.1.1.1.1.1.2.2.2.row) rfl rfl EC X8 O)<|QK (QH I N6 J0)<|QK (JA (n:=rb.n) ((i2.i)*3+2) (λF h9=>h9.1.1.1.1.1.1.1.1.2.2.2.row) O rfl J0 (JN (f:=uI) (l:=tb) Cb O rfl))<|QR I (λw F hF ⟨⟨⟨⟨⟨⟨⟨⟨⟨hGl,hy,ha,hb⟩,_⟩,_⟩,_⟩,_⟩,hs34⟩,_⟩,hS⟩,h72⟩=>Xif (n:=y.nm.n) hF hGl (ha.bx _ hem).2 (hb.bx _ hem2).2 (hcta _ hem).2.2 (hctb _ hem2).2.2 (hoa.l _ hlt) (hob.l _ hlt2)) λc86=>QK (QD I)<|QK (Qa I I)<|QK (Qa I I)<|QK (QF I)<|QK (QF I)<|Q7<|QC ?_
  refine QG ?_;refine ZZ [(1,_),(2,_),(10,_),(12,_),(13,_),(15,_),(57,_),(58,_)] [(94,.bool (!(Xhp ta tb i2.i)))] w8 ?_ ?_
  ·refine wA 2 I<|QA (XL I)<|wW I ?_
   refine Qn (t:=91) rfl (λhb91=>?_) λhb91=>?_
   ·refine wB 4 I ?_;exact JY ⟨rfl,rfl,rfl,rfl,rfl,rfl,rfl,rfl,(congrArg (λb=>some (ab b)) (by unfold Xhp;rw[show(Xfu (lV (el ta i2.i).wl) (lV (el tb i2.i).wl))=false from by simpa using hb91];rfl)),trivial⟩ we tM
   refine wB 3 I<|QA (XL I)<|wB 2 I ?_
   exact JY ⟨rfl,rfl,rfl,rfl,rfl,rfl,rfl,rfl,(congrArg (λb=>some (ab b)) (by unfold Xhp;rw[show(Xfu (lV (el ta i2.i).wl) (lV (el tb i2.i).wl))=true from by simpa using hb91,aB])),trivial⟩ we tM
  simp only[ae,af];refine QQ I (λhc2=>?_) λhc2=>?_
  ·have hCc:=Xiu hlt (show Xhp ta tb i2.i=false by simpa using hc2);refine wA 7 I ?_
   repeat first|refine Q6 ?_|refine Qv ?_
   exact Je ((⟨none,0,0⟩,[])) I (wU I I) (by rw[hE,h37,Xi5 hNn hCc]<;>rfl) λF h9=>by rw[hE,h37,Xi5 hNn hCc];exact Xfz.nil F
  have hok:Xhp ta tb i2.i=true:=by simpa using hc2
  have hkk:(Xfu (lV (el ta i2.i).wl) (lV (el tb i2.i).wl))=true/\(Xfu (lV (el ta i2.i).ll) (lV (el tb i2.i).ll))=true:=by unfold Xhp at hok;simpa using hok
  obtain⟨hkW,hkL⟩:=hkk;refine wC 6 I<|QA (Q3 (n:=ra.n) (i2.i) (λF h9=>h9.1.1.1.1.1.1.1.1.1.2.2.1.row) rfl rfl EC X8 O)<|QA (QH I Ec JF)<|QA (JA (n:=ra.n) ((i2.i)*3+0) (λF h9=>h9.1.1.1.1.1.1.1.1.1.2.2.1.row) O rfl JF (JN (f:=uI) (l:=ta) Cb O rfl))<|wB 2 I<|QA (Q4 I RF Wt (.cons (vs:=[_]) I I I .h1 (.cons (vs:=[_]) I I I (.skip .h1) (.cons (vs:=[_]) I I I (.skip (.skip .h1)) .nil))))<|Qb I (Q5 EC) X8 Wt I I λb104=>?_
  refine Z4 (bs1:=[]) (ob:=i2.ob) (n:=i2.i) (k:=1) (sz:=3) (news:=(uI ⟨(el ta i2.i).e,c72,I4 (Xfv (lV (el ta i2.i).wl) (lV (el tb i2.i).wl)),c86,I4 (Xfv (lV (el ta i2.i).ll) (lV (el tb i2.i).ll))⟩)) I I EC X8 Wt I QCM i2.hr (Src.row (off:=0) tO (λj q hq=>by rw[aC];rw[ao];exact hq) rfl) O O (λv hv=>by simp only[uI,aI,aF,or_false]at hv;rcases hv with rfl | rfl | rfl<;>rfl) (λv105 ob105 hr105=>?_);refine wB 2 I<|Qj<|QC<|QB<|QA (Qu I I O)<|wB 2 I ?_
  exact Ql (i2.next hlt ⟨(el ta i2.i).e,c72,I4 (Xfv (lV (el ta i2.i).wl) (lV (el tb i2.i).wl)),c86,I4 (Xfv (lV (el ta i2.i).ll) (lV (el tb i2.i).ll))⟩ hr105 rfl hok) (by show ta.length-(i2.i+1)<ta.length-i2.i;omega) wy we λF ⟨⟨⟨⟨⟨⟨⟨⟨⟨⟨⟨hGl,hy,ha,hb⟩,_⟩,_⟩,_⟩,_⟩,hs34⟩,_⟩,hS⟩,h72⟩,h86⟩,hs104⟩=>⟨⟨⟨⟨⟨⟨⟨⟨hGl,hy,ha,hb⟩,trivial⟩,trivial⟩,trivial⟩,trivial⟩,hs34⟩,trivial⟩,hS.snoc ⟨by have h9:=h72;rw[hkW]at h9;exact h9.CW,by have h9:=h86;rw[hkL]at h9;exact h9.CW⟩⟩
 have hge2:i2.i=ta.length:=tD<|wj hc2
 obtain⟨hCc,hdd⟩:=i2.all hge2;refine Qx ?_
 repeat first|refine QY ?_|refine QO tH ?_
 refine QZ<|wE 3 I ?_
 have hxl:=i2.len;obtain⟨⟨rq,rn,rc⟩,hv2,hrn,hrc,hfix⟩:=Q8.fix (w0:=w) (F0:=F) (bs1:=[]) (G:=_) i2.hr;dsimp only at hrn hrc hfix;subst hrn;refine Zj hfix ?_;rw[hv2];dsimp only[Sr.v];refine wD 6 I ?_;exact Je ((⟨rq,i2.i,rc⟩,i2.bs)) I (wU I I) (by rw[hE,h37,Xi3 hNn hCc]<;>rfl) λF h9=>by rw[hE,h37,Xi3 hNn hCc];exact⟨⟨h9.2,i2.len,h9.1.2⟩,hdd⟩
theorem Xi2(m x:Rat):Dv m x=UK m x:=by
 have h1:=N8 m x;have h2:=V9 x m;unfold Dv UK;by_cases h:Yw m x<=0
 ·rw[if_pos h];have h3:=h1.1 h;rw[if_neg (λk=>by have:=h2.1 k;grind)]
 rw[if_neg h];rw[if_pos (h2.2 (by have:¬m<=x:=λk=>h (h1.2 k);grind))]
structure CmJ(va vb:List XP) extends Xaf va.length (λi=>Xat (el va i) (el vb i)) where
 ok:okI va vb i=true
def Xip{va vb:List XP}(h:i<va.length)(k:Xft (el va i) (el vb i)=false):Xfu va vb=false:=by
 cases e:Xfu va vb with
 |false=>rfl
 |true =>
  have:=List.all_eq_true.1 e i (List.mem_range.2 h);rw[k]at this;cases this
def Xhx(ta tb:List Wl):List (List UInt8×List (List UInt8×List UInt8)×List (List UInt8×List UInt8))×Int:=if((ta.length:Int) != (tb.length:Int))=true then([],2)else Xhq ta tb
theorem Xhw{va vb:List XP}(hF:Fits F w)(ha:QxR F ra va)(hb:QxR F rb vb)(hga:GdB n va)(hgb:GdB n vb)(hn:n<=1000000):QU prog 162 [ra.v,rb.v] w F (λ(c:Sr)=>.tuple #[c.v,.bool (Xfu va vb)]) (λc F=>QxR F c (cmR (Xfu va vb) (Xfv va vb))):=by
 have hal:=ha.len;have hbl:=hb.len;have hgl:=hga.len;have hgm:=hgb.len;refine QU.intro (G:=λF=>QxR F ra va/\QxR F rb vb) func162 rfl tH rfl rfl hF (λF' hF'=>⟨ha.le hF',hb.le hF'⟩)<|wa<|wX rfl<|wZ rfl<|wa<|wZ rfl<|QG<|wa<|wZ rfl<|QV<|JU (ι:=CmJ va vb) [(0,_),(1,_)] (λi=>[(6,i.v),(7,.int .i64 ((i.i:Nat):Int))]) (λi=>i.ob) (λi F=>True) (λi=>(va.length)-i.i) (⟨Xaf.start _ _,rfl⟩) wm wm we tL λi=>?_
 simp only[ae,af];have hi:=i.le;refine wA 5 I<|QA (Qg I XF)<|wD 3 I ?_
 refine QQ I (λhc2=>?_) λhc2=>?_
 ·have hlt:i.i<va.length:=tD<|wi hc2
  have hem:=Qw hlt;have hzA:=hga.sz _ hem;have hzB:=hgb.sz _ (Qw (show i.i<vb.length by omega));refine wC 5 I<|Kr (r:=[0,1,2,3,4,5,6,7,8,9,10,11,12,13,14,15,16,17,18,19,20,21,22,23,24]) we mixed tE rfl<|Jr 0 tE rfl rfl<|QK (QD I)<|JC<|Jr 1 tE rfl rfl<|QK (QD I)<|JC<|Jr 2 tE rfl rfl<|QK (Q3 (n:=ra.n) i.i (λF h9=>h9.1.1.row) rfl rfl XF Jd O)<|JC<|Jr 3 tE rfl rfl<|QK (QH I V6 JF)<|JC<|Jr 4 tE rfl rfl<|QK (JA (n:=ra.n) ((i.i)*2+0) (λF h9=>h9.1.1.row) O rfl JF (JN (f:=LP) (l:=va) uh O rfl))<|JC<|Jr 5 tE rfl rfl<|QK (QD I)<|JC<|Jr 6 tE rfl rfl ?_
  refine QK (QD I)<|JC<|Jr 7 tE rfl rfl<|QK (Q3 (n:=rb.n) i.i (λF h9=>h9.1.2.row) rfl rfl XF Jd O)<|JC<|Jr 8 tE rfl rfl<|QK (QH I V6 JF)<|JC<|Jr 9 tE rfl rfl<|QK (JA (n:=rb.n) ((i.i)*2+0) (λF h9=>h9.1.2.row) O rfl JF (JN (f:=LP) (l:=vb) uh O rfl))<|JC<|Jr 11 tE rfl rfl<|QK (QD I)<|JC<|Jr 12 tE rfl rfl<|QK (QD I)<|JC<|Jr 13 tE rfl rfl<|QK (Q3 (n:=ra.n) i.i (λF h9=>h9.1.1.row) rfl rfl XF Jd O)<|JC<|Jr 14 tE rfl rfl<|QK (QH I We JF)<|JC<|Jr 15 tE rfl rfl<|QK (JA (n:=ra.n) ((i.i)*2+1) (λF h9=>h9.1.1.row) O rfl JF (JN (f:=LP) (l:=va) uh O rfl)) ?_
  refine JC<|Jr 16 tE rfl rfl<|QK (QD I)<|JC<|Jr 17 tE rfl rfl<|QK (QD I)<|JC<|Jr 18 tE rfl rfl<|QK (Q3 (n:=rb.n) i.i (λF h9=>h9.1.2.row) rfl rfl XF Jd O)<|JC<|Jr 19 tE rfl rfl<|QK (QH I We JF)<|JC<|Jr 20 tE rfl rfl<|QK (JA (n:=rb.n) ((i.i)*2+1) (λF h9=>h9.1.2.row) O rfl JF (JN (f:=LP) (l:=vb) uh O rfl))<|JC ?_
  refine NO 10 23 tE tE rfl rfl rfl rfl rfl rfl ?_ ?_
  ·refine QR I (λ_ _ f k=>C4 (x:=(el va i.i).1) (y:=(el vb i.i).1) f (aa hzA.1 tF) (aa hzB.1 tF)) (λ_=>?_);rw[QGV];refine JC ?_;refine NO 21 23 tE tE rfl rfl rfl rfl rfl rfl ?_ ?_
   ·refine QR I (λ_ _ f k=>gS (x:=(el va i.i).2) (y:=(el vb i.i).2) f (aa hzA.2 tF) (aa hzB.2 tF)) (λ_=>?_);rw[Xi2];refine JC<|Jr 22 tE rfl rfl<|QK (Q4 I Zb Xa (wV I I I))<|JC<|Xe 23 tE tE rfl rfl rfl<|Xfh Xa λb8=>JC<|Xe 24 tE tE rfl rfl rfl<|JV (vs:=[_,_]) I I I Jd I .here we (λ_ h=>h.1.1) .h2 wm<|JC<|Yk<|wE 4 I<|QA (QH I V6 JF)<|QA (Qe I JF .here .h1)<|QA (QH I We JF)<|QA (Qe I JF .here (.skip .h1))<|QI I (λ_ _ f k=>QBB (x:=(Xat (el va i.i) (el vb i.i)).1) (y:=(Xat (el va i.i) (el vb i.i)).2) f (aa (QGA hzA.1 hzB.1) tF) (aa (Xfg hzA.2 hzB.2) tF)) λ_=>wD 3 I ?_
    refine QQ I (λhc2=>?_) λhc2=>?_
    ·have hcb:Xfu va vb=false:=Xip hlt (by unfold Xft;exact decide_eq_false (tD<|wi hc2));refine wA 7 I ?_
     repeat first|refine Q6 ?_|refine Qv ?_
     exact Je ((⟨none,0,0⟩:Sr)) I (wU I I) (by rw[hcb]<;>rfl) λF h9=>by rw[hcb];exact⟨Qy.nil F none 2,rfl⟩
    have h43:¬Yw (Xat (el va i.i) (el vb i.i)).1 (Xat (el va i.i) (el vb i.i)).2>0:=wj hc2;refine wC 4 I<|QA (wN I Jd .here)<|Qb I (Q5 XF) Jd Xa I I λb46=>?_
    refine Z4 (bs1:=[_]) (ob:=i.ob) (n:=i.i) (k:=1) (sz:=2) (news:=(LP (Xat (el va i.i) (el vb i.i)))) I I XF Jd Xa I QAH i.hr (Src.row (off:=0) tO (λj q hq=>by rw[aC];rw[ao];exact hq) rfl) O O (QEi _) (λv47 ob47 hr47=>?_);refine wB 2 I<|Qj<|wE 3 I<|QA (Qu I I O)<|wB 2 I ?_
    exact Ql (⟨i.toXaf.next hlt hr47 rfl,by show okI va vb (i.i+1)=true;rw[Xhs,i.ok,aB];unfold Xft;exact decide_eq_true O⟩) (by show va.length-(i.i+1)<va.length-i.i;omega) wv (.cons _ we) λF h=>⟨h.1.1.1.1.1,trivial⟩
   refine Xfh Xa (λb8=>JC<|Xe 21 tE tE rfl rfl rfl<|QR I (λ_ _ f k=>gS (x:=(el va i.i).2) (y:=(el vb i.i).2) f (aa hzA.2 tF) (aa hzB.2 tF)) λ_=>?_);rw[Xi2];refine JC<|Jr 22 tE rfl rfl<|QK (Q4 I Zb Xa (wV I I I))<|JC<|Xe 24 tE tE rfl rfl rfl<|JV (vs:=[_,_]) I I I Jd I .here we (λ_ h=>h.1.1) .h2 wm<|JC<|Yk<|wE 4 I<|QA (QH I V6 JF)<|QA (Qe I JF .here .h1)<|QA (QH I We JF)<|QA (Qe I JF .here (.skip .h1))<|QI I (λ_ _ f k=>QBB (x:=(Xat (el va i.i) (el vb i.i)).1) (y:=(Xat (el va i.i) (el vb i.i)).2) f (aa (QGA hzA.1 hzB.1) tF) (aa (Xfg hzA.2 hzB.2) tF)) λ_=>wD 3 I ?_
   refine QQ I (λhc2=>?_) λhc2=>?_
   ·have hcb:Xfu va vb=false:=Xip hlt (by unfold Xft;exact decide_eq_false (tD<|wi hc2));refine wA 7 I ?_
    repeat first|refine Q6 ?_|refine Qv ?_
    exact Je ((⟨none,0,0⟩:Sr)) I (wU I I) (by rw[hcb]<;>rfl) λF h9=>by rw[hcb];exact⟨Qy.nil F none 2,rfl⟩
   have h43:¬Yw (Xat (el va i.i) (el vb i.i)).1 (Xat (el va i.i) (el vb i.i)).2>0:=wj hc2;refine wC 4 I<|QA (wN I Jd .here)<|Qb I (Q5 XF) Jd Xa I I λb46=>?_
   refine Z4 (bs1:=[_]) (ob:=i.ob) (n:=i.i) (k:=1) (sz:=2) (news:=(LP (Xat (el va i.i) (el vb i.i)))) I I XF Jd Xa I QAH i.hr (Src.row (off:=0) tO (λj q hq=>by rw[aC];rw[ao];exact hq) rfl) O O (QEi _) (λv47 ob47 hr47=>?_);refine wB 2 I<|Qj<|wE 3 I<|QA (Qu I I O)<|wB 2 I ?_
   exact Ql (⟨i.toXaf.next hlt hr47 rfl,by show okI va vb (i.i+1)=true;rw[Xhs,i.ok,aB];unfold Xft;exact decide_eq_true O⟩) (by show va.length-(i.i+1)<va.length-i.i;omega) wv (.cons _ we) λF h=>⟨h.1.1.1.1.1,trivial⟩
  refine Xfh Xa (λb8=>JC<|Xe 10 tE tE rfl rfl rfl<|QR I (λ_ _ f k=>C4 (x:=(el va i.i).1) (y:=(el vb i.i).1) f (aa hzA.1 tF) (aa hzB.1 tF)) λ_=>?_);rw[QGV];refine JC<|Xe 21 tE tE rfl rfl rfl<|QR I (λ_ _ f k=>gS (x:=(el va i.i).2) (y:=(el vb i.i).2) f (aa hzA.2 tF) (aa hzB.2 tF)) λ_=>?_
  rw[Xi2];refine JC<|Jr 22 tE rfl rfl<|QK (Q4 I Zb Xa (wV I I I))<|JC<|Xe 24 tE tE rfl rfl rfl<|JV (vs:=[_,_]) I I I Jd I .here we (λ_ h=>h.1.1) .h2 wm<|JC<|Yk<|wE 4 I<|QA (QH I V6 JF)<|QA (Qe I JF .here .h1)<|QA (QH I We JF)<|QA (Qe I JF .here (.skip .h1))<|QI I (λ_ _ f k=>QBB (x:=(Xat (el va i.i) (el vb i.i)).1) (y:=(Xat (el va i.i) (el vb i.i)).2) f (aa (QGA hzA.1 hzB.1) tF) (aa (Xfg hzA.2 hzB.2) tF)) λ_=>wD 3 I ?_
  refine QQ I (λhc2=>?_) λhc2=>?_
  ·have hcb:Xfu va vb=false:=Xip hlt (by unfold Xft;exact decide_eq_false (tD<|wi hc2));refine wA 7 I ?_
   repeat first|refine Q6 ?_|refine Qv ?_
   exact Je ((⟨none,0,0⟩:Sr)) I (wU I I) (by rw[hcb]<;>rfl) λF h9=>by rw[hcb];exact⟨Qy.nil F none 2,rfl⟩
  have h43:¬Yw (Xat (el va i.i) (el vb i.i)).1 (Xat (el va i.i) (el vb i.i)).2>0:=wj hc2;refine wC 4 I<|QA (wN I Jd .here)<|Qb I (Q5 XF) Jd Xa I I λb46=>?_
  refine Z4 (bs1:=[_]) (ob:=i.ob) (n:=i.i) (k:=1) (sz:=2) (news:=(LP (Xat (el va i.i) (el vb i.i)))) I I XF Jd Xa I QAH i.hr (Src.row (off:=0) tO (λj q hq=>by rw[aC];rw[ao];exact hq) rfl) O O (QEi _) (λv47 ob47 hr47=>?_);refine wB 2 I<|Qj<|wE 3 I<|QA (Qu I I O)<|wB 2 I ?_
  exact Ql (⟨i.toXaf.next hlt hr47 rfl,by show okI va vb (i.i+1)=true;rw[Xhs,i.ok,aB];unfold Xft;exact decide_eq_true O⟩) (by show va.length-(i.i+1)<va.length-i.i;omega) wv (.cons _ we) λF h=>⟨h.1.1.1.1.1,trivial⟩
 have hge:va.length<=i.i:=tD<|wj hc2
 have hie:i.i=va.length:=O;have hcb:Xfu va vb=true:=by have h9:=i.ok;rw[hie]at h9;exact h9
 refine Qx ?_
 repeat first|refine QY ?_|refine QO tH ?_
 refine QZ<|wE 3 I ?_
 obtain⟨⟨rq,rn,rc⟩,hv2,hrn,hrc,hfix⟩:=Q8.fix (w0:=w) (F0:=F) (bs1:=[]) (G:=_) i.hr;dsimp only at hrn hrc hfix;subst hrn;refine Zj hfix ?_;rw[hv2];dsimp only[Sr.v];refine wD 6 I ?_;exact Je ((⟨rq,i.i,rc⟩:Sr)) I (wU I I) (by rw[hcb]<;>rfl) λF h9=>by rw[hcb];exact i.toXaf.row hie h9.2
theorem Xjn(hF:Fits F w)(ha:Xgf F ra ta)(hb:Xgf F rb tb)(hoa:QHw n ta)(hob:QHw n tb)(hnn:n<=1000)(hna:ra.n<=1000000/\rb.n<=1000000):QU prog 68 [ra.v,rb.v] w F (λ(c:Sr×List Wl)=>.tuple #[c.1.v,.int .i64 (Xhx ta tb).2]) (λc F=>Xfz F c (Xhx ta tb).1):=by
 have hal:=ha.a.len;have hbl:=hb.a.len;refine QU.intro (G:=λF=>Xgf F ra ta/\Xgf F rb tb) func68 rfl tH rfl rfl hF (λF' hF'=>⟨ha.le hF',hb.le hF'⟩)<|wa<|wX rfl<|wZ rfl<|QG<|wb rfl<|QA (Qg rfl EC)<|wW rfl<|QA (Qg rfl EC)<|QA (QT rfl rfl rfl)<|QE<|QC ?_
 refine QQ I (λhc2=>?_) λhc2=>?_
 ·have hQ:Xhx ta tb=([],2):=by unfold Xhx;rw[if_pos (by rw[hal,hbl];exact hc2)]
  refine wA 7 I ?_;exact Je ((⟨none,0,0⟩,[])) I (wU I I) (by rw[hQ]<;>rfl) λF h9=>by rw[hQ];exact Xfz.nil F
 have hQ:Xhx ta tb=Xhq ta tb:=by unfold Xhx;rw[if_neg (by rw[hal,hbl,hc2];decide)]
 have hll:ta.length=tb.length:=by have:(ra.n:Int)=(rb.n:Int):=(by simpa using hc2);omega
 refine wC 9 I<|J9 (ι:=Wo (ai ta.length) λi=>(el ta i).e==(el tb i).e) [(0,_),(1,_)] (λi=>[(6,.int .i64 ((i.i:Nat):Int))]) (λi=>ta.length-i.i) (Wo.start _ _) wm wk λi=>?_
 simp only[ae,af];have hi:=i.le;rw[ag]at hi;refine wA 5 I<|QA (Qg I EC)<|wD 3 I ?_
 refine QQ I (λhc2=>?_) λhc2=>?_
 ·have hlt:i.i<ta.length:=tD<|wi hc2
  have hlt2:i.i<tb.length:=O;refine wC 5 I<|JG we mixed tE<|QK (QD I)<|QK (QD I)<|QK (Q3 (n:=ra.n) i.i (λF h9=>h9.1.a.row) rfl rfl EC X8 O)<|QK (QH I Ec JF)<|QK (JA (n:=ra.n) ((i.i)*3+0) (λF h9=>h9.1.a.row) O rfl JF (JN (f:=uI) (l:=ta) Cb O rfl))<|QK (QD I)<|QK (QD I)<|QK (Q3 (n:=rb.n) i.i (λF h9=>h9.2.a.row) rfl rfl EC X8 O)<|QK (QH I Ec JF)<|QK (JA (n:=rb.n) ((i.i)*3+0) (λF h9=>h9.2.a.row) O rfl JF (JN (f:=uI) (l:=tb) Cb O rfl))<|QK (xb I I)<|Q7<|QC ?_
  refine QQ I (λhc2=>?_) λhc2=>?_
  ·have hne:((el ta i.i).e==(el tb i.i).e)=false:=by simpa using hc2
   have hNn:Xi6 ta tb=false:=i.hit (by rw[ag];exact hlt) (by rw[ZG hlt];exact hne);refine wA 7 I ?_
   repeat first|refine Q6 ?_|refine Qv ?_
   exact Je ((⟨none,0,0⟩,[])) I (wU I I) (by rw[hQ,Xi4 hNn]<;>rfl) λF h9=>by rw[hQ,Xi4 hNn];exact Xfz.nil F
  have heq:((el ta i.i).e==(el tb i.i).e)=true:=by simpa using hc2
  refine QN<|Qj<|wE 3 I<|QA (Qu I I O)<|wB 2 I ?_
  exact Ql (i.next (by rw[ag];exact hlt) (by rw[ZG hlt];exact heq)) (by show ta.length-(i.i+1)<ta.length-i.i;omega) wu we tM
 have hge:ta.length<=i.i:=tD<|wj hc2
 have hNn:Xi6 ta tb=true:=i.stop (by rw[ag];exact hge);refine Qx ?_
 repeat first|refine QY ?_|refine QO tH ?_
 refine QZ<|QC<|wa<|wZ rfl<|QG<|wa<|wZ rfl<|QV<|JU (ι:=MeJ ta tb) [(0,_),(1,_)] (λi2=>[(7,i2.v),(8,.int .i64 ((i2.i:Nat):Int))]) (λi2=>i2.ob) (λi2 F=>MeF F i2.bs) (λi2=>ta.length-i2.i) (⟨0,.slice none 0 0,[],[],ar _,.nil,rfl,rfl,rfl⟩) wm wm we (λ_ _ b h=>by cases h) λi2=>?_
 simp only[ae,af];have hi2:=i2.le;refine wA 5 I<|QA (Qg I EC)<|wD 3 I ?_
 refine QQ I (λhc2=>?_) λhc2=>?_
 ·have hlt:i2.i<ta.length:=tD<|wi hc2
  have hlt2:i2.i<tb.length:=O;have hem:=Qw hlt;have hem2:=Qw hlt2;refine wC 5 I<|JG we mixed tE<|QK (QD I)<|QK (QD I)<|QK (Q3 (n:=ra.n) (i2.i) (λF h9=>h9.1.1.a.row) rfl rfl EC X8 O)<|QK (QH I Ub J0)<|QK (JA (n:=ra.n) ((i2.i)*3+1) (λF h9=>h9.1.1.a.row) O rfl J0 (JN (f:=uI) (l:=ta) Cb O rfl))<|QK (QD I)<|QK (QD I)<|QK (Q3 (n:=rb.n) (i2.i) (λF h9=>h9.1.2.a.row) rfl rfl EC X8 O)<|QK (QH I Ub J0)<|QK (JA (n:=rb.n) ((i2.i)*3+1) (λF h9=>h9.1.2.a.row) O rfl J0 (JN (f:=uI) (l:=tb) Cb O rfl))<|QR I (λw _ f k=>Xhw (n:=n) f (k.1.1.q _ hem).1 (k.1.2.q _ hem2).1 (.of (hoa.w _ hlt)) (.of (hob.w _ hlt2)) O) λc52=>QK (QD I)<|QK (Qa I I)<|QK (Qa I I)<|QK (QF I)<|QK (QF I)<|Q7<|QC<|QG ?_
  refine JG we mixed tE<|QK (QD I)<|QK (QD I)<|QK (Q3 (n:=ra.n) (i2.i) (λF h9=>h9.1.1.1.a.row) rfl rfl EC X8 O)<|QK (QH I N6 J0)<|QK (JA (n:=ra.n) ((i2.i)*3+2) (λF h9=>h9.1.1.1.a.row) O rfl J0 (JN (f:=uI) (l:=ta) Cb O rfl))<|QK (QD I)<|QK (QD I)<|QK (Q3 (n:=rb.n) (i2.i) (λF h9=>h9.1.1.2.a.row) rfl rfl EC X8 O)<|QK (QH I N6 J0)<|QK (JA (n:=rb.n) ((i2.i)*3+2) (λF h9=>h9.1.1.2.a.row) O rfl J0 (JN (f:=uI) (l:=tb) Cb O rfl))<|QR I (λ_ _ f k=>Xhw (n:=n) f (k.1.1.1.q _ hem).2 (k.1.1.2.q _ hem2).2 (.of (hoa.l _ hlt)) (.of (hob.l _ hlt2)) O) λc66=>QK (QD I)<|QK (Qa I I)<|QK (Qa I I)<|QK (QF I)<|QK (QF I)<|Q7<|QC<|QG ?_
  refine ZZ [(0,_),(1,_),(7,_),(8,_),(9,_),(11,_)] [(74,.bool (!(Xhp ta tb i2.i)))] wz ?_ ?_
  ·refine wA 2 I<|QA (XL I)<|wW I ?_
   refine Qn (t:=71) rfl (λhb71=>?_) λhb71=>?_
   ·refine wB 4 I ?_;exact JY ⟨rfl,rfl,rfl,rfl,rfl,rfl,(congrArg (λb=>some (ab b)) (by unfold Xhp;rw[show(Xfu (lV (el ta i2.i).wl) (lV (el tb i2.i).wl))=false from by simpa using hb71];rfl)),trivial⟩ we tM
   refine wB 3 I<|QA (XL I)<|wB 2 I ?_
   exact JY ⟨rfl,rfl,rfl,rfl,rfl,rfl,(congrArg (λb=>some (ab b)) (by unfold Xhp;rw[show(Xfu (lV (el ta i2.i).wl) (lV (el tb i2.i).wl))=true from by simpa using hb71,aB])),trivial⟩ we tM
  simp only[ae,af];refine QQ I (λhc2=>?_) λhc2=>?_
  ·have hCc:=Xiu hlt (show Xhp ta tb i2.i=false by simpa using hc2);refine wA 7 I ?_
   repeat first|refine Q6 ?_|refine Qv ?_
   exact Je ((⟨none,0,0⟩,[])) I (wU I I) (by rw[hQ,Xi5 hNn hCc]<;>rfl) λF h9=>by rw[hQ,Xi5 hNn hCc];exact Xfz.nil F
  have hok:Xhp ta tb i2.i=true:=by simpa using hc2
  have hkk:(Xfu (lV (el ta i2.i).wl) (lV (el tb i2.i).wl))=true/\(Xfu (lV (el ta i2.i).ll) (lV (el tb i2.i).ll))=true:=by unfold Xhp at hok;simpa using hok
  obtain⟨hkW,hkL⟩:=hkk;refine wC 6 I<|QA (Q3 (n:=ra.n) (i2.i) (λF h9=>h9.1.1.1.1.a.row) rfl rfl EC X8 O)<|QA (QH I Ec JF)<|QA (JA (n:=ra.n) ((i2.i)*3+0) (λF h9=>h9.1.1.1.1.a.row) O rfl JF (JN (f:=uI) (l:=ta) Cb O rfl))<|wB 2 I<|QA (Q4 I RF Wt (.cons (vs:=[_]) I I I .h1 (.cons (vs:=[_]) I I I (.skip .h1) (.cons (vs:=[_]) I I I (.skip (.skip .h1)) .nil))))<|Qb I (Q5 EC) X8 Wt I I λb84=>?_
  refine Z4 (bs1:=[]) (ob:=i2.ob) (n:=i2.i) (k:=1) (sz:=3) (news:=(uI ⟨(el ta i2.i).e,c52,I4 (Xfv (lV (el ta i2.i).wl) (lV (el tb i2.i).wl)),c66,I4 (Xfv (lV (el ta i2.i).ll) (lV (el tb i2.i).ll))⟩)) I I EC X8 Wt I QCM i2.hr (Src.row (off:=0) tO (λj q hq=>by rw[aC];rw[ao];exact hq) rfl) O O (λv hv=>by simp only[uI,aI,aF,or_false]at hv;rcases hv with rfl | rfl | rfl<;>rfl) (λv85 ob85 hr85=>?_);refine wB 2 I<|Qj<|wE 3 I<|QA (Qu I I O)<|wB 2 I ?_
  exact Ql (i2.next hlt ⟨(el ta i2.i).e,c52,I4 (Xfv (lV (el ta i2.i).wl) (lV (el tb i2.i).wl)),c66,I4 (Xfv (lV (el ta i2.i).ll) (lV (el tb i2.i).ll))⟩ hr85 rfl hok) (by show ta.length-(i2.i+1)<ta.length-i2.i;omega) wv we λF ⟨⟨⟨⟨⟨ha,hb⟩,hS⟩,h52⟩,h66⟩,hs84⟩=>⟨⟨ha,hb⟩,hS.snoc ⟨by have h9:=h52;rw[hkW]at h9;exact h9.CW,by have h9:=h66;rw[hkL]at h9;exact h9.CW⟩⟩
 have hge2:i2.i=ta.length:=tD<|wj hc2
 obtain⟨hCc,hdd⟩:=i2.all hge2;refine Qx ?_
 repeat first|refine QY ?_|refine QO tH ?_
 refine QZ<|wE 3 I ?_
 have hxl:=i2.len;obtain⟨⟨rq,rn,rc⟩,hv2,hrn,hrc,hfix⟩:=Q8.fix (w0:=w) (F0:=F) (bs1:=[]) (G:=_) i2.hr;dsimp only at hrn hrc hfix;subst hrn;refine Zj hfix ?_;rw[hv2];dsimp only[Sr.v];refine wD 6 I ?_;exact Je ((⟨rq,i2.i,rc⟩,i2.bs)) I (wU I I) (by rw[hQ,Xi3 hNn hCc]<;>rfl) λF h9=>by rw[hQ,Xi3 hNn hCc];exact⟨⟨h9.2,i2.len,h9.1.2⟩,hdd⟩
def Xfz.bnd{c:Sr×List Wl}{d:List (List UInt8×List (List UInt8×List UInt8)×List (List UInt8×List UInt8))}(h:Xfz F c d)(hd:∀x∈d,x.2.1.length<=1000000/\x.2.2.length<=1000000):∀b∈c.2,b.w.n<=1000000/\b.l.n<=1000000:=λb hb=>by
 have h1:=h.a.bx b hb;have h2:=hd b.d (by rw[<-h.d];exact List.mem_map_of_mem hb);exact⟨by rw[<-h1.1.len];exact h2.1,by rw[<-h1.2.len];exact h2.2⟩
def Xfz.cnt{c:Sr×List Wl}{d:List (List UInt8×List (List UInt8×List UInt8)×List (List UInt8×List UInt8))}(h:Xfz F c d):c.1.n=d.length:=by rw[<-h.d,ah,h.a.len]
theorem Xhv{ca cb:Sr×List Wl}{d:List (List UInt8×List (List UInt8×List UInt8)×List (List UInt8×List UInt8))}(hF:Fits F w)(ha:Xfz F ca d)(hb:Xfz F cb d)(hl:d.length<=1000000)(hd:∀x∈d,x.2.1.length<=1000000/\x.2.2.length<=1000000):Qf prog 69 [ca.1.v,cb.1.v] w F (.bool true):=by
 have h:=Xio hF ha.a hb.a (by rw[ha.cnt];exact hl) (ha.bnd hd);rw[decide_eq_true (ha.d.trans hb.d.symm)]at h;exact h
def Xig(a b:List XP):(Xfv a b).length=a.length:=by unfold Xfv DJ;rw[ah,ag]
theorem Xjo(hn:n<=1000)(ho:QHw n ta):(Xhq ta tb).1.length<=1000000/\∀x∈(Xhq ta tb).1,x.2.1.length<=1000000/\x.2.2.length<=1000000:=by
 unfold Xhq;have hl:=ho.len;by_cases g:Xi6 ta tb=false
 ·rw[if_pos g];exact⟨ar _,λx h=>by cases h⟩
 rw[if_neg g];by_cases g:Xiq ta tb=false
 ·rw[if_pos g];exact⟨ar _,λx h=>by cases h⟩
 rw[if_neg g];refine⟨by show(Xja ta tb).length<=_;unfold Xja;rw[ah,ag];omega,λx hx=>?_⟩;obtain⟨i,hi,rfl⟩:=List.mem_map.1 hx;have hi:=List.mem_range.1 hi;have h1:=(XZ (ho.w i hi)).1;have h2:=(XZ (ho.l i hi)).1;refine⟨?_,?_⟩
 ·show(I4 (Xfv (lV (el ta i).wl) (lV (el tb i).wl))).length<=_;rw[vz,Xig,Yg];omega
 show(I4 (Xfv (lV (el ta i).ll) (lV (el tb i).ll))).length<=_;rw[vz,Xig,Yg];omega
theorem Xjq(hF:Fits F w)(hGl:JE F)(hy:X4 F y)(hl:vG y)(ha:IF F ra ta)(hb:IF F rb tb)(hn:ra.n<=9223372036854775807/\rb.n<=9223372036854775807)(hza:∀b∈ta,b.w.n<=9223372036854775807/\b.l.n<=9223372036854775807)(hzb:∀b∈tb,b.w.n<=9223372036854775807/\b.l.n<=9223372036854775807):Qf prog 10 [y.v,ra.v,rb.v] w F (.bool true):=by
 have hal:=ha.len;have hbl:=hb.len;have hba:∀b∈ta,b.wl.length=b.w.n/\b.ll.length=b.l.n:=λb hm=>⟨(ha.bx b hm).1.len,(ha.bx b hm).2.len⟩;have hbb:∀b∈tb,b.wl.length=b.w.n/\b.ll.length=b.l.n:=λb hm=>⟨(hb.bx b hm).1.len,(hb.bx b hm).2.len⟩;have hyo:=hy.ok;refine QU.intro (G:=λF=>JE F/\X4 F y/\IF F ra ta/\IF F rb tb) func10 rfl tH rfl rfl hF (λF' hF'=>⟨hGl.le hF',hy.le hF',ha.le hF',hb.le hF'⟩)<|wa<|Qp rfl (vs:=[_,_,_]) rfl λb3=>wZ rfl<|QG ?_
 refine ZZ [(1,_),(2,_),(3,_)] [(22,.bool ((Ff y 3||!(Xdo ta)||!(Xdo tb))))] wu ?_ ?_
 ·refine QB<|QA (wO I J6 .here)<|QI I (λ_ _ f k=>QFF (y:=y) f k.1 k.2.1 hl) λ_=>wW I ?_
  refine Qn (t:=13) rfl (λhb13=>?_) λhb13=>?_
  ·refine wB 10 I ?_;exact JY ⟨rfl,rfl,rfl,(congrArg (λb=>some (ab b)) (by rw[hb13];rfl)),trivial⟩ we tN
  refine wB 3 I<|QI I (λ_ _ f k=>Xgm f k.1.2.2.1 hn.1 hza) λ_=>QL I I<|QA (XL I)<|wB 2 I ?_
  refine Qn (t:=18) rfl (λhb18=>?_) λhb18=>?_
  ·refine wB 5 I ?_;exact JY ⟨rfl,rfl,rfl,(congrArg (λb=>some (ab b)) (by rw[hb13,hb18];rfl)),trivial⟩ we λ_ h=>h.1.1
  refine wB 3 I<|QI I (λ_ _ f k=>Xgm f k.1.1.2.2.2 hn.2 hzb) λ_=>QL I I<|QA (XL I)<|wB 2 I ?_
  exact JY ⟨rfl,rfl,rfl,(congrArg (λb=>some (ab b)) (by rw[hb13,hb18];rfl)),trivial⟩ we λ_ h=>h.1.1.1
 simp only[ae,af];refine QQ I (λhc2=>?_) λhc2=>?_
 ·refine wa<|QI I (λ_ _ f k=>CX f k.1) λ_=>wD 4 I ?_
  exact wg I I (rfl) tL
 have hnot:Ff y 3=false/\Xdo ta=true/\Xdo tb=true:=by
  simp only[aq,av]at hc2;exact⟨hc2.1.1,hc2.1.2,hc2.2⟩
 obtain⟨hg1,hsa,hsb⟩:=hnot;have ht:GJ y:=hl.ts (yQ hg1).1;have hca:QCR ra ta:=Xh2 hal hba hsa;have hcb:QCR rb tb:=Xh2 hbl hbb hsb;refine wC 4 I<|QA (wO I J6 .here)<|wB 2 I<|QI I (λw F hF ⟨hGl,hy,ha,hb⟩=>Xjs (y:=y) hF hGl hy ht ha hb hca hcb) λc28=>wD 9 I<|QA (wO I J6 .here)<|wW I<|QI I (λ_ _ f k=>Xgn (y:=y) f k.1.1 k.1.2.1 ht k.1.2.2.1 hca) λ_=>wD 3 I ?_
 refine ZZ [(1,_),(2,_),(7,_),(8,_)] [(9,.int .i64 (Qs [Xf7 y ta,Dz y.rt.n tb]))] wv ?_ ?_
 ·refine wA 6 I ?_;refine QQ I (λhc2=>?_) λhc2=>?_
  ·have h35:=hc2;refine QB<|QA (QH I VY Z6)<|QA (Qe I Z6 .here (.skip .h1))<|QA (Qg I VJ)<|wW I<|QI I (λ_ _ f k=>Xfn (n:=y.rt.n) f k.1.1.2.2.2 hcb) λ_=>wB 2 I ?_
   exact JY ⟨rfl,rfl,rfl,rfl,(congrArg (λb=>some (ak .i64 b)) (by rw[show Xf7 y ta=0 from eq_of_beq hc2,Zn,QCD])),trivial⟩ we tN
  have h35:=hc2;refine QN ?_;exact JY ⟨rfl,rfl,rfl,rfl,(congrArg (λb=>some (ak .i64 b)) (by rw[Zf (show Xf7 y ta≠0 by simpa using hc2)])),trivial⟩ we tM
 simp only[ae,af];refine wA 12 I ?_;refine QQ I (λhc2=>?_) λhc2=>?_
 ·have h42:Qs [Xf7 y ta,Dz y.rt.n tb]=0:=eq_of_beq hc2;have hfa:Xf7 y ta=0:=Q9 h42 _ (.head _);have hfb:Dz y.rt.n tb=0:=Q9 h42 (Dz y.rt.n tb) (.tail _ (.head _));have hye:y.e=0:=by
   by_cases g:y.e=0
   ·exact g
   unfold Xf7 at hfa;rw[if_pos g]at hfa;exact absurd hfa g
  have hys:=hyo hye;have hn1:=hys.n1;have hta:Dz y.nm.n ta=0:=by unfold Xf7 at hfa;rw[if_neg (by rw[hye];decide),hys.rn]at hfa;exact hfa
  rw[hys.rn]at hfb;have hoa:=gA hta;have hob:=gA hfb;have hWW:(Xi7 (Qs [y.e,(Xhr y.nm.n ta tb)]) (Xhq ta tb))=Xhx ta tb:=by
   rw[hye,Zn,QCD];unfold Xhr Xhx;rw[hta,hfb,Zn,Zn,QCD];by_cases g:((ta.length:Int) != (tb.length:Int))=true
   ·rw[if_pos g,if_pos g];rfl
   rw[if_neg g,if_neg g];rfl
  have hbd:(Xhx ta tb).1.length<=1000000/\∀x∈(Xhx ta tb).1,x.2.1.length<=1000000/\x.2.2.length<=1000000:=by
   unfold Xhx;by_cases g:((ta.length:Int) != (tb.length:Int))=true
   ·rw[if_pos g];exact⟨ar _,λx h=>by cases h⟩
   rw[if_neg g];exact Xjo O hoa
  refine wA 3 I<|QI I (λ_ _ f k=>Xjn (n:=y.nm.n) f (k.1.1.2.2.1.q hoa) (k.1.1.2.2.2.q hob) hoa hob O ⟨hca.n,hcb.n⟩) λc46=>wD 11 I ?_
  rw[hWW];refine QA (QT (v:=.bool true) rfl rfl (eqI8 _))<|wB 6 I<|QI I (λ_ _ f k=>Xhv (ca:=c28) (cb:=c46) f k.1.1.2 k.2 hbd.1 hbd.2) λ_=>wB 3 I<|QI I (λ_ _ f k=>CX f k.1.1.1.1.1) λ_=>wD 5 I ?_
  exact wg I I (rfl) tL
 have h42:Qs [Xf7 y ta,Dz y.rt.n tb]≠0:=by simpa using hc2
 have hE:Qs [y.e,(Xhr y.nm.n ta tb)]=Qs [Xf7 y ta,Dz y.rt.n tb]:=by
  by_cases g:y.e=0
  ·have hr:=(hyo g).rn;rw[g,Zn,QCD];have e:Xf7 y ta=Dz y.nm.n ta:=by unfold Xf7;rw[if_neg (by rw[g];decide),hr]
   rw[e,hr]at h42 ⊢;unfold Xhr;by_cases k:Dz y.nm.n ta=0
   ·rw[k,Zn,QCD]at h42;rw[k,Zn,Zn,Zf h42,QCD]
   rw[Zf k,Zf k]
  have e:Xf7 y ta=y.e:=by unfold Xf7;rw[if_pos g]
  rw[Zf g,e,Zf g]
 have hWW:(Xi7 (Qs [y.e,(Xhr y.nm.n ta tb)]) (Xhq ta tb))=([],Qs [Xf7 y ta,Dz y.rt.n tb]):=by rw[hE];unfold Xi7;rw[if_pos h42]
 refine wC 6 I ?_;rw[hWW];refine QA (QT (v:=.bool true) rfl rfl (eqI8 _))<|wW rfl<|QL rfl rfl<|wW rfl<|QL rfl rfl<|wW rfl<|QL rfl rfl<|QI rfl (λ_ F f k=>Xhv (ca:=c28) (cb:=(⟨none,0,0⟩,[])) f k.1.2 (Xfz.nil F) (ar _) λx h=>by cases h) λ_=>QA (Qh rfl rfl rfl)<|wW rfl<|QL rfl rfl<|QI rfl (λ_ _ f k=>CX f k.1.1.1.1) λ_=>QA (Qh rfl rfl rfl)<|wZ rfl<|QX ?_
 exact wg I I (rfl) tL
end Go.Proofs.YtjcphjpkimmmjaaGreatDoor
