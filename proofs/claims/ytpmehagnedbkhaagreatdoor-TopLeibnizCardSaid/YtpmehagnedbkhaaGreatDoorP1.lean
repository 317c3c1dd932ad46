/- Steps of the proof of the theorem in the last file. -/
import Derived.Test.YtpmehagnedbkhaaGreatDoorP0
import Derived.Laws.BitsAllLaws
import Derived.StillTailTactics
import Derived.BigRegion
import Derived.Deep.DeepCutAuto
import Derived.Deep.CutBlock
import Derived.Lib.AppendStr
import Derived.Lib.Builder
import Derived.Shelf.Strings.Builder1
import Derived.Test.YtpmehagnedbkhaaGreatDoorChecked
import Derived.Lib.Walk
import Derived.Lib.ItoaMem
import Derived.WalkKit
import Derived.BigCall
import Derived.BigGuard
import Derived.Lib.ItoaNum
import Derived.Lib.Atoi
import Derived.Lib.Repeat
import Derived.Lib.IndexMore
import Derived.Lib.IndexBytes
set_option linter.all false
set_option maxHeartbeats 4000000
open Go.Proofs.Tryz
namespace Go.Proofs.YtpmehagnedbkhaaGreatDoor
variable{l s:List UInt8}{x y:Operand}{a h z:Int}{ds es o post pre u:List Int}{B b cap d i j k m n off:Nat}{α γ:Type}{q:Option Addr}{c:UInt8}{w w':World}{F F':Gs}{P:Program}{f:Obj->List (Nat×Obj)}{args cs olds:List Value}{ty yT:TypeId}{bs' ob:List (Nat×Obj)}{G0:Gs->Prop}{fn:Func}{fr:Nat×Nat}{aft:Array Edge}
open Go.RowKit Ig
def p2(s:Nat):Int:=2^s
def Z6(s:Nat):0<p2 s:=Int.pow_pos wu
def GF{s:Nat}(h:s<64):p2 (64-s)*p2 s=W:=by
 unfold p2;rw[<-Int.pow_add,show 64-s+s=64 from by omega];rfl
def TR:p2 0=1:=rfl
def gU{s:Nat}(h:s<64):2*p2 s<=W:=by
 have h1:=GF h;have h2:2<=p2 (64-s):=by
  unfold p2;rw[show 64-s=(63-s)+1 from by omega,Int.pow_succ];have:=Z6 (63-s);unfold p2 at this;omega
 have h3:2*p2 s<=p2 (64-s)*p2 s:=Int.mul_le_mul_of_nonneg_right h2 (Int.le_of_lt (Z6 s));omega
def LI{x:Int}{s:Nat}(hs:s<64):x*p2 s%W=p2 s*(x%p2 (64-s)):=by
 rw[<-GF hs,Int.mul_comm (p2 (64-s)) (p2 s),Int.mul_comm x (p2 s),Int.mul_emod_mul_of_pos _ _ (Z6 s)]
def qk{x:Int}{s:Nat}(hs:s<64):x*p2 s/W=x/p2 (64-s):=by
 rw[<-GF hs];exact Int.mul_ediv_mul_of_pos_left x _ (Z6 s)
theorem TS{x:Int}{s:Nat}(hs:s<64)(h0:0<=h)(h1:h<p2 s):bits .or .u64 h (x*p2 s%W)=h+x*p2 s%W/\h+x*p2 s%W<W:=by
 have e:=LI (x:=x) hs;have k0:=Z6 (64-s);have b0:0<=x%p2 (64-s):=Int.emod_nonneg _ O;have b1:x%p2 (64-s)<p2 (64-s):=Int.emod_lt_of_pos _ k0;have hb:p2 s*(x%p2 (64-s))+h<W:=by
  have:p2 s*(x%p2 (64-s)+1)<=p2 s*p2 (64-s):=Int.mul_le_mul_of_nonneg_left O (Int.le_of_lt (Z6 s));rw[Int.mul_comm (p2 s) (p2 (64-s)),GF hs,Int.mul_add]at this;omega
 have hb0:0<=p2 s*(x%p2 (64-s)):=Int.mul_nonneg (Int.le_of_lt (Z6 s)) b0;rw[e];refine⟨?_,O⟩;obtain⟨a,ha⟩:=Int.eq_ofNat_of_zero_le b0;obtain⟨c,rfl⟩:=Int.eq_ofNat_of_zero_le h0;rw[ha]at *
 have e2:p2 s*(a:Int)=((2^s*a:Nat):Int):=by simp[p2]
 have h1':c<2^s:=by
  have:(c:Int)<((2^s:Nat):Int):=(by simpa[p2]using h1);omega
 rw[e2]at hb ⊢;have hW:=GN;rw[u64_or_nat _ _ O O,Nat.or_comm,<-Nat.two_pow_add_eq_or_of_lt h1'];omega
def Eh(l:List Int)(s k:Nat)(ds:List Int)(h:Int):Prop :=
 ds.length=k/\DG W ds/\(0<=h/\h<p2 s)/\dv W ds+W^k*h=dv W (l.take k)*p2 s
theorem Eh.step{l:List Int}{s:Nat}(hi:Eh l s k ds h)(hs:s<64)(hl:DG W l):
  Eh l s (k+1) (ds++[h+Qd l k*p2 s%W]) (Qd l k/p2 (64-s)):=by
 obtain⟨h1,h2,h3,h4⟩:=hi;obtain⟨_,b⟩:=TS (x:=Qd l k) hs h3.1 h3.2;have hd:=Jb hl k;have l0:0<=Qd l k*p2 s%W:=Int.emod_nonneg _ wu;have q:=Int.mul_ediv_add_emod (Qd l k*p2 s) W;have hk:0<=Qd l k/p2 (64-s)/\Qd l k/p2 (64-s)<p2 s:=by
  refine⟨Int.ediv_nonneg hd.1 (Int.le_of_lt (Z6 _)),?_⟩;refine Int.ediv_lt_of_lt_mul (Z6 _) ?_;rw[Int.mul_comm,GF hs];exact hd.2
 refine⟨by simp[h1],h2.append (DG.cons O b (DG.nil _)),hk,?_⟩;rw[XX,h1,XD,Int.pow_succ,<-qk hs];generalize Qd l k*p2 s/W=a at *
 generalize Qd l k*p2 s%W=c at *
 have e:W^k*(W*a+c)=W^k*(Qd l k*p2 s):=by rw[q]
 grind
def Eh.zero{l:List Int}(hi:Eh l 0 k ds h):h=0:=by
 have:=hi.2.2.1;rw[TR]at this;omega
def Nl(x:Int)(s:Nat):IntKind.u64.wrap (x*2^s)=x*p2 s%W:=by
 simp[IntKind.wrap,IntKind.signed,IntKind.bits,p2,GN]
def W6(ds:List α)(x y:α)(r:List α)(k:Nat)(h:ds.length=k):(ds++x::r).set k y=ds++y::r:=by
 subst h;rw[List.set_append_right _ _ (Nat.le_refl _),Nat.sub_self,List.set_cons_zero]
def qt(ds:List α)(x y z:α)(r:List α)(k:Nat)(h:ds.length=k):(ds++z::x::r).set (k+1) y=(ds++[z])++y::r:=by
 have:=W6 (ds++[z]) x y r (k+1) (by simp[h]);rw[List.append_assoc]at this;exact this
set_option maxRecDepth 100000 in
theorem S9(s:Nat)(q:Option Addr)(cap:Nat)(l:List Int)(w:World)(hs:s<64)(hl:DG W l)(hc:Cells w q Je l)(hlen:l.length<=100000000000):
  Calls prog 339 #[.slice q l.length cap,.int .i64 s] w λe w' =>
   ZN w (λv w'=>∃l':List Int,v = .slice (some ⟨w.heap.size,0,none⟩) (l.length+1) (l.length+1)/\Yd w' w.heap.size 289 Je l'/\l'.length=l.length+1/\DG W l'/\dv W l'=dv W l*p2 s) e w':=by
 have HC:=Lib.hid hc;clear hc;have hmk:=λw=>YE (l.length+1) O w;have ec:((l.length+1:Nat):Int)=(l.length:Int)+1:=O;simp only[ec]at hmk;clear ec;go_enter func339,ntmps339
 go_wp2
 go_loopw [14] (λi wr=>∃(k:Nat) (ds:List Int) (h:Int),k<=l.length/\i = .int .i64 k/\Eh l s k ds h/\Yd wr w.heap.size 289 Je (ds++h::List.replicate (l.length-k) 0)/\Ext w wr)
  (λi _=>l.length-(intOf i).toNat)
 case atStart=>exact⟨0,[],0,Nat.zero_le _,rfl,⟨rfl,DG.nil _,⟨Int.le_refl _,Z6 _⟩,wz⟩,Yd.made w _ Je 0 _ _ rfl,(Ext.refl _).alloc _⟩
 case round =>
  obtain⟨k,ds,h,hk,rfl,hI,hB,hE⟩:=hrel;clear hmk;by_cases hlt:k<l.length
  ·obtain⟨b,off,rfl,hb,hc⟩:=HC.out k hlt;rw[Zo hlt]at hc;have hc:=hE.cell hc;simp only[Je]at hc;have hst:=hI.step hs hl;obtain⟨hd1,hd2,hd3,hd4⟩:=hI;have hor:=(TS (x:=Qd l k) hs hd3.1 hd3.2).1;have HO:=Lib.hid hor;clear hor hd4;have hlen1:k<(ds++h::List.replicate (l.length-k) 0).length:=by simp[hd1]
   have hlen2:k+1<(ds++h::List.replicate (l.length-k) 0).length:=by simp[hd1];omega
   have hcell:=hB.cell hlen1;have hcell2:=hB.cell hlen2;have hg:(ds++h::List.replicate (l.length-k) 0).getD k default=h:=by subst hd1;simp[List.getD]
   rw[hg]at hcell;simp only[Je]at hcell hcell2;have hfr:=hB.frozen k;have hfr2:=hB.frozen (k+1);have hx0:(0:Int)<=(k:Int):=O;have hx1:(k:Int)<(l.length:Int)+1:=O;generalize (ds++h::List.replicate (l.length-k) 0).getD (k+1) default=z at hcell2;have HD1:=Lib.hid hd1;have HB:=Lib.hid hB;clear hg hd1 hB hlen1 hlen2;by_cases hs0:0<s
   ·go_wp2
    go_still_tail 9,wm
    go_wp2
    go_roundw
    case rel =>
     refine⟨k+1,ds++[h+Qd l k*p2 s%W],Qd l k/p2 (64-s),O,by go_num,hst,?_,((hE.Xu wz _).Xu wz _).drew⟩;rw[Nl,HO.out];have h1:=HB.out.set k (h+Qd l k*p2 s%W);rw[W6 _ _ _ _ _ HD1.out,show l.length-k=(l.length-(k+1))+1 from by omega,List.replicate_succ]at h1;have h2:=h1.set (k+1) (Qd l k/p2 (64-s));rw[qt _ _ _ _ _ _ HD1.out]at h2;exact h2.drew
    case measure=>simp[intOf];omega
   have hz:Hid (Qd l k/p2 (64-s)=0):=by
    have e:s=0:=O;subst e;exact hst.zero
   go_wp2
   go_still_tail 9,wm
   go_wp2
   go_roundw
   case rel =>
    refine⟨k+1,ds++[h+Qd l k*p2 s%W],Qd l k/p2 (64-s),O,by go_num,hst,?_,(hE.Xu wz _).drew⟩;rw[Nl,HO.out,hz.out];have h1:=HB.out.set k (h+Qd l k*p2 s%W);rw[W6 _ _ _ _ _ HD1.out,show l.length-k=(l.length-(k+1))+1 from by omega,List.replicate_succ]at h1;rw[List.append_assoc];exact h1.drew
   case measure=>simp[intOf];omega
  have hk':k=l.length:=O;subst hk';obtain⟨hd1,hd2,hd3,hd4⟩:=hI;have HF:Hid (dv W ds+W^l.length*h=dv W l*p2 s):=by rw[List.take_length]at hd4;exact hd4
  have HD1:=Lib.hid hd1;rw[Nat.sub_self,List.replicate_zero]at hB;have HB:=Lib.hid hB;have hh:h<W:=by have:=gU hs;have:=Z6 s;omega
  clear hd1 hd4 hB;go_wp2
  go_ret
  exact⟨_,rfl,⟨_,rfl,HB.out,by simp[HD1.out],hd2.append (DG.cons hd3.1 hh (DG.nil _)),by rw[XX,HD1.out,HF.out]⟩,hE⟩
theorem Et(s:Nat)(v:Value)(l:List Int)(w:World)(hs:s<64)(hl:DG W l)(hv:SL w v Je l)(hlen:l.length<=100000000000):
  Calls prog 339 #[v,.int .i64 s] w λe w' =>
   ZN w (λv w'=>∃l':List Int,v = .slice (some ⟨w.heap.size,0,none⟩) (l.length+1) (l.length+1)/\Yd w' w.heap.size 289 Je l'/\l'.length=l.length+1/\DG W l'/\dv W l'=dv W l*p2 s) e w':=by
 obtain⟨q,cap,rfl,_,_,hc⟩:=hv;exact S9 s q cap l w hs hl hc hlen
def YD(u v:List Int)(n:Nat)(q r over:Int):Prop :=
 (0<=q/\q<W)/\(0<=r/\r<W)/\(0<=over/\over<=1)/\q*Qd v (n+1)+r+W*over=Qd u (n+2)*W+Qd u (n+1)/\dv W u<(q+1)*dv W v
abbrev WU(u v:List Int)(n:Nat):Prop:=V1 W u v n
theorem V1.O4{v:List Int}(h:WU u v n)(hge:Qd v (n+1)<=Qd u (n+2)):
  YD u v n (W-1) (XI (Qd u (n+1)) (Qd v (n+1)) 0) (Xl (Qd u (n+1)) (Qd v (n+1)) 0):=by
 have e:Qd u (n+2)=Qd v (n+1):=Int.le_antisymm (V1.top Mj h) hge;obtain⟨a,b,c⟩:=GM (Jb h.hu (n+1)) (Jb h.hv (n+1)) (by decide:(0:Int)<=0/\(0:Int)<=1);refine⟨wu,b,c,?_,?_⟩
 ·rw[e];grind
 have:=h.lt;rw[show W-1+1=W from by omega];exact this
theorem V1.O5{v:List Int}(h:WU u v n)(hlt:Qd u (n+2)<Qd v (n+1)):
  YD u v n (Iq (Qd u (n+2)) (Qd u (n+1)) (Qd v (n+1))) (CE (Qd u (n+2)) (Qd u (n+1)) (Qd v (n+1))) 0:=by
 obtain⟨a1,a2,a3⟩:=Z9 Mj h.hu h.lu;obtain⟨b1,b2,b3⟩:=KX Mj h.hv h.lv;have d0:=Jb h.hu (n+2);have d1:=Jb h.hu n;have d2:=Jb h.hu (n+1);have d3:=Jb h.hv n;have d4:=Jb h.hv (n+1);have hp:=pow_pos Jm n;have hz:=h.nz;have hW:=Jm;unfold Iq CE;unfold YD;rw[a1,b1];generalize W^n=D at *
 generalize dv W (v.take n)=v' at *
 generalize dv W (u.take n)=u' at *
 generalize Qd u (n+2)=u0 at *
 generalize Qd u (n+1)=u1 at *
 generalize Qd u n=u2 at *
 generalize Qd v (n+1)=v1 at *
 generalize Qd v n=v2 at *
 have m0:0<=u0*W:=Int.mul_nonneg d0.1 O;have m1:(u0+1)*W<=v1*W:=Int.mul_le_mul_of_nonneg_right O O;have q1:=Int.mul_ediv_add_emod (u0*W+u1) v1;have q2:=Int.emod_nonneg (u0*W+u1) (by omega:v1≠0);have q3:=Int.emod_lt_of_pos (u0*W+u1) hz;have q4:0<=(u0*W+u1)/v1:=Int.ediv_nonneg O O;have q5:(u0*W+u1)/v1<W:=by
  refine Int.ediv_lt_of_lt_mul hz ?_;rw[Int.add_mul]at m1;rw[Int.mul_comm W v1];omega
 generalize (u0*W+u1)/v1=q at *
 generalize (u0*W+u1)%v1=r at *
 refine⟨⟨q4,q5⟩,⟨q2,O⟩,O,by rw[Int.mul_comm q v1];omega,?_⟩;have k1:(u0*W+u1+1)<=(q+1)*v1:=by rw[Int.add_mul,Int.mul_comm q v1];omega
 have k2:(u0*W+u1+1)*(W*D)<=(q+1)*v1*(W*D):=Int.mul_le_mul_of_nonneg_right k1 (Int.mul_nonneg O O);have k3:0<=(q+1)*(v2*D):=Int.mul_nonneg O (Int.mul_nonneg d3.1 O);have k4:0<=(q+1)*v':=Int.mul_nonneg O b2;have k5:(u2+1)*D<=W*D:=Int.mul_le_mul_of_nonneg_right O O
 grind
theorem YD.less{v:List Int}{q r:Int}(h:WU u v n)(g:YD u v n q r 0)(hb:r*W+Qd u n<q*Qd v n):
  YD u v n (q-1) (XI r (Qd v (n+1)) 0) (Xl r (Qd v (n+1)) 0):=by
 obtain⟨g1,g2,g3,g4,g5⟩:=g;obtain⟨a1,a2,a3⟩:=Z9 Mj h.hu h.lu;obtain⟨b1,b2,b3⟩:=KX Mj h.hv h.lv;obtain⟨a,b,c⟩:=GM g2 (Jb h.hv (n+1)) (by decide:(0:Int)<=0/\(0:Int)<=1);have hp:=pow_pos Jm n;have d1:=Jb h.hu n;have d3:=Jb h.hv n;have q1:1<=q:=by
  refine Int.not_lt.1 λhc=>?_;have:q=0:=O;subst this;have:0<=r*W:=Int.mul_nonneg g2.1 wu;omega
 refine⟨O,b,c,?_,?_⟩
 ·have:(q-1)*Qd v (n+1)=q*Qd v (n+1)-Qd v (n+1):=by grind
  omega
 rw[show q-1+1=q from by omega,a1,b1];refine PX b2 a3 hp O ?_;generalize Qd u (n+2)=u0 at *
 generalize Qd u (n+1)=u1 at *
 generalize Qd u n=u2 at *
 generalize Qd v (n+1)=v1 at *
 generalize Qd v n=v2 at *
 have e:q*(v1*W+v2)=(q*v1+r)*W-r*W+q*v2:=by grind
 have e2:q*v1+r=u0*W+u1:=O;rw[e,e2];omega
theorem YD.fin{v:List Int}{q r over:Int}(h:WU u v n)(g:YD u v n q r over)(hb:over=0->q*Qd v n<=r*W+Qd u n):
  (q-1)*dv W v<=dv W u/\dv W u<(q+1)*dv W v:=by
 obtain⟨g1,g2,g3,g4,g5⟩:=g;refine⟨?_,g5⟩;obtain⟨a1,a2,a3⟩:=Z9 Mj h.hu h.lu;obtain⟨b1,b2,b3⟩:=KX Mj h.hv h.lv;have hp:=pow_pos Jm n;have d1:=Jb h.hu n;have d3:=Jb h.hv n;have d4:=Jb h.hv (n+1);have hz:=h.nz;rw[a1,b1];have hR:q*Qd v n<=(r+W*over)*W+Qd u n:=by
  have:over=0\/over=1:=O;rcases this with rfl | rfl
  ·simpa using hb rfl
  have k1:q*Qd v n<=W*W:=Int.mul_le_mul O O d3.1 wu;have k2:0<=r*W:=Int.mul_nonneg g2.1 wu;have e:(r+W*1)*W=r*W+W*W:=by grind
  rw[e];omega
 refine Ag hp b3 a2 g1.1 ?_ ?_ b2
 ·generalize Qd u (n+2)=u0 at *
  generalize Qd u (n+1)=u1 at *
  generalize Qd u n=u2 at *
  generalize Qd v (n+1)=v1 at *
  generalize Qd v n=v2 at *
  rw[<-g4]
  grind
 have k1:1*W<=Qd v (n+1)*W:=Int.mul_le_mul_of_nonneg_right O wu;omega
def Dy(u v:List Int)(q:Int)(k:Nat)(ds:List Int)(b c:Int):Prop :=
 ds.length=k/\DG W ds/\(0<=b/\b<=1)/\(0<=c/\c<W)/\dv W ds-W^k*(b+c)=dv W (u.take k)-q*dv W (v.take k)
def Dy.start(u v:List Int)(q:Int):Dy u v q 0 [] 0 0:=⟨rfl,DG.nil _,wu,wu,wz⟩
theorem Dy.step{v:List Int}{q b c:Int}(h:Dy u v q k ds b c)(hu:DG W u)(hv:DG W v)(hq:0<=q/\q<W):
  Dy u v q (k+1) (ds++[ZM (Qd u k) (XI (J3 q (Qd v k)) c 0) b]) (VJ (Qd u k) (XI (J3 q (Qd v k)) c 0) b)
   (Xv q (Qd v k)+Xl (J3 q (Qd v k)) c 0):=by
 obtain⟨h1,h2,h3,h4,h5⟩:=h;obtain⟨_,m1,m2,m3,m4,_,_⟩:=Mv hq (Jb hv k) h4 (by decide:(0:Int)<=0/\(0:Int)<W);obtain⟨a1,_,_⟩:=GM m1 h4 (by decide:(0:Int)<=0/\(0:Int)<=1);obtain⟨s1,s2,s3⟩:=DJ (Jb hu k) m2 h3;have e1:J3 q (Qd v k)+W*Xv q (Qd v k)=q*Qd v k:=by unfold J3 Xv;rw[Int.add_comm];exact Int.mul_ediv_add_emod _ _
 refine⟨by simp[h1],h2.append (DG.cons s2.1 s2.2 (DG.nil _)),s3,m3,?_⟩;rw[XX,h1,XD,XD,Int.pow_succ];generalize J3 q (Qd v k)=lo at *
 generalize Xv q (Qd v k)=hi at *
 generalize Xl lo c 0=ch at *
 generalize XI lo c 0=cl at *
 generalize VJ (Qd u k) cl b=sh at *
 generalize ZM (Qd u k) cl b=sl at *
 generalize Qd u k=a at *
 generalize Qd v k=x at *
 have e2:W^k*(sl-W*sh)=W^k*(a-cl-b):=by rw[s1]
 have e3:W^k*(cl+W*ch)=W^k*(lo+c+0):=by rw[a1]
 have e4:W^k*(lo+W*hi)=W^k*(q*x):=by rw[e1]
 grind
theorem jt{v:List Int}{q b c:Int}(h:WU u v n)(m:Dy u v q (n+2) ds b c)(hq:(q-1)*dv W v<=dv W u/\dv W u<(q+1)*dv W v)
  (hb:VJ (Qd u (n+2)) c b=0) :
  DG W (ds++[ZM (Qd u (n+2)) c b])/\q=dv W u/dv W v/\dv W (ds++[ZM (Qd u (n+2)) c b])=dv W u%dv W v:=by
 obtain⟨h1,h2,h3,h4,h5⟩:=m;obtain⟨s1,s2,s3⟩:=DJ (Jb h.hu (n+2)) h4 h3;rw[List.take_of_length_le (by have:=h.lv;omega:v.length<=n+2)]at h5;have e:=XD u (n+2);rw[List.take_of_length_le (by have:=h.lu;omega:u.length<=n+2+1)]at e;have hD:DG W (ds++[ZM (Qd u (n+2)) c b]):=h2.append (DG.cons s2.1 s2.2 (DG.nil _));have h0:=Q4 Jm hD;have hvp:0<dv W v:=by
  have:=h.lt;have:=Q4 Jm h.hu;refine Int.not_le.1 λhc=>?_;have:W*dv W v<=W*0:=Int.mul_le_mul_of_nonneg_left hc wu;omega
 have hv:dv W (ds++[ZM (Qd u (n+2)) c b])=dv W u-q*dv W v:=by
  rw[XX,h1,e];rw[hb]at s1;generalize ZM (Qd u (n+2)) c b=sl at *
  have:W^(n+2)*(sl-W*0)=W^(n+2)*(Qd u (n+2)-c-b):=by rw[s1]
  grind
 rw[hv]at h0 ⊢;refine⟨hD,(ZW hvp O hq.2).symm,(Zt O hq.2).symm⟩
def kE{v:List Int}{q b c k:Int}(h:WU u v n)(m:Dy u v q (n+2) ds b c)(hq:(q-1)*dv W v<=dv W u/\dv W u<(q+1)*dv W v)
  (hb:VJ (Qd u (n+2)) c b=1) (ha:Ek ds v (n+2) es k) :
  q-1=dv W u/dv W v/\dv W es=dv W u%dv W v/\ZM (Qd u (n+2)) c b+k=W:=by
 obtain⟨h1,h2,h3,h4,h5⟩:=m;obtain⟨a1,a2,a3,a4⟩:=ha;obtain⟨s1,s2,s3⟩:=DJ (Jb h.hu (n+2)) h4 h3;rw[List.take_of_length_le (by have:=h.lv;omega:v.length<=n+2)]at h5 a4;rw[List.take_of_length_le (by omega:ds.length<=n+2)]at a4;have e:=XD u (n+2);rw[List.take_of_length_le (by have:=h.lu;omega:u.length<=n+2+1)]at e;have hvp:0<dv W v:=by
  have:=h.lt;have:=Q4 Jm h.hu;refine Int.not_le.1 λhc=>?_;have:W*dv W v<=W*0:=Int.mul_le_mul_of_nonneg_left hc wu;omega
 have d1:=YB Jm a2;have d0:=Q4 Jm a2;have dd0:=Q4 Jm h2;have dd1:=YB Jm h2;have v1:=YB Jm h.hv;rw[h.lv]at v1;rw[a1]at d1;rw[h1]at dd1;rw[hb]at s1;have hp:=pow_pos Jm (n+2);generalize ZM (Qd u (n+2)) c b=sl at *
 have key:dv W ds+W^(n+2)*(sl-W)=dv W u-q*dv W v:=by
  have s2:W^(n+2)*(sl-W)=W^(n+2)*Qd u (n+2)-W^(n+2)*(b+c):=by
   rw[<-Int.mul_sub];congr 1;omega
  rw[e,s2];omega
 have hneg:dv W u<q*dv W v:=by
  have:W^(n+2)*(sl-W)<=W^(n+2)*(-1):=Int.mul_le_mul_of_nonneg_left O O;omega
 have e1:(q-1)*dv W v=q*dv W v-dv W v:=by rw[Int.sub_mul,Int.one_mul]
 have e2:(q-1+1)*dv W v=q*dv W v:=by rw[show q-1+1=q from by omega]
 have hR:dv W u-(q-1)*dv W v=dv W es+W^(n+2)*(sl+k-W):=by
  have e3:W^(n+2)*(sl+k-W)=W^(n+2)*(sl-W)+W^(n+2)*k:=by rw[<-Int.mul_add];congr 1;omega
  omega
 have hk:sl+k=W:=by
  have r0:0<=dv W u-(q-1)*dv W v:=O;have r1:dv W u-(q-1)*dv W v<W^(n+2):=O;rw[hR]at r0 r1;rcases Int.lt_trichotomy (sl+k) W with g | g | g
  ·have:W^(n+2)*(sl+k-W)<=W^(n+2)*(-1):=Int.mul_le_mul_of_nonneg_left O O;omega
  ·exact g
  have:W^(n+2)*1<=W^(n+2)*(sl+k-W):=Int.mul_le_mul_of_nonneg_left O O;omega
 refine⟨(ZW hvp O (by rw[e2];exact hneg)).symm,?_,hk⟩;rw[Zt (q:=q-1) O (by rw[e2];exact hneg),hR,hk];simp
structure BO(B:Nat)(w w':World):Prop where
 os:w'.os=w.os
 tape:w'.tape=w.tape
 output:w'.output=w.output
 size:w.heap.size<=w'.heap.size
 block:∀k,k<w.heap.size->k≠B->w'.heap[k]?=w.heap[k]?
def BO.refl(B:Nat)(w:World):BO B w w:=⟨rfl,rfl,rfl,Nat.le_refl _,λ_ _ _=>rfl⟩
theorem BO.uA(B:Nat)(h:Ext w w'):BO B w w':=⟨h.os,h.tape,h.output,h.size,λk hk _=>h.block k hk⟩
theorem BO.trans{a b c:World}(h:BO B a b)(k:BO B b c):BO B a c :=
 ⟨k.os.trans h.os,k.tape.trans h.tape,k.output.trans h.output,Nat.le_trans h.size k.size,λi hi hn=>(k.block i (Nat.lt_of_lt_of_le hi h.size) hn).trans (h.block i hi hn)⟩
def BO.ext{a b c:World}(h:BO B a b)(k:Ext b c):BO B a c:=h.trans (BO.uA B k)
def BO.drew{a b:World}(h:BO B a b):BO B a b.drew:=⟨h.os,h.tape,h.output,h.size,h.block⟩
def BO.setCell{a b:World}(h:BO B a b)(off:Nat)(v:Value):BO B a (b.setCell ⟨B,off,none⟩ v) :=
 h.trans ⟨rfl,rfl,rfl,by simp[World.setCell],λk _ hn=>Below.heap_setCell _ _ _ _ hn⟩
theorem BO.pG{a b c:World}(h:BO B b c)(k:Ext a b)(hB:a.heap.size<=B):Ext a c :=
 ⟨h.os.trans k.os,h.tape.trans k.tape,h.output.trans k.output,Nat.le_trans k.size h.size,λi hi=>(h.block i (Nat.lt_of_lt_of_le hi k.size) O).trans (k.block i hi)⟩
def BO.cell(h:BO B w w'){p:Addr}{v:Value}(hp:p.block≠B)(hv:w.cell? p=some v):w'.cell? p=some v:=by
 rw[World.cell?_of_block (w:=w) (h.block p.block (World.block_lt_of_cell? w p hv) hp)];exact hv
theorem BO.cells[Inhabited α]{B:Nat}{w w':World}(h:BO B w w'){q:Option Addr}{enc:D9 α}{l:List α}(hq:∀a,q=some a->a.block≠B)(hc:Cells w q enc l):Cells w' q enc l:=by
 intro i hi;obtain⟨b,off,h1,h2,h3⟩:=hc i hi;exact⟨b,off,h1,(by obtain⟨c,fr,e⟩:=id h2;exact⟨c,fr,by rw[h.block b h2.lt (show b≠B from hq ⟨b,off,none⟩ h1)];exact e⟩),h.cell (p:=⟨b,off+i,none⟩) (show b≠B from hq ⟨b,off,none⟩ h1) h3⟩
def BO.Du{E:Nat}(h:BO B w w'){enc:D9 α}{l:List α}(hb:b≠B)(k:Yd w b E enc l):Yd w' b E enc l:=by
 unfold Yd;rw[h.block b k.lt hb];exact k
def IN{r:List Int}{x:Int}(hj:pre.length=j)(hk:ds.length=k):(pre++((ds++x::r)++post)).getD (j+k) default=x:=by
 subst hj hk;simp[List.getD]
def IM{r:List Int}{x:Int}(hj:pre.length=j)(hk:ds.length=k):j+k<(pre++((ds++x::r)++post)).length:=by
 subst hj hk;simp
def Mw{r:List Int}{x:Int}(hj:pre.length=j)(hk:ds.length=k)(y:Int):(pre++((ds++x::r)++post)).set (j+k) y=pre++((ds++y::r)++post):=by
 subst hj;rw[List.set_append_right _ _ O,Nat.add_sub_cancel_left,List.append_assoc,List.cons_append,W6 _ _ _ _ _ hk,List.append_assoc,List.cons_append]
theorem IU{l:List Int}(h:DG W l)(hn:NZ l)(h1:W^n<=dv W l)(h2:dv W l<W^(n+1)):l.length=n+1:=by
 have a:=YB Jm h;have hl:l≠[]:=by rintro rfl;have:=pow_pos Jm n;simp at h1;omega
 have b:=Dj Jm h hn hl;have hlen:0<l.length:=List.length_pos_iff.2 hl;rcases Nat.lt_trichotomy l.length (n+1)with g | g | g
 ·have:=YT (b:=W) wu (m:=l.length) (n:=n) O;omega
 ·exact g
 have:=YT (b:=W) wu (m:=n+1) (n:=l.length-1) O;omega
def vf(la:List Int)(y:Int)(k:Nat)(qs:List Int)(r:Int):Prop :=
 qs.length+k=la.length/\DG W qs/\(0<=r/\r<y)/\dv W (la.drop k)=y*dv W qs+r
theorem vf.step{la qs:List Int}{y r:Int}(h:vf la y (k+1) qs r)(ha:DG W la)(hy:0<y/\y<W):
  vf la y k (Iq r (Qd la k) y::qs) (CE r (Qd la k) y):=by
 obtain⟨h1,h2,h3,h4⟩:=h;have hd:=Jb ha k;have m0:0<=r*W:=Int.mul_nonneg h3.1 wu;have m1:(r+1)*W<=y*W:=Int.mul_le_mul_of_nonneg_right O wu;have q1:=Int.mul_ediv_add_emod (r*W+Qd la k) y;have q2:=Int.emod_nonneg (r*W+Qd la k) (by omega:y≠0);have q3:=Int.emod_lt_of_pos (r*W+Qd la k) hy.1;have q4:0<=(r*W+Qd la k)/y:=Int.ediv_nonneg O O;have q5:(r*W+Qd la k)/y<W:=by
  refine Int.ediv_lt_of_lt_mul hy.1 ?_;rw[Int.add_mul]at m1;rw[Int.mul_comm W y];omega
 refine⟨w6,DG.cons q4 q5 h2,⟨q2,q3⟩,?_⟩;rw[XH O,Yb,Yb,h4];unfold Iq CE;generalize (r*W+Qd la k)/y=q at *
 generalize (r*W+Qd la k)%y=t at *
 grind
def V6(U V:Int)(n k m:Nat)(o qs:List Int):Prop :=
 o.length=m+1/\DG W o/\qs.length+k=m-(n+2)+1/\DG W qs/\U=V*(W^k*dv W qs)+dv W o/\dv W o<W^k*V
def V6.start{s:Nat}{A B:Int}(ho:o.length=m+1)(hd:DG W o)(hv:dv W o=A*p2 s)(hs:s<64)(hA:A<W^m)
  (hB:W^(n+1)*9223372036854775808<=B*p2 s) (hm:n+2<=m):V6 (A*p2 s) (B*p2 s) n (m-(n+2)+1) m o []:=by
 refine⟨ho,hd,wz,DG.nil _,by simp[hv],?_⟩;rw[hv];have hp:=gU hs;have hp0:=Z6 s;have k1:A*p2 s<W^m*p2 s:=Int.mul_lt_mul_of_pos_right hA hp0;have k2:W^m*p2 s<=W^m*9223372036854775808:=Int.mul_le_mul_of_nonneg_left (wk GN) (Int.le_of_lt (pow_pos Jm m));have k3:W^(m-(n+2)+1)*(W^(n+1)*9223372036854775808)<=W^(m-(n+2)+1)*(B*p2 s):=Int.mul_le_mul_of_nonneg_left hB (Int.le_of_lt (pow_pos Jm _));have e:W^(m-(n+2)+1)*(W^(n+1)*9223372036854775808)=W^m*9223372036854775808:=by
  rw[<-Int.mul_assoc,<-Int.pow_add,show m-(n+2)+1+(n+1)=m from by omega]
 omega
theorem V6.pD{U V:Int}{qs v:List Int}(h:V6 U V n (j+1) m o qs)(hv:DG W v)(lv:v.length=n+2)(nz:0<Qd v (n+1))(hV:dv W v=V)(_hm:n+2<=m):
  ∃pre u post,o=pre++(u++post)/\pre.length=j/\WU u v n/\dv W post=0/\post.length=m-(j+n+2)/\j+n+2<=m:=by
 obtain⟨h1,h2,h3,h4,h5,h6⟩:=h;have hj:j+n+2<=m:=O;have e1:o=o.take j++((o.drop j).take (n+3)++(o.drop j).drop (n+3)):=by rw[List.take_append_drop,List.take_append_drop]
 have l1:(o.take j).length=j:=by rw[List.length_take];omega
 have l2:((o.drop j).take (n+3)).length=n+3:=by rw[List.length_take,List.length_drop];omega
 have l3:((o.drop j).drop (n+3)).length=m-(j+n+2):=by rw[List.length_drop,List.length_drop];omega
 have d1:DG W (o.take j):=h2.take j;have d2:DG W ((o.drop j).take (n+3)):=(h2.drop j).take _;have d3:DG W ((o.drop j).drop (n+3)):=(h2.drop j).drop _;have e2:dv W o=dv W (o.take j)+W^j*(dv W ((o.drop j).take (n+3))+W^(n+3)*dv W ((o.drop j).drop (n+3))):=by
  rw[Ks W o j O,Ks W (o.drop j) (n+3) (by rw[List.length_drop];omega)]
 generalize o.take j=pre at *
 generalize (o.drop j).take (n+3)=u at *
 generalize (o.drop j).drop (n+3)=post at *
 have n1:=Q4 Jm d1;have n2:=Q4 Jm d2;have n3:=Q4 Jm d3;have hp:=pow_pos Jm j;have vlt:=YB Jm hv;rw[lv,hV]at vlt;have e3:W^(j+1)*V=W^j*(W*V):=by rw[Int.pow_succ];grind
 have hU:dv W u+W^(n+3)*dv W post<W*V:=by
  refine Int.not_le.1 λhc=>?_;have:=Int.mul_le_mul_of_nonneg_left hc (Int.le_of_lt hp);omega
 have hpost:dv W post=0:=by
  refine Int.le_antisymm (Int.not_lt.1 λhc=>?_) n3;have k1:W^(n+3)*1<=W^(n+3)*dv W post:=Int.mul_le_mul_of_nonneg_left O (Int.le_of_lt (pow_pos Jm _));have k2:W*V<=W*W^(n+2):=Int.mul_le_mul_of_nonneg_left O wu;have k3:W^(n+3)=W*W^(n+2):=by rw[Int.pow_succ];grind
  omega
 refine⟨pre,u,post,e1,l1,⟨d2,hv,l2,lv,nz,?_⟩,hpost,l3,hj⟩;rw[hpost]at hU;rw[hV];simpa using hU
theorem V6.step{U V:Int}{u qs v u':List Int}(h:V6 U V n (j+1) m (pre++(u++post)) qs)(lj:pre.length=j)(lu:u.length=n+3)
  (hd':DG W u') (lu':u'.length=n+3) (hV:dv W v=V) (hVp:0<V) (hpost:dv W post=0) (hq:dv W u/dv W v<W) (hu0:0<=dv W u) (hval:dv W u'=dv W u%dv W v) :
  V6 U V n j m (pre++(u'++post)) (dv W u/dv W v::qs):=by
 obtain⟨h1,h2,h3,h4,h5,h6⟩:=h;rw[hV]at *
 have q0:0<=dv W u/V:=Int.ediv_nonneg hu0 O;have q1:=Int.mul_ediv_add_emod (dv W u) V;have r0:=Int.emod_nonneg (dv W u) (by omega:V≠0);have r1:=Int.emod_lt_of_pos (dv W u) hVp;have dpre:DG W pre:=h2.left;have dpost:DG W post:=h2.right.right;have p1:=YB Jm dpre;rw[lj]at p1;have hp:=pow_pos Jm j;rw[ZV,ZV,lj,hpost]at h5 h6;refine⟨by simp at h1 ⊢;omega,dpre.append (hd'.append dpost),w6,DG.cons q0 hq h4,?_,?_⟩
 ·rw[ZV,ZV,lj,hpost,Yb,hval,h5,Int.pow_succ];generalize dv W u/V=q at *
  generalize dv W u%V=r at *
  have e:W^j*(V*q+r)=W^j*dv W u:=by rw[q1]
  grind
 rw[ZV,ZV,lj,hpost,hval];have k1:W^j*(dv W u%V+1)<=W^j*V:=Int.mul_le_mul_of_nonneg_left O O;rw[Int.mul_add]at k1;simp only[Int.mul_zero,Int.add_zero];omega
def VH(o:List Int)(s k:Nat)(ds:List Int):Prop :=
 ds.length=k/\DG W ds/\dv W ds*p2 s+Qd o 0%p2 s=dv W (o.take k)+W^k*(Qd o k%p2 s)
def VH.start(o:List Int)(s:Nat):VH o s 0 []:=⟨rfl,DG.nil _,wz⟩
def LH{x:Int}{s:Nat}(hs:s<64)(hx:0<=x/\x<W):0<=x/p2 s/\x/p2 s<p2 (64-s):=by
 refine⟨Int.ediv_nonneg hx.1 (Int.le_of_lt (Z6 s)),Int.ediv_lt_of_lt_mul (Z6 s) ?_⟩;rw[GF hs];exact hx.2
theorem VH.step{s:Nat}(h:VH o s k ds)(ho:DG W o)(hs:s<64)(hs0:0<s):
  VH o s (k+1) (ds++[Qd o k/p2 s+Qd o (k+1)*p2 (64-s)%W]):=by
 obtain⟨h1,h2,h3⟩:=h;have hx:=Jb ho k;have b:=LH hs hx;obtain⟨_,c⟩:=TS (x:=Qd o (k+1)) (s:=64-s) O b.1 b.2;have hy:0<=Qd o (k+1)*p2 (64-s)%W:=Int.emod_nonneg _ wu;refine⟨by simp[h1],h2.append (DG.cons O c (DG.nil _)),?_⟩;rw[XX,h1,XD,Int.pow_succ];have e1:Qd o (k+1)*p2 (64-s)%W=p2 (64-s)*(Qd o (k+1)%p2 s):=by
  have:=LI (x:=Qd o (k+1)) (s:=64-s) O;rw[show 64-(64-s)=s from by omega]at this;exact this
 rw[e1];have e2:=Int.mul_ediv_add_emod (Qd o k) (p2 s);have e3:=GF hs;generalize Qd o k/p2 s=a at *
 generalize Qd o k%p2 s=b' at *
 generalize Qd o (k+1)%p2 s=c' at *
 have e4:W^k*(p2 s*a+b')=W^k*Qd o k:=by rw[e2]
 have e5:W^k*(p2 (64-s)*p2 s)*c'=W^k*W*c':=by rw[e3]
 grind
def VH.qg(h:VH o 0 k ds)(ho:DG W o):VH o 0 (k+1) (ds++[Qd o k/p2 0]):=by
 obtain⟨h1,h2,h3⟩:=h;have hx:=Jb ho k;simp only[TR,Int.emod_one,Int.ediv_one,Int.mul_one,Int.mul_zero,Int.add_zero]at *
 exact⟨by simp[h1],h2.append (DG.cons hx.1 hx.2 (DG.nil _)),by simp only[TR,Int.emod_one,Int.mul_one,Int.mul_zero,Int.add_zero];rw[XX,h1,h3,XD]⟩
theorem k6{qs:List Int}{s:Nat}{A B:Int}(h:V6 (A*p2 s) (B*p2 s) n 0 m o qs)(hs:s<64)(hB:0<B)(hBn:B*p2 s<W^(n+2))(hm:n+2<=m)
  (hr:VH o s (n+2) ds):dv W qs=A/B/\dv W ds=A%B:=by
 obtain⟨h1,h2,h3,h4,h5,h6⟩:=h;obtain⟨r1,r2,r3⟩:=hr;simp only[Int.pow_zero,Int.one_mul]at h5 h6;have hp:=Z6 s;have n0:=Q4 Jm h2;have e2:=Ks W o (n+2) O;have t0:=Q4 Jm (h2.take (n+2));have t1:=Q4 Jm (h2.drop (n+2));have z:dv W (o.drop (n+2))=0:=by
  refine Int.le_antisymm (Int.not_lt.1 λhc=>?_) t1;have k1:W^(n+2)*1<=W^(n+2)*dv W (o.drop (n+2)):=Int.mul_le_mul_of_nonneg_left O (Int.le_of_lt (pow_pos Jm _));omega
 have zd:Qd o (n+2)=0:=by
  have e3:=XH (l:=o) (k:=n+2) O;rw[e3,Yb]at z;have d0:=Jb h2 (n+2);have d1:=Q4 Jm (h2.drop (n+2+1));have d2:0<=W*dv W (o.drop (n+2+1)):=Int.mul_nonneg wu d1;omega
 rw[zd,Int.zero_emod,Int.mul_zero,Int.add_zero]at r3;rw[z,Int.mul_zero,Int.add_zero]at e2;have hmod:Qd o 0%p2 s=0:=by
  have f1:dv W o=Qd o 0+W*dv W (o.drop 1):=by
   have:=XH (l:=o) (k:=0) O;rw[List.drop_zero]at this;rw[congrArg (dv W) this,Yb]
  have f2:dv W o=p2 s*(A-B*dv W qs):=by grind
  have f3:Qd o 0=p2 s*(A-B*dv W qs-p2 (64-s)*dv W (o.drop 1)):=by
   have:=GF hs;have e:Qd o 0=p2 s*(A-B*dv W qs)-W*dv W (o.drop 1):=O;rw[e,<-this];grind
  rw[f3];exact Int.mul_emod_right _ _
 rw[hmod,Int.add_zero,<-e2]at r3;have key:A=B*dv W qs+dv W ds:=by
  have:p2 s*A=p2 s*(B*dv W qs+dv W ds):=by rw[Int.mul_comm,h5,<-r3];grind
  exact Int.eq_of_mul_eq_mul_left O this
 have hlt:dv W ds<B:=by
  refine Int.not_le.1 λhc=>?_;have:=Int.mul_le_mul_of_nonneg_right hc (Int.le_of_lt hp);omega
 have hds:=Q4 Jm r2;have g1:dv W qs*B<=A:=by rw[Int.mul_comm];omega
 have g2:A<(dv W qs+1)*B:=by rw[Int.add_mul,Int.mul_comm (dv W qs)];omega
 exact⟨(ZW hB g1 g2).symm,by rw[Zt g1 g2,Int.mul_comm (dv W qs)];omega⟩
def UB(A B:Int)(r:Value)(w':World):Prop :=
 ∃p p' lq lr,r = .tuple #[p,p']/\SL w' p Je lq/\SL w' p' Je lr/\(DG W lq/\NZ lq)/\(DG W lr/\NZ lr)/\dv W lq=A/B/\dv W lr=A%B
def G9{x y:Int}(h:y<=x):0<=Za x y:=by unfold Za;split<;>(try split)<;>omega
theorem FA(v v':Value)(la lb:List Int)(w:World)(ha:DG W la)(hb:DG W lb)(na:NZ la)(nb:NZ lb)(hs:SL w v Je la)(hs':SL w v' Je lb)(hlt:dv W la<dv W lb):
  Calls prog 321 #[v,v'] w λe w'=>ZN w (UB (dv W la) (dv W lb)) e w':=by
 have H3:=Lib.hid (WS hlt);have H0:=Lib.hid (Q4 Jm ha);have HL:=Lib.hid hlt;clear hlt;go_enter func321,ntmps321
 go_wp2_with (go_at_call 234;refine(ZZ _ _ _ _ _ ha hb na nb hs hs').mono ?_;rw[H3.out];rintro e w' ⟨rfl,hx⟩)
 go_ret2
 exact⟨_,rfl,⟨_,_,[],la,rfl,SL.nil _ _,hs.ext hx,⟨DG.nil _,by simp[NZ]⟩,⟨ha,na⟩,(Int.ediv_eq_zero_of_lt H0.out HL.out).symm,(Int.emod_eq_of_lt H0.out HL.out).symm⟩,hx⟩
def Ug(x z:α)(k:Nat)(qs:List α):(List.replicate (k+1) z++qs).set k x=List.replicate k z++x::qs:=by
 rw[List.replicate_succ',List.append_assoc,List.set_append_right _ _ wz];simp
set_option maxRecDepth 100000 in
set_option maxHeartbeats 800000 in
theorem Io(v:Value)(q':Option Addr)(cap':Nat)(la:List Int)(y:Int)(w:World)(ha:DG W la)(hy:0<y/\y<W)(na:NZ la)(hs:SL w v Je la)(hs':SL w (.slice q' 1 cap') Je [y])(hge:y<=dv W la)(h1:la.length<=100000000000):
  Calls prog 321 #[v,.slice q' 1 cap'] w λe w'=>ZN w (UB (dv W la) y) e w':=by
 have H3:0<=Za (dv W la) y:=G9 hge;have hb:DG W [y]:=DG.cons O hy.2 (DG.nil _);have nb:NZ [y]:=by simp[NZ];omega
 have HS:=Lib.hid hs;obtain⟨q,cap,rfl,hcap,hmax,hca⟩:=hs;have HA:=Lib.hid hca;have HS':=Lib.hid hs';obtain⟨q2,cap2,e2,hcap2,hmax2,hcb⟩:=hs';obtain⟨by1,oy,hq,hby,hcy⟩:=hcb 0 wz;simp only[List.length_cons,List.length_nil,Value.slice.injEq]at e2;obtain⟨rfl,_,rfl⟩:=e2;subst hq;have hcy:w.cell? ⟨by1,oy,none⟩=some (.int .u64 y):=by simpa[Je]using hcy
 have hmk:=λw=>YE la.length O w;clear hca hcb;go_enter func321,ntmps321
 go_wp2_with (go_at_call 234;refine(ZZ _ _ _ _ _ ha hb na nb HS.out HS'.out).mono ?_;rintro e w1 ⟨rfl,hx1⟩)
 go_loopw [8,7] (λi r wr=>∃(k:Nat) (qs:List Int) (rr:Int),k<=la.length/\i = .int .i64 ((k:Int)-1)/\r = .int .u64 rr/\vf la y k qs rr/\Yd wr w1.heap.size 289 Je (List.replicate k 0++qs)/\Ext w1 wr)
  (λi _ _=>(intOf i+1).toNat)
 case atStart=>exact⟨la.length,[],0,Nat.le_refl _,rfl,rfl,⟨wz,DG.nil _,⟨Int.le_refl _,hy.1⟩,wz⟩,by rw[List.append_nil];exact Yd.made w1 _ Je 0 _ _ I,(Ext.refl _).alloc _⟩
 case round =>
  obtain⟨k,qs,rr,hk,rfl,rfl,hI,hB,hE⟩:=hrel;clear hmk;cases k with
  |zero =>
   obtain⟨i1,i2,i3,i4⟩:=hI;have hW:=GN;have hdr:DG W [rr]:=DG.cons i3.1 O (DG.nil _);simp only[List.replicate_zero,List.nil_append]at hB;have hSL:=SL.G3 hB la.length O O;rw[List.take_of_length_le O,show qs.length=la.length from by omega]at hSL;have HSL:=Lib.hid hSL;have HB:=Lib.hid hB;have HF:Hid (dv W qs=dv W la/y/\rr=dv W la%y):=by
    rw[List.drop_zero]at i4;have g1:dv W qs*y<=dv W la:=by rw[Int.mul_comm];omega
    have g2:dv W la<(dv W qs+1)*y:=by rw[Int.add_mul,Int.mul_comm (dv W qs)];omega
    exact⟨(ZW hy.1 g1 g2).symm,by rw[Zt g1 g2,Int.mul_comm (dv W qs)];omega⟩
   clear hSL hB i1 i4 hW;go_wp2_with fail
   refine(Kj _ _ _ HSL.out).mono ?_;rintro e w' ⟨⟨v1,rfl,hv1⟩,rfl⟩;go_wp2_with fail
   refine(Kj _ [rr] _ ⟨_,1,rfl,Nat.le_refl _,wu,(Yd.new _ 289 Je [rr] _ I).row.cells (Yd.new _ 289 Je [rr] _ I).PZ⟩).mono ?_;rintro e w' ⟨⟨v2,rfl,hv2⟩,rfl⟩;go_wp2
   go_ret2
   refine⟨_,rfl,⟨_,_,_,_,rfl,hv1.ext ((Ext.refl _).alloc _),hv2,⟨i2.JA,Xm _⟩,⟨hdr.JA,Xm _⟩,by rw[XG];exact HF.out.1,by rw[XG];simpa using HF.out.2⟩,(hx1.trans hE).alloc _⟩
  |succ k =>
   have hlt:k<la.length:=O;have hst:=hI.step ha hy;obtain⟨i1,i2,i3,i4⟩:=hI;obtain⟨b,off,rfl,hba,hc⟩:=HA.out k hlt;rw[Zo hlt]at hc;simp only[Je]at hc;have hx2:=hx1.trans hE;have hc:=hx2.cell hc;have hcy2:=hx2.cell hcy;have hx:=Jb ha k;have hlen:k<(List.replicate (k+1) 0++qs).length:=w6;have hcell:=hB.cell hlen;have hz:(List.replicate (k+1) (0:Int)++qs).getD k default=0:=by simp[List.getD,List.getElem?_append_left]
   rw[hz]at hcell;simp only[Je]at hcell;have hfr:=hB.frozen k;have HB:=Lib.hid hB;have HST:=Lib.hid hst;have e1:((k+1:Nat):Int)-1=(k:Int):=O;have hk0:(0:Int)<=(k:Int):=O;have hk1:(k:Int)<(la.length:Int):=O;have hbne:b≠w1.heap.size:=wk<|Nat.lt_of_lt_of_le hba.lt hx1.size
   have hyne:by1≠w1.heap.size:=wk<|Nat.lt_of_lt_of_le hby.lt hx1.size
   clear hB hlen hz hst i4 i1;rw[e1];clear e1;go_wp2
   go_region_held3 (λw'=>w'.cell? ⟨b,off+k,none⟩=some (.int .u64 (Qd la k))/\w'.cell? ⟨by1,oy,none⟩=some (.int .u64 y))
    (first | exact⟨hdx.cell hc,hdx.cell hcy2⟩ | exact⟨Xk hbne (hdx.cell hc),Xk hyne (hdx.cell hcy2)⟩ | go_keep)
    (first | (go_at_call 337;refine(Sg _ _ _ _ i3 hx hy.2).mono ?_;rintro e w' ⟨rfl,hdx⟩;have hcell':=hdx.cell hcell;have hfr':=(HB.out.ext (((Ext.refl _).drewN _).trans hdx)).frozen k))
   have hBs:=(HB.out.ext (((Ext.refl _).drewN _).trans hdx)).set k (Iq rr (Qd la k) y);rw[Ug]at hBs;have HBs:=Lib.hid hBs;clear hBs;go_wp2
   go_roundw
   case rel=>exact⟨k,_,_,O,by go_num,rfl,HST.out,HBs.out,(hE.trans (((Ext.refl _).drewN _).trans hdx)).Xu (Nat.le_refl _) _⟩
   case measure=>simp[intOf]
structure WV(w:World)(u v pre post:List Int)(n j B bv ov:Nat):Prop where
 hB:Yd w B 289 Je (pre++(u++post))
 hv:Cells w (some ⟨bv,ov,none⟩) Je v
def WV.ext{v:List Int}{bv ov:Nat}(h:WV w u v pre post n j B bv ov)(k:Ext w w'):WV w' u v pre post n j B bv ov :=
 ⟨h.hB.ext k,h.hv.ext k⟩
def WV.atu{v:List Int}{bv ov:Nat}(h:WV w u v pre post n j B bv ov)(hj:pre.length=j)(i:Nat)(hi:i<u.length):
  w.cell? ⟨B,j+i,none⟩=some (.int .u64 (Qd u i)):=by
 have h1:=h.hB.cell (i:=j+i) w6;have e:(pre++(u++post)).getD (j+i) default=Qd u i:=by
  rw[ZH hi];subst hj;simp only[List.getD];rw[List.getElem?_append_right O,Nat.add_sub_cancel_left,List.getElem?_append_left hi,List.getElem?_eq_getElem hi];rfl
 rw[e]at h1;exact h1
theorem WV.atv{v:List Int}{bv ov:Nat}(h:WV w u v pre post n j B bv ov)(i:Nat)(hi:i<v.length):
  w.cell? ⟨bv,ov+i,none⟩=some (.int .u64 (Qd v i)):=by
 obtain⟨b,o,e,_,hc⟩:=h.hv i hi;cases e;rw[Zo hi]at hc;exact hc
set_option maxRecDepth 100000 in
set_option maxHeartbeats 4000000 in
theorem OP(u v pre post:List Int)(n j B capu capv bv ov:Nat)(w:World)(h:WU u v n)(hj:pre.length=j)(hmax:n<=100000000000)
  (hM:WV w u v pre post n j B bv ov) (hne:bv≠B) :
  Calls prog 340 #[.slice (some ⟨B,j,none⟩) (n+3) capu,.slice (some ⟨bv,ov,none⟩) (n+2) capv] w λe w' =>
   (e = .returned (.int .u64 (dv W u/dv W v))/\∃u',Yd w' B 289 Je (pre++(u'++post))/\u'.length=n+3/\DG W u'/\dv W u'=dv W u%dv W v)/\BO B w w':=by
 have hlu:=Lib.hid h.lu;have hlv:=Lib.hid h.lv;have HJ:=Lib.hid hj;clear hj;have hw1:IntKind.i64.wrap ((n:Int)+2-1)=(n:Int)+1:=by rw[show(n:Int)+2-1=(n:Int)+1 from by omega];exact IntWalk.i64_in _ O
 have ht1:((n:Int)+1).toNat=n+1:=O;have h01:0<=(n:Int)+1:=O;have h02:(n:Int)+1<(n:Int)+2:=O;have ht2:((n:Int)+2).toNat=n+2:=O;have h03:0<=(n:Int)+2:=O;have h04:(n:Int)+2<(n:Int)+3:=O;have h05:(n:Int)+1<(n:Int)+3:=O;have hu2:=hM.atu HJ.out (n+2) (wk hlu.out);have hu1:=hM.atu HJ.out (n+1) (wk hlu.out);have hv1:=hM.atv (n+1) (wk hlv.out);have du1:=Jb h.hu (n+1);have du2:=Jb h.hu (n+2);have dv1:=Jb h.hv (n+1);go_enter func340,ntmps340
 go_wp2_with fail
 go_quiet (fail)
 go_upto_if 30 with (fail)
 go_cut [6,7,8] λq r o wx=>∃qq rr oo,q = .int .u64 qq/\r = .int .u64 rr/\o = .int .u64 oo/\YD u v n qq rr oo/\Ext w wx
 case first =>
  by_cases hge:Qd v (n+1)<=Qd u (n+2)
  ·have HG:=Lib.hid (V1.O4 h hge);have ha:=λw=>Yr (Qd u (n+1)) (Qd v (n+1)) 0 du1.1 dv1.1 wu wu w;go_wp2
   go_quiet (fail)
   go_wp2
   go_meet
   exact⟨_,_,_,rfl,rfl,rfl,HG.out,(((Ext.refl w).drewN _).drewN _)⟩
  have HG:=Lib.hid (V1.O5 h O);have hdy:Qd v (n+1)<W:=dv1.2;have hdh:0<=Qd u (n+2)/\Qd u (n+2)<Qd v (n+1):=⟨du2.1,O⟩;go_wp2
  go_region_held3 (λw'=>w'.cell? ⟨B,j+(n+2),none⟩=some (.int .u64 (Qd u (n+2)))/\w'.cell? ⟨B,j+(n+1),none⟩=some (.int .u64 (Qd u (n+1)))/\w'.cell? ⟨bv,ov+(n+1),none⟩=some (.int .u64 (Qd v (n+1))))
   (first | go_keep | exact⟨hx.cell hu2,hx.cell hu1,hx.cell hv1⟩)
   (first | (go_at_call 337;refine(Sg _ _ _ _ hdh du1 hdy).mono ?_;rintro e w' ⟨rfl,hx⟩))
  go_wp2
  go_meet
  exact⟨_,_,_,rfl,rfl,rfl,HG.out,((Ext.refl w).drewN _).trans hx⟩
 case rest =>
  obtain⟨q1,r1,o1,rfl,rfl,rfl,hG,hE⟩:=hcut;have HM0:=Lib.hid hM;clear hu2 hu1 hv1 du1 du2 hM;go_upto_block 0 with (fail)
  go_cut [6] λq wx=>∃qq,q = .int .u64 qq/\(0<=qq/\qq<W)/\((qq-1)*dv W v<=dv W u/\dv W u<(qq+1)*dv W v)/\Ext w wx
  case first =>
   have hw2:IntKind.i64.wrap ((n:Int)+2-2)=(n:Int):=by rw[show(n:Int)+2-2=(n:Int)from by omega];exact IntWalk.i64_in _ O
   have hn0:(0:Int)<=(n:Int):=O;go_wp2_with fail
   go_loopw [6,7,8] (λq r o wr=>∃qq rr oo,q = .int .u64 qq/\r = .int .u64 rr/\o = .int .u64 oo/\YD u v n qq rr oo/\Ext w wr) λ_ r o _=>(2*W-(intOf r+W*intOf o)).toNat
   case atStart=>exact⟨_,_,_,rfl,rfl,rfl,hG,hE⟩
   case round =>
    clear hG hE;obtain⟨qq,rr,oo,rfl,rfl,rfl,hG,hE⟩:=hrel;obtain⟨g1,g2,g3,g4,g5⟩:=id hG;have HG:=Lib.hid hG;clear hG g4 g5;by_cases ho:oo=0
    ·subst ho;have hM:=HM0.out.ext hE;have hv0:=hM.atv n (wk hlv.out);have hv1:=hM.atv (n+1) (wk hlv.out);have hu0:=hM.atu HJ.out n (wk hlu.out);have dv0:=Jb h.hv n;have du0:=Jb h.hu n;have e1:J3 qq (Qd v n)+W*Xv qq (Qd v n)=qq*Qd v n:=by unfold J3 Xv;rw[Int.add_comm];exact Int.mul_ediv_add_emod _ _
     have l0:0<=J3 qq (Qd v n)/\J3 qq (Qd v n)<W:=⟨Int.emod_nonneg _ wu,Int.emod_lt_of_pos _ Jm⟩;have HY:Hid (qq*Qd v n<=rr*W+Qd u n->(qq-1)*dv W v<=dv W u/\dv W u<(qq+1)*dv W v):=λhy=>HG.out.fin h (λ_=>hy);have HN:Hid (rr*W+Qd u n<qq*Qd v n->YD u v n (qq-1) (XI rr (Qd v (n+1)) 0) (Xl rr (Qd v (n+1)) 0)):=λhy=>HG.out.less h hy;have hq1:Hid (rr*W+Qd u n<qq*Qd v n->1<=qq):=λhy=>by
      have:=(HN.out hy).1;omega
     have hnz:=h.nz;have hq2:qq<=18446744073709551615:=by have:=g1.2;simp only[GN]at this;omega
     have hme:Hid (2*W-(XI rr (Qd v (n+1)) 0+W*Xl rr (Qd v (n+1)) 0)<2*W-(rr+W*0)):=by
      have:=(GM g2 dv1 (by decide:(0:Int)<=0/\(0:Int)<=1)).1;show _<_;omega
     have hme2:Hid (0<2*W-(rr+W*0)):=by show _<_;omega
     have ha:=λw=>Yr rr (Qd v (n+1)) 0 g2.1 dv1.1 wu wu w;generalize hmy:Xv qq (Qd v n)=mh at *
     generalize hml:J3 qq (Qd v n)=ml at *
     have HMH:=Lib.hid hmy;have HML:=Lib.hid hml;have E1:Hid (qq*Qd v n=ml+W*mh):=e1.symm;clear hmy hml e1;have cmpY:Hid (mh<rr->qq*Qd v n<=rr*W+Qd u n):=λhh=>by
      have:W*(mh+1)<=W*rr:=Int.mul_le_mul_of_nonneg_left O wu;rw[E1.out];grind
     have cmpY2:Hid (mh=rr->ml<=Qd u n->qq*Qd v n<=rr*W+Qd u n):=λhh hl=>by
      rw[E1.out,hh];grind
     have cmpN:Hid (rr<mh->rr*W+Qd u n<qq*Qd v n):=λhh=>by
      have:W*(rr+1)<=W*mh:=Int.mul_le_mul_of_nonneg_left O wu;rw[E1.out];grind
     have cmpN2:Hid (mh=rr->Qd u n<ml->rr*W+Qd u n<qq*Qd v n):=λhh hl=>by
      rw[E1.out,hh];grind
     rcases Int.lt_trichotomy mh rr with g | g | g
     ·have HF:=Lib.hid (HY.out (cmpY.out g));go_wp2_with (go_at_call 238;refine(Yt _ _ _ g1 dv0).mono ?_;rw[HMH.out,HML.out];rintro e w' ⟨rfl,rfl⟩)
      go_meet
      exact⟨_,rfl,HG.out.1,HF.out,hE⟩
     ·have gb:(mh==rr)=true:=by simpa using g
      have gl:rr<=mh:=O;have G:=Lib.hid g;clear g;by_cases hl:ml<=Qd u n
      ·have HF:=Lib.hid (HY.out (cmpY2.out G.out hl));go_wp2_with (go_at_call 238;refine(Yt _ _ _ g1 dv0).mono ?_;rw[HMH.out,HML.out];rintro e w' ⟨rfl,rfl⟩)
       go_meet
       exact⟨_,rfl,HG.out.1,HF.out,hE⟩
      have hl':Qd u n<ml:=O;have HF:=Lib.hid (HN.out (cmpN2.out G.out hl'));have hq1:=hq1.out (cmpN2.out G.out hl');clear hl;go_wp2_with (go_at_call 238;refine(Yt _ _ _ g1 dv0).mono ?_;rw[HMH.out,HML.out];rintro e w' ⟨rfl,rfl⟩)
      go_roundw
      case rel=>exact⟨_,_,_,rfl,rfl,rfl,HF.out,hE⟩
      case measure=>have:=hme.out;have:=hme2.out;simp only[intOf];omega
     have HF:=Lib.hid (HN.out (cmpN.out g));have hq1:=hq1.out (cmpN.out g);have gb:(mh==rr)=false:=w6;go_wp2_with (go_at_call 238;refine(Yt _ _ _ g1 dv0).mono ?_;rw[HMH.out,HML.out];rintro e w' ⟨rfl,rfl⟩)
     go_roundw
     case rel=>exact⟨_,_,_,rfl,rfl,rfl,HF.out,hE⟩
     case measure=>have:=hme.out;have:=hme2.out;simp only[intOf];omega
    have ho1:(oo==0)=false:=by simpa using ho
    have HF:=Lib.hid (HG.out.fin h λe=>absurd e ho);go_wp2
    go_meet
    exact⟨_,rfl,HG.out.1,HF.out,hE⟩
  case rest =>
   clear hG hE;obtain⟨qq,rfl,hq,hF,hE⟩:=hcut;have HF:=Lib.hid hF;have HB0:=Lib.hid (HM0.out.ext hE).hB;have HU0:Hid (BO B w _):=(BO.refl B w).ext hE;clear hF hE dv1 h05 h02 h04;go_wp2
   go_loopw [105,11,12] (λi b c wr=>∃(k:Nat) (ds:List Int) (bb cc:Int),k<=n+2/\i = .int .i64 k/\b = .int .u64 bb/\c = .int .u64 cc/\Dy u v qq k ds bb cc/\Yd wr B 289 Je (pre++((ds++u.drop k)++post))/\BO B w wr)
    (λi _ _ _=>n+2-(intOf i).toNat)
   case atStart=>exact⟨0,[],0,0,O,rfl,rfl,rfl,Dy.start u v qq,HB0.out,HU0.out⟩
   case round =>
    clear HB0 HU0;obtain⟨k,ds,bb,cc,hk,rfl,rfl,rfl,hI,hB,hU⟩:=hrel;by_cases hlt:k<n+2
    ·have hst:=hI.step h.hu h.hv hq;obtain⟨hd1,hd2,hd3,hd4,hd5⟩:=hI;have HD1:=Lib.hid hd1;have hvk:=hU.cell (p:=⟨bv,ov+k,none⟩) hne (HM0.out.atv k (wk hlv.out));rw[XH (wk hlu.out)]at hB;have hcell:=hB.cell (IM HJ.out HD1.out);rw[IN HJ.out HD1.out]at hcell;simp only[Je]at hcell;have hfr:=hB.frozen (j+k);have hBs:=hB.set (j+k) (ZM (Qd u k) (XI (J3 qq (Qd v k)) cc 0) bb);rw[Mw HJ.out HD1.out,List.append_cons ds]at hBs;have HBs:=Lib.hid hBs;have HS:=Lib.hid hst;have hy:=Jb h.hv k;have hx:=Jb h.hu k;obtain⟨_,g2,g3,g4,g5,_,_⟩:=Mv hq hy hd4 (by decide:(0:Int)<=0/\(0:Int)<W);clear hd1 hd5 hB hBs hst;generalize hmy:Xv qq (Qd v k)=mh at *
     generalize hml:J3 qq (Qd v k)=ml at *
     have HMH:=Lib.hid hmy;have HML:=Lib.hid hml;clear hmy hml;have ha1:=λw=>Yr ml cc 0 g2.1 hd4.1 wu wu w;have ha2:=λw=>Hk (Qd u k) (XI ml cc 0) bb hx g3 hd3 w;have b1:0<=mh+Xl ml cc 0:=g4.1;have b2:mh+Xl ml cc 0<=18446744073709551615:=by have:=g4.2;simp only[GN]at this;omega
     go_wp2_with (go_at_call 238;refine(Yt _ _ _ hq hy).mono ?_;rw[HMH.out,HML.out];rintro e w' ⟨rfl,rfl⟩)
     go_roundw
     case rel=>exact⟨k+1,_,_,_,O,by go_num,rfl,rfl,HS.out,HBs.out,hU.setCell _ _⟩
     case measure=>simp[intOf];omega
    have hk':k=n+2:=O;subst hk';have HI:=Lib.hid hI;obtain⟨hd1,hd2,hd3,hd4,hd5⟩:=hI;have HD1:=Lib.hid hd1;rw[XH (wk hlu.out)]at hB;have hcell:=hB.cell (IM HJ.out HD1.out);rw[IN HJ.out HD1.out]at hcell;simp only[Je]at hcell;have hfr:=hB.frozen (j+(n+2));have hBs:=hB.set (j+(n+2)) (ZM (Qd u (n+2)) cc bb);rw[Mw HJ.out HD1.out,List.drop_eq_nil_of_le (wk hlu.out)]at hBs;have HBs:=Lib.hid hBs;have hx:=Jb h.hu (n+2);have hs:=(DJ hx hd4 hd3).2;have ha2:=λw=>Hk (Qd u (n+2)) cc bb hx hd4 hd3 w;clear hd1 hd5 hB hBs;have hs3:=hs.2;have hs2:=hs.1;clear hs;by_cases hb0:VJ (Qd u (n+2)) cc bb=0
    ·have hR:=jt h HI.out HF.out hb0;have HR:=Lib.hid hR;have hbb:(VJ (Qd u (n+2)) cc bb==0)=true:=by simpa using hb0
     clear hR hb0;go_wp2
     go_ret
     exact⟨⟨congrArg (λx=>Ending.returned (.int .u64 x)) HR.out.2.1,_,HBs.out,by simp[HD1.out],HR.out.1,HR.out.2.2⟩,hU.setCell _ _⟩
    have hb1:VJ (Qd u (n+2)) cc bb=1:=O;have hbb:(VJ (Qd u (n+2)) cc bb==0)=false:=by simpa using hb0
    have HB1:=Lib.hid hb1;clear hb0 hb1;have HU1:Hid (BO B w _):=hU.setCell (j+(n+2)) (Je (ZM (Qd u (n+2)) cc bb));have hdL:DG W (ds++[ZM (Qd u (n+2)) cc bb]):=hd2.append (DG.cons hs2.1 hs2.2 (DG.nil _));go_wp2
    go_loopw [157,17] (λi c wr=>∃(k:Nat) (es:List Int) (c2:Int),k<=n+2/\i = .int .i64 k/\c = .int .u64 c2/\Ek ds v k es c2/\Yd wr B 289 Je (pre++((es++(ds++[ZM (Qd u (n+2)) cc bb]).drop k)++post))/\BO B w wr)
     (λi _ _=>n+2-(intOf i).toNat)
    case atStart=>exact⟨0,[],0,O,rfl,rfl,⟨rfl,DG.nil _,wu,wz⟩,HBs.out,HU1.out⟩
    case round =>
     clear HU1 HBs hcell hfr hU ha2;obtain⟨k,es,c2,hk,rfl,rfl,hA,hB,hU⟩:=hrel;have HA:=Lib.hid hA;obtain⟨he1,he2,he3,he4⟩:=hA;have HE1:=Lib.hid he1;clear he1 he4;have hll:(ds++[ZM (Qd u (n+2)) cc bb]).length=n+3:=by simp[HD1.out]
     rw[XH O]at hB;have HLL:=Lib.hid hll;clear hll;have hcell:=hB.cell (IM HJ.out HE1.out);rw[IN HJ.out HE1.out]at hcell;simp only[Je]at hcell;have hfr:=hB.frozen (j+k);by_cases hlt:k<n+2
     ·have hvk:=hU.cell (p:=⟨bv,ov+k,none⟩) hne (HM0.out.atv k (wk hlv.out));have hek:Hid (Qd (ds++[ZM (Qd u (n+2)) cc bb]) k=Qd ds k):=by
       have h1:k<ds.length:=wk HD1.out;show _=_;rw[ZH (wk HLL.out),ZH h1,List.getElem_append_left h1]
      rw[hek.out]at hcell hB;have hBs:=hB.set (j+k) (XI (Qd ds k) (Qd v k) c2);rw[Mw HJ.out HE1.out,List.append_cons es]at hBs;have HBs:=Lib.hid hBs;have HS:=Lib.hid (HA.out.step hd2 h.hv);have hx:=Jb hd2 k;have hy:=Jb h.hv k;have ha1:=λw=>Yr (Qd ds k) (Qd v k) c2 hx.1 hy.1 he3.1 he3.2 w;have hk0:(0:Int)<=(k:Int):=O;have hk1:(k:Int)<(n:Int)+2:=O;have hk2:(k:Int)<(n:Int)+3:=O;clear hBs hB;go_wp2
      go_region
      go_wp2
      go_roundw
      case rel=>exact⟨k+1,_,_,O,by go_num,rfl,HS.out,HBs.out.drew,(hU.setCell _ _).drew⟩
      case measure=>simp[intOf];omega
     have hk':k=n+2:=O;subst hk';have hR:=kE h HI.out HF.out HB1.out HA.out;have HR:=Lib.hid hR;clear hR;have hek:Hid (Qd (ds++[ZM (Qd u (n+2)) cc bb]) (n+2)=ZM (Qd u (n+2)) cc bb):=by
      show _=_;rw[ZH (wk HLL.out)];simp[HD1.out]
     rw[hek.out,List.drop_eq_nil_of_le (wk HLL.out)]at hB;rw[hek.out]at hcell;have hBs:=hB.set (j+(n+2)) 0;rw[Mw HJ.out HE1.out]at hBs;have HBs:=Lib.hid hBs;have hq1:1<=qq:=by
      have h0:=Q4 Jm h.hu;have h1:=Q4 Jm h.hv;have:=Int.ediv_nonneg h0 h1;rw[<-HR.out.1]at this;omega
     have hq2:qq<=18446744073709551615:=by have:=hq.2;simp only[GN]at this;omega
     have hwr:IntKind.u64.wrap (ZM (Qd u (n+2)) cc bb+c2)=0:=by
      rw[HR.out.2.2];decide
     clear hB hBs;go_wp2
     go_ret
     exact⟨⟨congrArg (λx=>Ending.returned (.int .u64 x)) HR.out.1,_,HBs.out,by simp[HE1.out],he2.append (DG.cons (Int.le_refl _) Jm (DG.nil _)),by rw[XX,HR.out.2.1];simp⟩,hU.setCell _ _⟩
theorem Cells.EH{l:List Int}{o:Nat}{v:Value}(h:Cells w q Je l)(hb:∀a,q=some a->a.block≠b):Cells (w.setCell ⟨b,o,none⟩ v) q Je l:=by
 intro i hi;obtain⟨b',off,h1,h2,h3⟩:=h i hi;exact⟨b',off,h1,h2.set _ _ _,Xk (hb _ h1) h3⟩
theorem Cells.old{l:List Int}(h:Cells w q Je l)(hl:l≠[])(b:Nat)(hb:w.heap.size<=b):∀a,q=some a->a.block≠b:=by
 intro a ha;obtain⟨b',off,h1,h2,_⟩:=h 0 (List.length_pos_iff.2 hl);rw[h1]at ha;cases ha;show b'≠b;have:=h2.lt;omega
def Yd.EH{E b' o:Nat}{enc:D9 α}{l:List α}{v:Value}(h:Yd w b E enc l)(hb:b≠b'):Yd (w.setCell ⟨b',o,none⟩ v) b E enc l:=by
 unfold Yd;rw[Below.heap_setCell _ _ _ _ hb];exact h
theorem IK{lb:List Int}{s:Nat}(hb:DG W lb)(hl:lb.length=n+2)(hs:s<64)(h1:Qd lb (n+1)*p2 s<W)(h2:9223372036854775808<=Qd lb (n+1)*p2 s):
  W^(n+1)*9223372036854775808<=dv W lb*p2 s/\dv W lb*p2 s<W^(n+2):=by
 have e:=XD lb (n+1);rw[List.take_of_length_le (by omega:lb.length<=n+1+1)]at e;have t0:=Q4 Jm (hb.take (n+1));have t1:=YB Jm (hb.take (n+1));rw[List.length_take,Nat.min_eq_left O]at t1;have hp:=pow_pos Jm (n+1);have hp0:=Z6 s;have top:(Qd lb (n+1)+1)*p2 s<=W:=by
  have e3:=GF hs;have:Qd lb (n+1)<p2 (64-s):=by
   refine Int.not_le.1 λhc=>?_;have:=Int.mul_le_mul_of_nonneg_right hc (Int.le_of_lt hp0);omega
  have:=Int.mul_le_mul_of_nonneg_right (show Qd lb (n+1)+1<=p2 (64-s) by omega) (Int.le_of_lt hp0);omega
 constructor
 ·have k1:W^(n+1)*9223372036854775808<=W^(n+1)*(Qd lb (n+1)*p2 s):=Int.mul_le_mul_of_nonneg_left h2 (Int.le_of_lt hp);have k2:0<=dv W (lb.take (n+1))*p2 s:=Int.mul_nonneg t0 (Int.le_of_lt hp0);have e2:dv W lb*p2 s=dv W (lb.take (n+1))*p2 s+W^(n+1)*(Qd lb (n+1)*p2 s):=by rw[e];grind
  omega
 have k1:(dv W (lb.take (n+1))+1)*p2 s<=W^(n+1)*p2 s:=Int.mul_le_mul_of_nonneg_right O (Int.le_of_lt hp0);have k2:W^(n+1)*((Qd lb (n+1)+1)*p2 s)<=W^(n+1)*W:=Int.mul_le_mul_of_nonneg_left top (Int.le_of_lt hp);have e2:dv W lb*p2 s=dv W (lb.take (n+1))*p2 s+W^(n+1)*(Qd lb (n+1)*p2 s):=by rw[e];grind
 rw[Int.pow_succ W (n+1)];have e3:W^(n+1)*((Qd lb (n+1)+1)*p2 s)=W^(n+1)*(Qd lb (n+1)*p2 s)+W^(n+1)*p2 s:=by grind
 rw[Int.add_mul]at k1;omega
set_option maxRecDepth 100000 in
set_option maxHeartbeats 2000000 in
theorem Az(v v':Value)(la lb:List Int)(n:Nat)(w:World)(ha:DG W la)(hb:DG W lb)(na:NZ la)(nb:NZ lb)(hs:SL w v Je la)(hs':SL w v' Je lb)(hge:dv W lb<=dv W la)
  (hn:lb.length=n+2) (h1:la.length<=10000000000) (h2:lb.length<=10000000000) :
  Calls prog 321 #[v,v'] w λe w'=>ZN w (UB (dv W la) (dv W lb)) e w':=by
 have H3:0<=Za (dv W la) (dv W lb):=G9 hge;have hm:n+2<=la.length:=by
  refine Nat.not_lt.1 λhc=>?_;have:=Xi Mj ha hb nb O;omega
 have HS:=Lib.hid hs;obtain⟨q,cap,rfl,hcap,hmax,hca⟩:=hs;have HA:=Lib.hid hca;have HS':=Lib.hid hs';obtain⟨q2,cap2,rfl,hcap2,hmax2,hcb⟩:=hs';have HB:=Lib.hid hcb;obtain⟨bb,ob,rfl,hbb,hcy⟩:=hcb (n+1) O;rw[Zo O]at hcy;simp only[Je]at hcy;clear hca hcb;have hL:=Lib.hid hn;rw[hn]at HS' hcap2 ⊢;have hyp:0<Qd lb (n+1)/\Qd lb (n+1)<W:=by
  have:=Jb hb (n+1);have hz:Qd lb (n+1)≠0:=by
   intro e;apply nb;rw[List.getLast?_eq_getElem?,hn];rw[ZH O]at e;simp[hn,e]
  omega
 clear hn;have hb1:((n:Int)+2==1)=false:=w6;have e57:(n:Int)+2-1=(n:Int)+1:=O;go_enter func321,ntmps321
 go_wp2_with (first | (go_at_call 234;refine(ZZ _ _ _ _ _ ha hb na nb HS.out HS'.out).mono ?_;rintro e w1 ⟨rfl,hx1⟩;have hcy:=hx1.cell hcy) | (go_at_call 338;fail))
 go_wp2_with fail
 refine(j0 _ _ hyp).mono ?_;rintro e w' ⟨⟨s,rfl,hs,hs1,hs2⟩,rfl⟩;have hbv:=IK hb hL.out hs hs1 hs2;have HBV:=Lib.hid hbv;clear hs1 hs2 hcy hbv;go_wp2_with fail
 refine(Et s _ lb _ hs hb (HS'.out.ext hx1) O).mono ?_;rintro e w2 ⟨_,rfl,⟨l1,rfl,hB1,hl1,hd1,hv1⟩,hx2⟩;rw[hL.out]at hl1;have hSL1:=SL.G3 hB1 (n+3) O O;rw[List.take_of_length_le O,hl1]at hSL1;have HSL1:=Lib.hid hSL1;rw[hL.out];clear hSL1 hB1 hl1;go_wp2_with fail
 refine(Kj _ _ _ HSL1.out).mono ?_;rintro e w' ⟨⟨_,rfl,qv,capv,rfl,hcv1,hcv2,hcv⟩,rfl⟩;have hlv:(JA l1).length=n+2:=IU hd1.JA (Xm _) (by rw[XG,hv1];have:=HBV.out.1;have:=Int.mul_le_mul_of_nonneg_left (show(1:Int)<=9223372036854775808 by decide) (Int.le_of_lt (pow_pos Jm (n+1)));omega) (by rw[XG,hv1];exact HBV.out.2);have hdv:DG W (JA l1):=hd1.JA;have hnv:NZ (JA l1):=Xm _;have HVV:Hid (dv W (JA l1)=dv W lb*p2 s):=by show _=_;rw[XG,hv1]
 generalize JA l1=lv at *
 rw[hlv]at hcv1 ⊢;have HLV:=Lib.hid hlv;have HCV:=Lib.hid hcv;clear hv1 hd1 hcv hlv;go_wp2_with fail
 refine(Et s _ la _ hs ha ((HS.out.ext hx1).ext hx2) O).mono ?_;rintro e w3 ⟨_,rfl,⟨o0,rfl,hB3,hl3,hd3,hv3⟩,hx3⟩;have hmk:=λw=>YE (la.length-(n+2)+1) O w;have ec:((la.length-(n+2)+1:Nat):Int)=(la.length:Int)-((n:Int)+2)+1:=O;simp only[ec]at hmk;clear ec;have hvne:lv≠[]:=by intro e;have:=HLV.out;rw[e]at this;simp at this
 have hne1:=HCV.out.old hvne w2.heap.size (Nat.le_refl _);have hne2:=HCV.out.old hvne w3.heap.size hx3.size;have HSTART:Hid (V6 (dv W la*p2 s) (dv W lb*p2 s) n (la.length-(n+2)+1) la.length o0 []) :=
  V6.start hl3 hd3 hv3 hs (YB Jm ha) HBV.out.1 hm
 have HB3:=Lib.hid hB3;have HX2:Hid (Ext w w2):=hx1.trans hx2;have HXB:=Lib.hid hx3;have hsz:w2.heap.size<w3.heap.size:=hB3.lt;have HN1:=Lib.hid hne1;have HN2:=Lib.hid hne2;clear hB3 hl3 hd3 hv3 hx1 hx2 hx3 hge H3 hne1 hne2;go_wp2
 go_loopw [14] (λi wr=>∃(k:Nat) (o qs:List Int),k<=la.length-(n+2)+1/\i = .int .i64 ((k:Int)-1)/\V6 (dv W la*p2 s) (dv W lb*p2 s) n k la.length o qs /\
   Yd wr w2.heap.size 289 Je o/\Yd wr w3.heap.size 289 Je (List.replicate k 0++qs)/\Cells wr qv Je lv/\Ext w2 wr)
  (λi _=>(intOf i+1).toNat)
 case atStart=>exact⟨la.length-(n+2)+1,o0,[],Nat.le_refl _,by go_num,HSTART.out,HB3.out.ext ((Ext.refl _).alloc _),by rw[List.append_nil];exact Yd.made w3 _ Je 0 _ _ I,(HCV.out.ext HXB.out).ext ((Ext.refl _).alloc _),HXB.out.alloc _⟩
 case round =>
  clear HSTART hmk HB3 HCV HXB;obtain⟨k,o,qs,hk,rfl,hI,hBU,hBQ,hCV,hE⟩:=hrel;cases k with
  |zero =>
   have HI:=Lib.hid hI;obtain⟨i1,i2,i3,i4,i5,i6⟩:=hI;have HI1:=Lib.hid i1;have HI3:=Lib.hid i3;have HBU:=Lib.hid hBU;have HBQ:Hid (Yd _ w3.heap.size 289 Je qs):=hBQ;clear i1 i3 i5 i6 hBU hBQ hCV;rw[show((0:Nat):Int)-1 = -1 from rfl];go_wp2
   go_loopw [97] (λi wx=>∃(k:Nat) (ds:List Int),k<=n+2/\i = .int .i64 k/\VH o s k ds/\Yd wx w2.heap.size 289 Je (ds++o.drop k)/\Yd wx w3.heap.size 289 Je qs/\Ext w2 wx)
    (λi _=>n+2-(intOf i).toNat)
   case atStart=>exact⟨0,[],O,rfl,VH.start o s,HBU.out,HBQ.out,hE⟩
   case round =>
    clear HBU HBQ hE;obtain⟨k,ds,hk,rfl,hS,hBU,hBQ,hE⟩:=hrel;have HBQ:=Lib.hid hBQ;by_cases hlt:k<n+2
    ·have HS:=Lib.hid hS;obtain⟨hd1,hd2,hd3⟩:=hS;have HD1:=Lib.hid hd1;have hkl:k+1<o.length:=wk HI1.out;rw[XH O,XH hkl]at hBU;have hx:=Jb i2 k;have hx1:=Jb i2 (k+1);have hcell:=hBU.cell (i:=k) w6;have hcell1:=hBU.cell (i:=k+1) w6;have g0:(ds++Qd o k::Qd o (k+1)::List.drop (k+1+1) o).getD k default=Qd o k:=by rw[<-HD1.out];simp[List.getD]
     have g1:(ds++Qd o k::Qd o (k+1)::List.drop (k+1+1) o).getD (k+1) default=Qd o (k+1):=by rw[<-HD1.out];simp[List.getD]
     rw[g0]at hcell;rw[g1]at hcell1;simp only[Je]at hcell hcell1;have hfr:=hBU.frozen k;have HBU:=Lib.hid hBU;clear hd1 hd3 hBU hBQ g0 g1;have hk0:(0:Int)<=(k:Int):=O;have hk1:(k:Int)<(la.length:Int)+1:=O;have hk2:(k:Int)+1<(la.length:Int)+1:=O;have hk3:(0:Int)<=(k:Int)+1:=O;have hk4:IntKind.i64.wrap ((k:Int)+1)=(k:Int)+1:=IntWalk.i64_in _ O;have hk5:((k:Int)+1).toNat=k+1:=O;have hk6:IntKind.i64.wrap (64-(s:Int))=64-(s:Int):=IntWalk.i64_in _ O;have hk7:(64-(s:Int)).toNat=64-s:=O;have hk8:¬(64-(s:Int)<0):=O;by_cases hs0:0<s
     ·have hs1:(0:Int)<(s:Int):=O;go_wp2
      go_region
      go_wp2
      go_roundw
      case rel =>
       refine⟨k+1,ds++[Qd o k/p2 s+Qd o (k+1)*p2 (64-s)%W],O,by go_num,HS.out.step i2 hs hs0,?_,(HBQ.out.EH O).EH O,((hE.Xu wz _).Xu wz _).drew⟩;have b:=LH hs hx;obtain⟨b1,_⟩:=TS (x:=Qd o (k+1)) (s:=64-s) O b.1 b.2;rw[Nl,show Qd o k/2^s=Qd o k/p2 s from rfl,b1];have h1:=HBU.out.set k (Qd o k/p2 s);rw[W6 _ _ _ _ _ HD1.out]at h1;have h2:=h1.set k (Qd o k/p2 s+Qd o (k+1)*p2 (64-s)%W);rw[W6 _ _ _ _ _ HD1.out,List.append_cons ds,<-XH hkl]at h2;exact h2.drew
      case measure=>simp[intOf];omega
     have hs9:s=0:=O;have HS0:Hid (VH o s (k+1) (ds++[Qd o k/p2 s])):=by subst hs9;exact HS.out.qg i2
     clear hs9;go_wp2
     go_roundw
     case rel =>
      refine⟨k+1,ds++[Qd o k/p2 s],O,by go_num,HS0.out,?_,HBQ.out.EH O,hE.Xu wz _⟩;have h1:=HBU.out.set k (Qd o k/p2 s);rw[W6 _ _ _ _ _ HD1.out,List.append_cons ds,<-XH hkl]at h1;exact h1
     case measure=>simp[intOf];omega
    have hk':k=n+2:=O;subst hk';have hvp:0<dv W lb:=by
     have h7:=HBV.out.1;have h8:=pow_pos Jm (n+1);refine Int.not_le.1 λhc=>?_;have:=Int.mul_le_mul_of_nonneg_right hc (Int.le_of_lt (Z6 s));omega
    have HF:=Lib.hid (k6 HI.out hs hvp HBV.out.2 hm hS);obtain⟨hd1,hd2,hd3⟩:=hS;have hq1:qs.length=la.length-(n+2)+1:=wk HI3.out;have hSq:=SL.G3 HBQ.out (la.length-(n+2)+1) O O;have hSr:=SL.G3 hBU (n+2) w6 (by simp;have:=HI1.out;omega);rw[List.take_of_length_le O,hq1]at hSq;rw[List.take_append_of_le_length O,List.take_of_length_le O]at hSr;have hol:(ds++List.drop (n+2) o).length=la.length+1:=by simp;have:=HI1.out;omega
    rw[hol]at hSr;have HSq:=Lib.hid hSq;have HSr:=Lib.hid hSr;have hn0:(0:Int)<=(n:Int)+2:=O;have hn1:(n:Int)+2<=(la.length:Int)+1:=O;have hn2:((n:Int)+2).toNat=n+2:=O;clear hd1 hd3 hBU hBQ hSq hSr hq1 hol;go_wp2
    go_region_held3 (λ_=>True) (trivial) (first | (go_at_call 307;(with_reducible refine(Kj _ _ _ (HSq.out.ext (Ext.refl _).drew)).mono ?_);rintro e w' ⟨⟨v1,rfl,hv1⟩,rfl⟩) | (go_at_call 307;(with_reducible refine(Kj _ _ _ (HSr.out.ext (Ext.refl _).drew)).mono ?_);rintro e w' ⟨⟨v2,rfl,hv2⟩,rfl⟩))
    go_wp2
    go_ret2
    exact⟨_,rfl,⟨v1,v2,_,_,rfl,hv1,hv2,⟨i4.JA,Xm _⟩,⟨hd2.JA,Xm _⟩,by rw[XG];exact HF.out.1,by rw[XG];exact HF.out.2⟩,(HX2.out.trans hE).drew⟩
  |succ k =>
   obtain⟨pre,u,post,rfl,lj,hst,hpost,lpost,hjm⟩:=hI.pD hdv HLV.out (by
    have:=Jb hdv (n+1);have hz:Qd lv (n+1)≠0:=by
     intro e;apply hnv;rw[List.getLast?_eq_getElem?,HLV.out];rw[ZH (wk HLV.out)]at e;simp[HLV.out,e]
    omega) HVV.out hm
   have HI:=Lib.hid hI;have LJ:=Lib.hid lj;have HBQ:=Lib.hid hBQ;have e1:((k+1:Nat):Int)-1=(k:Int):=O;have hwin:Hid (k+n+2<=la.length):=hjm;have hk3:(k:Int)+((n:Int)+2)+1<=(la.length:Int)+1:=O;obtain⟨bq,oq,rfl,_,_⟩:=hCV 0 (wk HLV.out);have HCV:=Lib.hid hCV;have HBU:=Lib.hid hBU;clear hI lj hBQ hjm lpost hCV hBU;rw[e1];clear e1;go_wp2_with fail
   rw[show k+(n+2)+1-k=n+3 from by omega];refine(OP u lv pre post n k _ _ _ bq oq _ hst LJ.out O ⟨HBU.out,HCV.out⟩ (HN1.out _ I)).mono ?_;rintro e w4 ⟨⟨rfl,u',hB',lu',du',vu'⟩,hU⟩;have hBQ4:=hU.Du O HBQ.out;have hlen:k<(List.replicate (k+1) (0:Int)++qs).length:=w6;have hcell:=hBQ4.cell hlen;have hz:(List.replicate (k+1) (0:Int)++qs).getD k default=0:=by simp[List.getD,List.getElem?_append_left]
   rw[hz]at hcell;simp only[Je]at hcell;have hfr:=hBQ4.frozen k;have hBs:=hBQ4.set k (dv W u/dv W lv);rw[Ug]at hBs;have HBs:=Lib.hid hBs;have hvp:0<dv W lb*p2 s:=by have:=HBV.out.1;have:=pow_pos Jm (n+1);omega
   have HQL:Hid (dv W u/dv W lv<W):=by
    refine Int.ediv_lt_of_lt_mul (by rw[HVV.out];exact hvp) ?_;exact hst.lt
   have HST:=Lib.hid (HI.out.step LJ.out hst.lu du' lu' HVV.out hvp hpost HQL.out (Q4 Jm hst.hu) vu');have HB':=Lib.hid hB';have HU:=Lib.hid hU;clear hBs hBQ4 hB' hU hz hlen vu';go_wp2
   go_roundw
   case rel=>exact⟨k,_,_,O,by go_num,HST.out,HB'.out.EH O,HBs.out,(HU.out.cells HN1.out HCV.out).EH HN2.out,(HU.out.pG hE (Nat.le_refl _)).Xu w6 _⟩
   case measure=>simp[intOf]
theorem Ip(v v':Value)(la lb:List Int)(w:World)(ha:DG W la)(hb:DG W lb)(na:NZ la)(nb:NZ lb)(hs:SL w v Je la)(hs':SL w v' Je lb)(hb0:lb≠[])
  (h1:la.length<=10000000000) (h2:lb.length<=10000000000) :
  Calls prog 321 #[v,v'] w λe w'=>ZN w (UB (dv W la) (dv W lb)) e w':=by
 by_cases hlt:dv W la<dv W lb
 ·exact FA v v' la lb w ha hb na nb hs hs' hlt
 match lb,hb,nb,hs',hb0,hlt,h2 with
 |[y],hb,nb,hs',_,hlt,_ =>
  have e:dv W [y]=y:=wz;rw[e]at hlt ⊢;have hy:=hb.head;have hy0:y≠0:=by intro e;subst e;exact nb rfl
  obtain⟨q',cap',e',_⟩:=id hs';subst e';exact Io v q' cap' la y w ha ⟨O,hy.2⟩ na hs hs' O O
 |x::y::l,hb,nb,hs',_,hlt,h2=>exact Az v v' la (x::y::l) l.length w ha hb na nb hs hs' O I h1 h2
theorem Yk.sign{s:Int}(h:Yk w s q n cap z):s<0↔z<0:=by
 rcases h with ⟨_,_,_,rfl,_⟩ | ⟨b,off,l,_,_,_,_,_,_,_,_,h,hz,hb⟩
 ·exact Iff.rfl
 rcases h with rfl | rfl<;>omega
def Bx.gm(w:World)(o:Obj)(T:TypeId)(c:Array Value):Bx ((w.alloc o).alloc (.cells c T)) (w.heap.size+1) T c.toList:=by
 have:=Bx.new (w.alloc o) T c;simpa using this
def Bx.jw(w:World)(o o':Obj)(T:TypeId)(c:Array Value):Bx (((w.alloc o).alloc (.cells c T)).alloc o') (w.heap.size+1) T c.toList:=(Bx.gm w o T c).alloc o'
def Bx.Lk(w:World)(o o':Obj)(T:TypeId)(c:Array Value):Bx (((w.alloc o).alloc o').alloc (.cells c T)) (w.heap.size+1+1) T c.toList:=by
 have:=Bx.new ((w.alloc o).alloc o') T c;simpa using this
def Bx.Ic(w:World)(o o':Obj)(T:TypeId)(c:Array Value):Bx (((w.alloc (.cells c T)).alloc o).alloc o') w.heap.size T c.toList:=((Bx.new w T c).alloc o).alloc o'
def Ext.Be{a:World}(h:Ext a w){R:Nat}(hR:a.heap.size<=R)(v0 v1:Value):Ext a ((w.setCell ⟨R,0,none⟩ v0).setCell ⟨R,1,none⟩ v1):=(h.Xu hR v0).Xu hR v1
theorem vT(v:Value)(z:Int)(w:World)(hv:XU w v z):
  Calls prog 282 #[v] w λe w'=>ZN w (λv w'=>XU w' v (Jj z)) e w':=by
 have HV:=Lib.hid hv;obtain⟨s,q,n,cap,rfl,hp⟩:=hv;have HP:=Lib.hid hp;by_cases hs:s<0
 ·have HI:=Lib.hid (De (hp.sign.1 hs));have HB:=Lib.hid (Bx.gm w (.cells #[.int .i64 s,.slice q n cap] 93) 93 IZ);clear hp;go_enter func282,ntmps282
  go_wp2_with fail
  refine(TU _ z _ (HV.out.ext (((Ext.refl _).alloc _).alloc _))).mono ?_;rintro e w1 ⟨_,rfl,⟨s',q',n',cap',rfl,hp'⟩,hx⟩;obtain⟨c0,c1,f0,f1⟩:=(HB.out.ext hx).two;have HB2:=Lib.hid (HB.out.ext hx);go_wp2
  refine bodyPost_ret (v:=.agg #[.int .i64 s',.slice q' n' cap']) (by simp[results,results282,go_sem,c0,c1]) I ⟨_,rfl,?_,?_⟩
  ·rw[HI.out];exact⟨_,_,_,_,rfl,hp'.kp ((Kp.refl _).Be HB2.out.PZ AJ _ _)⟩
  exact(((((Ext.refl w).alloc _).alloc _).trans hx).Xu wz _).Xu wz _
 have HI:=Lib.hid (Wr (z:=z) (wk hp.sign));clear hp;go_enter func282,ntmps282
 go_wp2
 refine bodyPost_ret (v:=.agg #[.int .i64 s,.slice q n cap]) (by simp[results,results282,go_sem]) I ⟨_,rfl,?_,((Ext.refl _).alloc _).alloc _⟩;rw[HI.out];exact⟨_,_,_,_,rfl,HP.out.ext (((Ext.refl _).alloc _).alloc _)⟩
def X3{l:List Int}(hd:DG W l)(hn:NZ l)(h:dv W l=Jj z)(hz:sz z<=1000000000):l.length<=1000000000:=by
 have:=uK hd hn;rw[h,Mp]at this;omega
def Uf{b:Int}(h:decide (a<0)=decide (b<0)):sg (decide (a<0)) (Jj a+Jj b)=a+b:=by
 unfold sg Jj;by_cases ha:a<0<;>by_cases hb:b<0<;>simp[ha,hb]at h ⊢<;>omega
def Ue{b:Int}(h:decide (a<0)≠decide (b<0)):sg (decide (a<0)) (Jj a-Jj b)=a+b:=by
 unfold sg Jj;by_cases ha:a<0<;>by_cases hb:b<0<;>simp[ha,hb]at h ⊢<;>omega
def TC{b:Int}(h:decide (a<0)≠decide (b<0)):sg (decide (b<0)) (Jj b-Jj a)=a+b:=by
 unfold sg Jj;by_cases ha:a<0<;>by_cases hb:b<0<;>simp[ha,hb]at h ⊢<;>omega
theorem Ef(s s':Int)(q q':Option Addr)(n n' cap cap':Nat)(a b:Int)(w:World)(hv:Yk w s q n cap a)(hv':Yk w s' q' n' cap' b)
  (hc:q.isNone=false\/(q.isNone=true/\q'.isNone=false)\/(q.isNone=true/\q'.isNone=true/\(decide (s<wrap64 (s+s'))==decide (0<s'))=false))
  (ha:sz a<=1000000000) (hb:sz b<=1000000000) :
  Calls prog 137 #[.agg #[.int .i64 s,.slice q n cap],.agg #[.int .i64 s',.slice q' n' cap']] w λe w'=>ZN w (λv w'=>XU w' v (a+b)) e w':=by
 have hn:=λw=>Lib.run_eql_slice_nil (P:=prog) w 91 289 q n cap 0 0 underlying91;have hn':=λw=>Lib.run_eql_slice_nil (P:=prog) w 91 289 q' n' cap' 0 0 underlying91;have HV:Hid (XU w (.agg #[.int .i64 s,.slice q n cap]) a):=⟨_,_,_,_,rfl,hv⟩;have HV':Hid (XU w (.agg #[.int .i64 s',.slice q' n' cap']) b):=⟨_,_,_,_,rfl,hv'⟩;have HBb:=Lib.hid (Bx.jw w (.cells #[.int .i64 s,.slice q n cap] 93) (.cells IZ 93) 93 #[.int .i64 s',.slice q' n' cap']);have HBr:=Lib.hid (Bx.Lk w (.cells #[.int .i64 s,.slice q n cap] 93) (.cells #[.int .i64 s',.slice q' n' cap'] 93) 93 IZ);clear hv hv';rcases hc with h1 | ⟨h1,h2⟩ | ⟨h1,h2,h3⟩
 all_goals
  rw[h1]at hn
  try rw[h2]at hn'
  go_enter func137,ntmps137
  go_wp2_with fail
  refine(Ys _ a _ (HV.out.ext ((((Ext.refl _).alloc _).alloc _).alloc _))).mono ?_;rintro e w1 ⟨_,rfl,⟨p,la,rfl,hsa,hda,hna,hva⟩,hx⟩;have HB1:=Lib.hid (HBb.out.ext hx);have HR1:=Lib.hid (HBr.out.ext hx);obtain⟨c0,c1,f0,f1⟩:=HB1.out.two;have hlea:=X3 hda hna hva ha;have HVA:=Lib.hid hva;clear hva;go_wp2_with fail
  refine(Ys _ b _ (HV'.out.ext (((((Ext.refl _).alloc _).alloc _).alloc _).trans hx))).mono ?_;rintro e w2 ⟨_,rfl,⟨p',lb,rfl,hsb,hdb,hnb,hvb⟩,hx2⟩;have HR2:=Lib.hid (HR1.out.ext hx2);have hleb:=X3 hdb hnb hvb hb;have HVB:=Lib.hid hvb;clear hvb c0 c1 f0 f1;have hsa2:=hsa.ext hx2;by_cases hsg:decide (a<0)=decide (b<0)
  ·have hgg:(decide (a<0)==decide (b<0))=true:=by simpa using hsg
   have HSG:Hid (sg (decide (a<0)) (dv W la+dv W lb)=a+b):=by
    show sg _ _=_;rw[HVA.out,HVB.out];exact Uf hsg
   clear hsg;go_wp2_with fail
   refine(Tw _ _ la lb _ hda hdb hsa2 hsb O O).mono ?_;rintro e w3 ⟨_,rfl,⟨l3,hs3,hd3,hn3,hv3⟩,hx3⟩;have HV3:=Lib.hid hv3;clear hv3;go_wp2_with fail
   refine(Vr _ _ l3 _ hs3 hd3 hn3).mono ?_;rw[HV3.out,HSG.out];rintro e w4 ⟨_,rfl,⟨s4,q4,n4,cap4,rfl,hp4⟩,hx4⟩;have HR4:=Lib.hid ((HR2.out.ext hx3).ext hx4);obtain⟨c0,c1,f0,f1⟩:=HR4.out.two;go_wp2
   refine bodyPost_ret (v:=.agg #[.int .i64 s4,.slice q4 n4 cap4]) (by simp[results,results137,go_sem,c0,c1]) I ⟨_,rfl,⟨_,_,_,_,rfl,hp4.kp ((Kp.refl _).Be HR4.out.PZ AJ _ _)⟩,?_⟩;exact(((((((Ext.refl w).alloc _).alloc _).alloc _).trans hx).trans hx2).trans hx3 |>.trans hx4).Be O _ _
  have hgg:(decide (a<0)==decide (b<0))=false:=by simpa using hsg
  have hcl:=G9 (x:=dv W la) (y:=dv W lb);have hcg:=WS (x:=dv W la) (y:=dv W lb);by_cases hge:dv W lb<=dv W la
  ·have HSG:Hid (sg (decide (a<0)) (dv W la-dv W lb)=a+b):=by
    show sg _ _=_;rw[HVA.out,HVB.out];exact Ue hsg
   have hc3:=hcl hge;have hll:lb.length<=la.length:=by
    refine Nat.not_lt.1 λhlt=>?_;have:=Xi Mj hda hdb hnb hlt;omega
   have HGE:=Lib.hid hge;clear hsg hcl hcg hge;go_wp2_with fail
   refine(ZZ _ _ la lb _ hda hdb hna hnb hsa2 hsb).mono ?_;rintro e w3 ⟨rfl,hx3⟩;have hsa3:=hsa2.ext hx3;have hsb3:=hsb.ext hx3;go_wp2_with fail
   refine(DK _ _ la lb _ hda hdb hsa3 hsb3 O hll HGE.out).mono ?_;rintro e w4 ⟨_,rfl,⟨l3,hs3,hd3,hn3,hv3⟩,hx4⟩;have HV3:=Lib.hid hv3;clear hv3;go_wp2_with fail
   refine(Vr _ _ l3 _ hs3 hd3 hn3).mono ?_;rw[HV3.out,HSG.out];rintro e w5 ⟨_,rfl,⟨s4,q4,n4,cap4,rfl,hp4⟩,hx5⟩;have HR4:=Lib.hid (((HR2.out.ext hx3).ext hx4).ext hx5);obtain⟨c0,c1,f0,f1⟩:=HR4.out.two;go_wp2
   refine bodyPost_ret (v:=.agg #[.int .i64 s4,.slice q4 n4 cap4]) (by simp[results,results137,go_sem,c0,c1]) I ⟨_,rfl,⟨_,_,_,_,rfl,hp4.kp ((Kp.refl _).Be HR4.out.PZ AJ _ _)⟩,?_⟩;exact(((((((Ext.refl w).alloc _).alloc _).alloc _).trans hx).trans hx2).trans hx3 |>.trans hx4 |>.trans hx5).Be O _ _
  have HSG:Hid (sg (decide (b<0)) (dv W lb-dv W la)=a+b):=by
   show sg _ _=_;rw[HVA.out,HVB.out];exact TC hsg
  have HC3:=Lib.hid (hcg O);have hll:la.length<=lb.length:=by
   refine Nat.not_lt.1 λhlt=>?_;have:=Xi Mj hdb hda hna hlt;omega
  have HGE:Hid (dv W la<=dv W lb):=by show _<=_;omega
  clear hsg hcl hcg hge;go_wp2_with fail
  refine(ZZ _ _ la lb _ hda hdb hna hnb hsa2 hsb).mono ?_;rw[HC3.out];rintro e w3 ⟨rfl,hx3⟩;have hsa3:=hsa2.ext hx3;have hsb3:=hsb.ext hx3;go_wp2_with fail
  refine(DK _ _ lb la _ hdb hda hsb3 hsa3 O hll HGE.out).mono ?_;rintro e w4 ⟨_,rfl,⟨l3,hs3,hd3,hn3,hv3⟩,hx4⟩;have HV3:=Lib.hid hv3;clear hv3;go_wp2_with fail
  refine(Vr _ _ l3 _ hs3 hd3 hn3).mono ?_;rw[HV3.out,HSG.out];rintro e w5 ⟨_,rfl,⟨s4,q4,n4,cap4,rfl,hp4⟩,hx5⟩;have HR4:=Lib.hid (((HR2.out.ext hx3).ext hx4).ext hx5);obtain⟨c0,c1,f0,f1⟩:=HR4.out.two;go_wp2
  refine bodyPost_ret (v:=.agg #[.int .i64 s4,.slice q4 n4 cap4]) (by simp[results,results137,go_sem,c0,c1]) I ⟨_,rfl,⟨_,_,_,_,rfl,hp4.kp ((Kp.refl _).Be HR4.out.PZ AJ _ _)⟩,?_⟩;exact(((((((Ext.refl w).alloc _).alloc _).alloc _).trans hx).trans hx2).trans hx3 |>.trans hx4 |>.trans hx5).Be O _ _
set_option maxRecDepth 100000 in
set_option maxHeartbeats 800000 in
theorem CX(s s':Int)(w:World)(h0 : -9223372036854775808<=s)(h1:s<=9223372036854775807)(h0' : -9223372036854775808<=s')(h1':s'<=9223372036854775807)
  (hl : -9223372036854775808<=s+s') (hh:s+s'<=9223372036854775807) :
  Calls prog 137 #[.agg #[.int .i64 s,.slice none 0 0],.agg #[.int .i64 s',.slice none 0 0]] w λe w'=>ZN w (λv w'=>XU w' v (s+s')) e w':=by
 have hn:=λw=>Lib.run_eql_slice_nil (P:=prog) w 91 289 none 0 0 0 0 underlying91;have hb1:(decide (s<s+s')==decide (0<s'))=true:=beq_iff_eq.2 (decide_eq_decide.2 O);have hb2:(decide (0<s')==decide (0<s'))=true:=wz;go_enter func137,ntmps137
 go_wp2_with fail
 exact bodyPost_ret (v:=.agg #[.int .i64 (s+s'),.slice none 0 0]) (by simp[results,results137,go_sem]) I ⟨_,rfl,XU.small _ hl hh,((((Ext.refl _).alloc _).alloc _).alloc _)⟩
theorem L9(v v':Value)(a b:Int)(w:World)(hv:XU w v a)(hv':XU w v' b)(ha:sz a<=1000000000)(hb:sz b<=1000000000):
  Calls prog 137 #[v,v'] w λe w'=>ZN w (λv w'=>XU w' v (a+b)) e w':=by
 obtain⟨s,q,n,cap,rfl,hp⟩:=hv;obtain⟨s',q',n',cap',rfl,hp'⟩:=hv';rcases hp.isNone with ⟨rfl,rfl,rfl,rfl,h0,h1⟩ | ⟨_,_,rfl⟩
 ·rcases hp'.isNone with ⟨rfl,rfl,rfl,rfl,h0',h1'⟩ | ⟨_,_,rfl⟩
  ·by_cases hl : -9223372036854775808<=s+s'/\s+s'<=9223372036854775807
   ·exact CX s s' w h0 h1 h0' h1' hl.1 hl.2
   refine Ef _ _ _ _ _ _ _ _ _ _ w hp hp' (.inr (.inr ⟨rfl,rfl,?_⟩)) ha hb;simp only[wrap64,beq_eq_false_iff_ne,ne_eq,decide_eq_decide];omega
  exact Ef _ _ _ _ _ _ _ _ _ _ w hp hp' (.inr (.inl ⟨rfl,rfl⟩)) ha hb
 exact Ef _ _ _ _ _ _ _ _ _ _ w hp hp' (.inl rfl) ha hb
theorem LF(v v':Value)(a b:Int)(w:World)(hv:XU w v a)(hv':XU w v' b)(ha:sz a<=1000000000)(hb:sz b<=1000000000):
  Calls prog 290 #[v,v'] w λe w'=>ZN w (λv w'=>XU w' v (a-b)) e w':=by
 have HV:=Lib.hid hv;have HV':=Lib.hid hv';obtain⟨s,q,n,cap,rfl,hp⟩:=hv;obtain⟨s',q',n',cap',rfl,hp'⟩:=hv';have HBa:=Lib.hid (Bx.Ic w (.cells #[.int .i64 s',.slice q' n' cap'] 93) (.cells IZ 93) 93 #[.int .i64 s,.slice q n cap]);have HBb:=Lib.hid (Bx.jw w (.cells #[.int .i64 s,.slice q n cap] 93) (.cells IZ 93) 93 #[.int .i64 s',.slice q' n' cap']);have HBr:=Lib.hid (Bx.Lk w (.cells #[.int .i64 s,.slice q n cap] 93) (.cells #[.int .i64 s',.slice q' n' cap'] 93) 93 IZ);have hnb:sz (-b)<=1000000000:=by rw[K9];exact hb
 have HE:Hid (a + -b=a-b):=(Int.sub_eq_add_neg).symm;clear hp hp';go_enter func290,ntmps290
 go_wp2_with fail
 have hEW:Ext w (((w.alloc (.cells #[.int .i64 s,.slice q n cap] 93)).alloc (.cells #[.int .i64 s',.slice q' n' cap'] 93)).alloc (.cells IZ 93)):=(((Ext.refl w).alloc _).alloc _).alloc _;generalize hW:(((w.alloc (.cells #[.int .i64 s,.slice q n cap] 93)).alloc (.cells #[.int .i64 s',.slice q' n' cap'] 93)).alloc (.cells IZ 93))=W0 at *
 have HW:=Lib.hid hW;clear hW;obtain⟨ca0,ca1,fa0,fa1⟩:=HBa.out.two;obtain⟨cb0,cb1,fb0,fb1⟩:=HBb.out.two;clear fa0 fa1 fb0 fb1;go_region_held3 (λw'=>w'.cell? ⟨w.heap.size,0,none⟩=some (.int .i64 s)/\w'.cell? ⟨w.heap.size,1,none⟩=some (.slice q n cap)/\w'.cell? ⟨w.heap.size+1,0,none⟩=some (.int .i64 s')/\w'.cell? ⟨w.heap.size+1,1,none⟩=some (.slice q' n' cap'))
  (first | exact⟨hx1.cell ca0,hx1.cell ca1,hx1.cell cb0,hx1.cell cb1⟩ | exact⟨hx2.cell (hx1.cell ca0),hx2.cell (hx1.cell ca1),hx2.cell (hx1.cell cb0),hx2.cell (hx1.cell cb1)⟩ | exact⟨Xk O (Xk O (hx2.cell (hx1.cell ca0))),Xk O (Xk O (hx2.cell (hx1.cell ca1))),Xk O (Xk O (hx2.cell (hx1.cell cb0))),Xk O (Xk O (hx2.cell (hx1.cell cb1)))⟩ | go_keep)
  (first
   |(go_at_call 236;refine(TU _ b _ (HV'.out.ext (hEW.drew))).mono ?_;rintro e w1 ⟨_,rfl,⟨s1,q1,n1,cap1,rfl,hp1⟩,hx1⟩)
   |(go_at_call 137;refine(L9 _ _ a (-b) _ (HV.out.ext ((hEW.drew).trans hx1)) ⟨_,_,_,_,rfl,hp1⟩ ha hnb).mono ?_;rw[HE.out];rintro e w2 ⟨_,rfl,⟨s2,q2,n2,cap2,rfl,hp2⟩,hx2⟩;obtain⟨c0,c1,f0,f1⟩:=((HBr.out.drew.ext hx1).ext hx2).two))
 go_wp2
 refine bodyPost_ret (v:=.agg #[.int .i64 s2,.slice q2 n2 cap2]) (by simp[results,results290,go_sem,c0,c1]) I ⟨_,rfl,⟨_,_,_,_,rfl,hp2.kp ((Kp.refl _).Be ((HBr.out.drew.ext hx1).ext hx2).PZ AJ _ _)⟩,?_⟩;exact((hEW.drew.trans hx1).trans hx2).Be O _ _
def FI(a b:Int):EF (a-b)=Za a b:=(xj a b).symm
theorem CL(s s':Int)(w:World):
  Calls prog 217 #[.agg #[.int .i64 s,.slice none 0 0],.agg #[.int .i64 s',.slice none 0 0]] w λe w'=>e = .returned (.int .i64 (Za s s'))/\Ext w w':=by
 have hn:=λw=>Lib.run_eql_slice_nil (P:=prog) w 91 289 none 0 0 0 0 underlying91;rcases Int.lt_trichotomy s s' with g | g | g
 ·have HC:=Lib.hid (WS g);go_enter func217,ntmps217
  go_wp2
  go_ret
  exact⟨by rw[HC.out];rfl,((Ext.refl _).alloc _).alloc _⟩
 ·subst g;have HC:=Lib.hid (M6 s);go_enter func217,ntmps217
  go_wp2
  go_ret
  exact⟨by rw[HC.out];rfl,((Ext.refl _).alloc _).alloc _⟩
 have HC:=Lib.hid (Hq g);have g2:¬s<s':=O;go_enter func217,ntmps217
 go_wp2
 go_ret
 exact⟨by rw[HC.out];rfl,((Ext.refl _).alloc _).alloc _⟩
theorem L1(v v':Value)(a b:Int)(w:World)(s s':Int)(q q':Option Addr)(n n' cap cap':Nat)(hv:Yk w s q n cap a)(hv':Yk w s' q' n' cap' b)(e1:v = .agg #[.int .i64 s,.slice q n cap])(e2:v' = .agg #[.int .i64 s',.slice q' n' cap'])
  (hc:q.isNone=false\/(q.isNone=true/\q'.isNone=false)) (ha:sz a<=1000000000) (hb:sz b<=1000000000) :
  Calls prog 217 #[v,v'] w λe w'=>e = .returned (.int .i64 (Za a b))/\Ext w w':=by
 subst e1 e2;have hn:=λw=>Lib.run_eql_slice_nil (P:=prog) w 91 289 q n cap 0 0 underlying91;have hn':=λw=>Lib.run_eql_slice_nil (P:=prog) w 91 289 q' n' cap' 0 0 underlying91;have HV:Hid (XU w (.agg #[.int .i64 s,.slice q n cap]) a):=⟨_,_,_,_,rfl,hv⟩;have HV':Hid (XU w (.agg #[.int .i64 s',.slice q' n' cap']) b):=⟨_,_,_,_,rfl,hv'⟩;have HC:=Lib.hid (FI a b);clear hv hv';rcases hc with h1 | ⟨h1,h2⟩
 all_goals
  rw[h1]at hn
  try rw[h2]at hn'
  go_enter func217,ntmps217
  go_wp2_with fail
  refine(LF _ _ a b _ (HV.out.ext (((Ext.refl _).alloc _).alloc _)) (HV'.out.ext (((Ext.refl _).alloc _).alloc _)) ha hb).mono ?_;rintro e w1 ⟨_,rfl,⟨s1,q1,n1,cap1,rfl,hp1⟩,hx1⟩;have HP1:=Lib.hid hp1;clear hp1;go_wp2_with fail
  refine(Ud _ (a-b) _ ⟨_,_,_,_,rfl,HP1.out⟩).mono ?_;rw[HC.out];rintro e w2 ⟨rfl,hx2⟩;go_wp2
  go_ret
  exact⟨rfl,((((Ext.refl _).alloc _).alloc _).trans hx1).trans hx2⟩
theorem vJ(v v':Value)(a b:Int)(w:World)(hv:XU w v a)(hv':XU w v' b)(ha:sz a<=1000000000)(hb:sz b<=1000000000):
  Calls prog 217 #[v,v'] w λe w'=>e = .returned (.int .i64 (Za a b))/\Ext w w':=by
 obtain⟨s,q,n,cap,e1,hp⟩:=hv;obtain⟨s',q',n',cap',e2,hp'⟩:=hv';rcases hp.isNone with ⟨rfl,rfl,rfl,rfl,h0,h1⟩ | ⟨_,_,rfl⟩
 ·rcases hp'.isNone with ⟨rfl,rfl,rfl,rfl,h0',h1'⟩ | ⟨_,_,rfl⟩
  ·subst e1 e2;exact CL s s' w
  exact L1 _ _ _ _ w _ _ _ _ _ _ _ _ hp hp' e1 e2 (.inr ⟨rfl,rfl⟩) ha hb
 exact L1 _ _ _ _ w _ _ _ _ _ _ _ _ hp hp' e1 e2 (.inl rfl) ha hb
def Mx{s:Int}(h0 : -9223372036854775808<=s)(h1:s<=9223372036854775807):0<=Jj s/\Jj s<W:=by
 rw[Kf];have:=GN;omega
def js{x y:Int}:J3 x y+W*Xv x y=x*y:=by unfold J3 Xv;rw[Int.add_comm];exact Int.mul_ediv_add_emod _ _
def jo{s t:Int}:(if(decide (s<0)==decide (t<0))then Jj s*Jj t else -(Jj s*Jj t))=s*t:=by
 unfold Jj;by_cases h1:s<0<;>by_cases h2:t<0<;>simp[h1,h2,Int.neg_mul,Int.mul_neg]
def qp{s t:Int}:sg (!(decide (s<0)==decide (t<0))) (Jj s*Jj t)=s*t:=by
 rw[<-jo (s:=s) (t:=t)];unfold sg;cases (decide (s<0)==decide (t<0))<;>simp
set_option maxRecDepth 100000 in
set_option maxHeartbeats 2000000 in
theorem Oq(s s':Int)(w:World)(h0 : -9223372036854775808<=s)(h1:s<=9223372036854775807)(h0' : -9223372036854775808<=s')(h1':s'<=9223372036854775807)
  (hl:Jj s*Jj s'<=9223372036854775807) :
  Calls prog 139 #[.agg #[.int .i64 s,.slice none 0 0],.agg #[.int .i64 s',.slice none 0 0]] w λe w'=>ZN w (λv w'=>XU w' v (s*s')) e w':=by
 have hn:=λw=>Lib.run_eql_slice_nil (P:=prog) w 91 289 none 0 0 0 0 underlying91;have b1:=Mx h0 h1;have b2:=Mx h0' h1';have hp0:0<=Jj s*Jj s':=Int.mul_nonneg b1.1 b2.1;have hhi:Xv (Jj s) (Jj s')=0:=Int.ediv_eq_zero_of_lt hp0 (wk GN);have hlo:J3 (Jj s) (Jj s')=Jj s*Jj s':=Int.emod_eq_of_lt hp0 (wk GN);have HHI:=Lib.hid hhi;have HLO:=Lib.hid hlo;have HSG:=Lib.hid (jo (s:=s) (t:=s'));have HBa:=Lib.hid (Bx.Ic w (.cells #[.int .i64 s',.slice none 0 0] 93) (.cells IZ 93) 93 #[.int .i64 s,.slice none 0 0]);have HBb:=Lib.hid (Bx.jw w (.cells #[.int .i64 s,.slice none 0 0] 93) (.cells IZ 93) 93 #[.int .i64 s',.slice none 0 0]);generalize Jj s*Jj s'=p at *
 clear hhi hlo;by_cases hsg:(decide (s<0)==decide (s'<0))=true
 all_goals
  have hs2:=HSG.out
  first | rw[if_pos hsg]at hs2 | rw[if_neg hsg]at hs2
  have HS2:=Lib.hid hs2
  try have hsg3:(decide (s<0)==decide (s'<0))=false:=by simpa using hsg
  clear hs2;go_enter func139,ntmps139
  go_wp2_with fail
  go_region_held3 (λw'=>w'.cell? ⟨w.heap.size,0,none⟩=some (.int .i64 s)/\w'.cell? ⟨w.heap.size+1,0,none⟩=some (.int .i64 s'))
   (first | go_keep)
   (first
    |(go_at_call 239;(with_reducible refine(Gy s _ h0 h1).mono ?_);rintro e w1 ⟨rfl,rfl⟩)
    |(go_at_call 239;(with_reducible refine(Gy s' _ h0' h1').mono ?_);rintro e w1 ⟨rfl,rfl⟩)
    |(go_at_call 238;refine(Yt _ _ _ b1 b2).mono ?_;rw[HHI.out,HLO.out];rintro e w1 ⟨rfl,rfl⟩))
  go_wp2
  first
   |exact bodyPost_ret (v:=.agg #[.int .i64 (-p),.slice none 0 0]) (by simp[results,results139,go_sem]) I ⟨_,rfl,by rw[<-HS2.out];exact XU.small _ O O,(((Ext.refl w).alloc _).alloc _).alloc _ |>.drewN 1⟩
   |exact bodyPost_ret (v:=.agg #[.int .i64 p,.slice none 0 0]) (by simp[results,results139,go_sem]) I ⟨_,rfl,by rw[<-HS2.out];exact XU.small _ O O,(((Ext.refl w).alloc _).alloc _).alloc _ |>.drewN 1⟩
set_option maxRecDepth 100000 in
set_option maxHeartbeats 4000000 in
theorem SN(s s':Int)(q q':Option Addr)(n n' cap cap':Nat)(a b:Int)(w:World)(hv:Yk w s q n cap a)(hv':Yk w s' q' n' cap' b)
  (hc:q.isNone=false\/(q.isNone=true/\q'.isNone=false)) (ha:sz a<=1000000000) (hb:sz b<=1000000000) :
  Calls prog 139 #[.agg #[.int .i64 s,.slice q n cap],.agg #[.int .i64 s',.slice q' n' cap']] w λe w'=>ZN w (λv w'=>XU w' v (a*b)) e w':=by
 have hn:=λw=>Lib.run_eql_slice_nil (P:=prog) w 91 289 q n cap 0 0 underlying91;have hn':=λw=>Lib.run_eql_slice_nil (P:=prog) w 91 289 q' n' cap' 0 0 underlying91;have HV:Hid (XU w (.agg #[.int .i64 s,.slice q n cap]) a):=⟨_,_,_,_,rfl,hv⟩;have HV':Hid (XU w (.agg #[.int .i64 s',.slice q' n' cap']) b):=⟨_,_,_,_,rfl,hv'⟩;have HBb:=Lib.hid (Bx.jw w (.cells #[.int .i64 s,.slice q n cap] 93) (.cells IZ 93) 93 #[.int .i64 s',.slice q' n' cap']);have HBr:=Lib.hid (Bx.Lk w (.cells #[.int .i64 s,.slice q n cap] 93) (.cells #[.int .i64 s',.slice q' n' cap'] 93) 93 IZ);clear hv hv';rcases hc with h1 | ⟨h1,h2⟩
 all_goals
  rw[h1]at hn
  try rw[h2]at hn'
  go_enter func139,ntmps139
  go_wp2_with fail
  refine(Ys _ a _ (HV.out.ext ((((Ext.refl _).alloc _).alloc _).alloc _))).mono ?_;rintro e w1 ⟨_,rfl,⟨p,la,rfl,hsa,hda,hna,hva⟩,hx⟩;have HB1:=Lib.hid (HBb.out.ext hx);have HR1:=Lib.hid (HBr.out.ext hx);obtain⟨c0,c1,f0,f1⟩:=HB1.out.two;have hlea:=X3 hda hna hva ha;have HVA:=Lib.hid hva;clear hva;go_wp2_with fail
  refine(Ys _ b _ (HV'.out.ext (((((Ext.refl _).alloc _).alloc _).alloc _).trans hx))).mono ?_;rintro e w2 ⟨_,rfl,⟨p',lb,rfl,hsb,hdb,hnb,hvb⟩,hx2⟩;have HR2:=Lib.hid (HR1.out.ext hx2);have hleb:=X3 hdb hnb hvb hb;have HVB:=Lib.hid hvb;clear hvb c0 c1 f0 f1;have hsa2:=hsa.ext hx2;have HSG:Hid (sg (!(decide (a<0)==decide (b<0))) (dv W la*dv W lb)=a*b):=by
   show sg _ _=_;rw[HVA.out,HVB.out];exact qp
  go_wp2_with fail
  refine(DX _ _ la lb _ hda hdb hsa2 hsb O O).mono ?_;rintro e w3 ⟨_,rfl,⟨l3,hs3,hd3,hn3,hv3⟩,hx3⟩;have HV3:=Lib.hid hv3;clear hv3;go_wp2_with fail
  refine(Vr _ _ l3 _ hs3 hd3 hn3).mono ?_;rw[HV3.out,HSG.out];rintro e w4 ⟨_,rfl,⟨s4,q4,n4,cap4,rfl,hp4⟩,hx4⟩;have HR4:=Lib.hid ((HR2.out.ext hx3).ext hx4);obtain⟨c0,c1,f0,f1⟩:=HR4.out.two;go_wp2
  refine bodyPost_ret (v:=.agg #[.int .i64 s4,.slice q4 n4 cap4]) (by simp[results,results139,go_sem,c0,c1]) I ⟨_,rfl,⟨_,_,_,_,rfl,hp4.kp ((Kp.refl _).Be HR4.out.PZ AJ _ _)⟩,?_⟩;exact(((((((Ext.refl w).alloc _).alloc _).alloc _).trans hx).trans hx2).trans hx3 |>.trans hx4).Be O _ _
set_option maxRecDepth 100000 in
set_option maxHeartbeats 4000000 in
theorem jq(s s':Int)(w:World)(h0 : -9223372036854775808<=s)(h1:s<=9223372036854775807)(h0' : -9223372036854775808<=s')(h1':s'<=9223372036854775807)
  (hl:9223372036854775808<=Jj s*Jj s') (ha:sz s<=1000000000) (hb:sz s'<=1000000000) :
  Calls prog 139 #[.agg #[.int .i64 s,.slice none 0 0],.agg #[.int .i64 s',.slice none 0 0]] w λe w'=>ZN w (λv w'=>XU w' v (s*s')) e w':=by
 have hn:=λw=>Lib.run_eql_slice_nil (P:=prog) w 91 289 none 0 0 0 0 underlying91;have b1:=Mx h0 h1;have b2:=Mx h0' h1';have HV:=Lib.hid (XU.small w h0 h1);have HV':=Lib.hid (XU.small w h0' h1');have HBa:=Lib.hid (Bx.Ic w (.cells #[.int .i64 s',.slice none 0 0] 93) (.cells IZ 93) 93 #[.int .i64 s,.slice none 0 0]);have HBb:=Lib.hid (Bx.jw w (.cells #[.int .i64 s,.slice none 0 0] 93) (.cells IZ 93) 93 #[.int .i64 s',.slice none 0 0]);have HBr:=Lib.hid (Bx.Lk w (.cells #[.int .i64 s,.slice none 0 0] 93) (.cells #[.int .i64 s',.slice none 0 0] 93) 93 IZ);have hhl:=js (x:=Jj s) (y:=Jj s');have hor:Xv (Jj s) (Jj s')≠0\/9223372036854775808<=J3 (Jj s) (Jj s'):=by
  by_cases h:Xv (Jj s) (Jj s')=0
  ·right;rw[h]at hhl;omega
  exact .inl h
 have hcase:(Xv (Jj s) (Jj s')==0)=false\/((Xv (Jj s) (Jj s')==0)=true/\9223372036854775808<=J3 (Jj s) (Jj s')):=by
  by_cases h:Xv (Jj s) (Jj s')=0
  ·exact .inr ⟨by simpa using h,by rcases hor with g | g;exact absurd h g;exact g⟩
  exact .inl (by simpa using h)
 clear hor hhl hl;generalize hmh:Xv (Jj s) (Jj s')=mh at *
 generalize hml:J3 (Jj s) (Jj s')=ml at *
 have HMH:=Lib.hid hmh;have HML:=Lib.hid hml;clear hmh hml;rcases hcase with g1 | ⟨g1,g2⟩
 all_goals
  go_enter func139,ntmps139
  go_wp2_with fail
  go_region_held3 (λw'=>w'.cell? ⟨w.heap.size,0,none⟩=some (.int .i64 s)/\w'.cell? ⟨w.heap.size+1,0,none⟩=some (.int .i64 s'))
   (first | go_keep)
   (first
    |(go_at_call 239;(with_reducible refine(Gy s _ h0 h1).mono ?_);rintro e w1 ⟨rfl,rfl⟩)
    |(go_at_call 239;(with_reducible refine(Gy s' _ h0' h1').mono ?_);rintro e w1 ⟨rfl,rfl⟩)
    |(go_at_call 238;refine(Yt _ _ _ b1 b2).mono ?_;rw[HMH.out,HML.out];rintro e w1 ⟨rfl,rfl⟩))
  go_wp2_with fail
  refine(Ys _ s _ (HV.out.ext (((((Ext.refl _).alloc _).alloc _).alloc _).drew))).mono ?_;rintro e w1 ⟨_,rfl,⟨p,la,rfl,hsa,hda,hna,hva⟩,hx⟩;have HB1:=Lib.hid (HBb.out.drew.ext hx);have HR1:=Lib.hid (HBr.out.drew.ext hx);obtain⟨c0,c1,f0,f1⟩:=HB1.out.two;have hlea:=X3 hda hna hva ha;have HVA:=Lib.hid hva;clear hva;go_wp2_with fail
  refine(Ys _ s' _ (HV'.out.ext ((((((Ext.refl _).alloc _).alloc _).alloc _).drew).trans hx))).mono ?_;rintro e w2 ⟨_,rfl,⟨p',lb,rfl,hsb,hdb,hnb,hvb⟩,hx2⟩;have HR2:=Lib.hid (HR1.out.ext hx2);have hleb:=X3 hdb hnb hvb hb;have HVB:=Lib.hid hvb;clear hvb c0 c1 f0 f1;have hsa2:=hsa.ext hx2;have HSG:Hid (sg (!(decide (s<0)==decide (s'<0))) (dv W la*dv W lb)=s*s'):=by
   show sg _ _=_;rw[HVA.out,HVB.out];exact qp
  go_wp2_with fail
  refine(DX _ _ la lb _ hda hdb hsa2 hsb O O).mono ?_;rintro e w3 ⟨_,rfl,⟨l3,hs3,hd3,hn3,hv3⟩,hx3⟩;have HV3:=Lib.hid hv3;clear hv3;go_wp2_with fail
  refine(Vr _ _ l3 _ hs3 hd3 hn3).mono ?_;rw[HV3.out,HSG.out];rintro e w4 ⟨_,rfl,⟨s4,q4,n4,cap4,rfl,hp4⟩,hx4⟩;have HR4:=Lib.hid ((HR2.out.ext hx3).ext hx4);obtain⟨c0,c1,f0,f1⟩:=HR4.out.two;go_wp2
  refine bodyPost_ret (v:=.agg #[.int .i64 s4,.slice q4 n4 cap4]) (by simp[results,results139,go_sem,c0,c1]) I ⟨_,rfl,⟨_,_,_,_,rfl,hp4.kp ((Kp.refl _).Be HR4.out.PZ AJ _ _)⟩,?_⟩;exact((((((((Ext.refl w).alloc _).alloc _).alloc _).drew).trans hx).trans hx2).trans hx3 |>.trans hx4).Be O _ _
theorem kD(v v':Value)(a b:Int)(w:World)(hv:XU w v a)(hv':XU w v' b)(ha:sz a<=1000000000)(hb:sz b<=1000000000):
  Calls prog 139 #[v,v'] w λe w'=>ZN w (λv w'=>XU w' v (a*b)) e w':=by
 obtain⟨s,q,n,cap,rfl,hp⟩:=hv;obtain⟨s',q',n',cap',rfl,hp'⟩:=hv';rcases hp.isNone with ⟨rfl,rfl,rfl,rfl,h0,h1⟩ | ⟨_,_,rfl⟩
 ·rcases hp'.isNone with ⟨rfl,rfl,rfl,rfl,h0',h1'⟩ | ⟨_,_,rfl⟩
  ·by_cases hl:Jj s*Jj s'<=9223372036854775807
   ·exact Oq s s' w h0 h1 h0' h1' hl
   exact jq s s' w h0 h1 h0' h1' O ha hb
  exact SN _ _ _ _ _ _ _ _ _ _ w hp hp' (.inr ⟨rfl,rfl⟩) ha hb
 exact SN _ _ _ _ _ _ _ _ _ _ w hp hp' (.inl rfl) ha hb
theorem uB(n:Int)(w:World)(h0 : -9223372036854775808<=n)(h1:n<=9223372036854775807):
  Calls prog 207 #[.int .i64 n] w λe w'=>ZN w (λv w'=>XU w' v n) e w':=by
 go_enter func207,ntmps207
 go_wp2
 exact bodyPost_ret (v:=.agg #[.int .i64 n,.slice none 0 0]) (by simp[results,results207,go_sem]) I ⟨_,rfl,XU.small _ h0 h1,(Ext.refl _).alloc _⟩
theorem Fv{b:Int}(hb:0<b):(0<=a.tmod b->a.tdiv b=a/b/\a.tmod b=a%b)/\(a.tmod b<0->a.tdiv b-1=a/b/\a.tmod b+b=a%b):=by
 have h1:=Int.mul_tdiv_add_tmod a b;have h3:a.tmod b<b/\-b<a.tmod b:=by
  have:=Int.tmod_lt_of_pos a hb;refine⟨this,?_⟩;have h:=Int.tmod_lt_of_pos (-a) hb;rw[Int.neg_tmod]at h;omega
 generalize a.tdiv b=q at *
 generalize a.tmod b=r at *
 constructor
 ·intro hr;have g1:q*b<=a:=by rw[Int.mul_comm];omega
  have g2:a<(q+1)*b:=by rw[Int.add_mul,Int.mul_comm q];omega
  exact⟨(ZW hb g1 g2).symm,by rw[Zt g1 g2,Int.mul_comm q];omega⟩
 intro hr;have g1:(q-1)*b<=a:=by rw[Int.sub_mul,Int.mul_comm q];omega
 have g2:a<(q-1+1)*b:=by rw[show q-1+1=q from by omega,Int.mul_comm];omega
 exact⟨(ZW hb g1 g2).symm,by rw[Zt g1 g2,Int.sub_mul,Int.mul_comm q];omega⟩
def QCa(a b:Int)(r:Value)(w':World):Prop:=∃v v',r = .tuple #[v,v']/\XU w' v (a/b)/\XU w' v' (a%b)
set_option maxRecDepth 100000 in
set_option maxHeartbeats 400000 in
theorem Tp(s s':Int)(w:World)(h0 : -9223372036854775807<=s)(h1:s<=9223372036854775807)(hb0:0<s')(hb1:s'<=9223372036854775807):
  Calls prog 283 #[.agg #[.int .i64 s,.slice none 0 0],.agg #[.int .i64 s',.slice none 0 0]] w λe w'=>ZN w (QCa s s') e w':=by
 have hn:=λw=>Lib.run_eql_slice_nil (P:=prog) w 91 289 none 0 0 0 0 underlying91;have hm:(s != -9223372036854775808)=true:=w6;have hz:(s'==0)=false:=w6;have hT:=Fv (a:=s) hb0;have HT:=Lib.hid hT;have hbd : -9223372036854775807<=s.tdiv s'/\s.tdiv s'<=9223372036854775807:=by
  have h:=Int.natAbs_tdiv_le_natAbs s s';omega
 have hrd : -9223372036854775807<=s.tmod s'/\s.tmod s'<=9223372036854775807:=by
  have:=Int.tmod_lt_of_pos s hb0;have h:=Int.tmod_lt_of_pos (-s) hb0;rw[Int.neg_tmod]at h;omega
 clear hT;have hqr:Hid (-9223372036854775808<=s/s'/\s/s'<=9223372036854775807/\0<=s%s'/\s%s'<=9223372036854775807):=by
  have r0:=Int.emod_nonneg s (by omega:s'≠0);have r1:=Int.emod_lt_of_pos s hb0;by_cases hr:0<=s.tmod s'
  ·have:=HT.out.1 hr;exact⟨O,O,r0,O⟩
  have:=HT.out.2 O;exact⟨O,O,r0,O⟩
 by_cases hr:0<=s.tmod s'
 ·have HR:=Lib.hid (HT.out.1 hr);go_enter func283,ntmps283
  go_wp2_with fail
  go_quiet (fail)
  go_wp2
  refine bodyPost_ret (v:=.tuple #[.agg #[.int .i64 (s.tdiv s'),.slice none 0 0],.agg #[.int .i64 (s.tmod s'),.slice none 0 0]]) (by simp[results,results283,go_sem]) I ⟨_,rfl,⟨_,_,rfl,?_,?_⟩,?_⟩
  ·rw[HR.out.1];exact XU.small _ hqr.out.1 hqr.out.2.1
  ·rw[HR.out.2];exact XU.small _ (wk hqr.out) hqr.out.2.2.2
  repeat (first | (with_reducible exact Ext.refl _) | (with_reducible refine Ext.drewN ?_ _) | (with_reducible refine Ext.drew ?_) | (with_reducible refine Ext.alloc ?_ _) | (with_reducible refine Ext.Xu ?_ (by dsimp only;omega) _))
 have HR:=Lib.hid (HT.out.2 O);have hw1:IntKind.i64.wrap (s.tdiv s'-1)=s.tdiv s'-1:=IntWalk.i64_in _ (by have:=HR.out;have:=hqr.out;omega);have hw2:IntKind.i64.wrap (s.tmod s'+s')=s.tmod s'+s':=IntWalk.i64_in _ O;have hr:s.tmod s'<0:=O;go_enter func283,ntmps283
 go_wp2_with fail
 go_quiet (fail)
 go_wp2
 go_quiet (fail)
 go_wp2
 refine bodyPost_ret (v:=.tuple #[.agg #[.int .i64 (s.tdiv s'-1),.slice none 0 0],.agg #[.int .i64 (s.tmod s'+s'),.slice none 0 0]]) (by simp[results,results283,go_sem]) I ⟨_,rfl,⟨_,_,rfl,?_,?_⟩,?_⟩
 ·rw[HR.out.1];exact XU.small _ hqr.out.1 hqr.out.2.1
 ·rw[HR.out.2];exact XU.small _ (wk hqr.out) hqr.out.2.2.2
 repeat (first | (with_reducible exact Ext.refl _) | (with_reducible refine Ext.drewN ?_ _) | (with_reducible refine Ext.drew ?_) | (with_reducible refine Ext.alloc ?_ _) | (with_reducible refine Ext.Xu ?_ (by dsimp only;omega) _))
def RF(F:Gs)(w:World):Prop:=∀b c T,F b=some (c,T)->∃fr,w.heap[b]?=some (.cells c T fr)
def Fits.r(h:Fits F w):RF F w:=h.row
theorem RF.le(h:RF F' w)(k:Gs.le F F'):RF F w:=λb c T e=>h b c T (k b _ e)
def FM(w w':World):Prop:=∀(b:Nat) (c:Array Value) (fr:Nat×Nat),w.heap[b]?=some (.cells c 289 fr)->∃fr',w'.heap[b]?=some (.cells c 289 fr')
theorem K1.GS(h:FM w w'){b:Nat}(hb:K1 w b 289):K1 w' b 289:=by
 obtain⟨c,fr,e⟩:=hb;obtain⟨fr',e'⟩:=h b c fr e;exact⟨c,fr',e'⟩
theorem Cells.GS(h:FM w w'){q:Option Addr}{l:List Int}(hc:Cells w q Je l):Cells w' q Je l:=by
 intro i hi;obtain⟨b,off,e,ht,hcell⟩:=hc i hi;refine⟨b,off,e,K1.GS h ht,?_⟩;obtain⟨c,fr,hb⟩:=ht;obtain⟨fr',hb'⟩:=h b c fr hb;have e1:w.cell? ⟨b,off+i,none⟩=c[off+i]?:=by simp[World.cell?,hb]
 have e2:w'.cell? ⟨b,off+i,none⟩=c[off+i]?:=by simp[World.cell?,hb']
 rw[e2,<-e1];exact hcell
theorem SL.GS(h:FM w w'){v:Value}{l:List Int}(hs:SL w v Je l):SL w' v Je l:=by
 obtain⟨q,cap,h1,h2,h3,h4⟩:=hs;exact⟨q,cap,h1,h2,h3,h4.GS h⟩
theorem Yk.GS(h:FM w w'){s:Int}{q:Option Addr}{n cap:Nat}{z:Int}(hv:Yk w s q n cap z):Yk w' s q n cap z:=by
 rcases hv with hv | ⟨b,off,l,h1,h2,h3,h4,h5,h6⟩
 ·exact .inl hv
 exact .inr ⟨b,off,l,h1,h2,h3,h4,h5.GS h,h6⟩
theorem QU.lift{f:FuncId}{val:γ->Value}{R:γ->World->Prop}(pr:γ->Prop)(he:Enters P f)(hF:Fits F w)
  (h:Calls P f args.toArray w λe w'=>∃c,e = .returned (val c)/\R c w'/\pr c/\Ext w w') (hR:∀c w' w'',FM w' w''->R c w'->R c w''):QU P f args w F val (λc F=>(∀w,RF F w->R c w)/\pr c):=by
 refine⟨he,h.mono ?_⟩;rintro e w' ⟨c,rfl,hr,hpr,hx⟩;refine⟨c,λb=>if b<w.heap.size then F b else match w'.heap[b]? with | some (.cells c T _)=>if T=289 then some (c,289)else none | _=>none,rfl,.of hx,?_,?_,⟨?_,?_⟩,?_⟩
 ·intro b x hb;show(if b<w.heap.size then _ else _)=_;rw[if_pos (hF.lt hb)];exact hb
 ·intro b hb;show(if b<w.heap.size then _ else _)=_;rw[if_pos hb]
 ·intro b c T hb;by_cases hlt:b<w.heap.size
  ·rw[if_pos hlt]at hb;obtain⟨fr,e⟩:=hF.row b c T hb;exact⟨fr,by rw[hx.block b hlt];exact e⟩
  rw[if_neg hlt]at hb;split at hb
  ·rename_i c' T' fr heq;split at hb
   ·rename_i hT;cases hb;exact⟨fr,by rw[heq,hT]⟩
   cases hb
  cases hb
 ·intro b c fr hb;show(if b<w.heap.size then _ else _)=_;by_cases hlt:b<w.heap.size
  ·rw[if_pos hlt];rw[hx.block b hlt]at hb;exact hF.all b c fr hb
  rw[if_neg hlt,hb];simp
 intro F'' hle;refine⟨λw'' hw''=>?_,hpr⟩;refine hR c w' w'' (λb c fr hb=>?_) hr;refine hw'' b c _ (hle b _ ?_);show(if b<w.heap.size then _ else _)=_;by_cases hlt:b<w.heap.size
 ·rw[if_pos hlt];rw[hx.block b hlt]at hb;exact hF.all b c fr hb
 rw[if_neg hlt,hb];simp
structure Bg where
 s:Int
 q:Option Addr
 n:Nat
 cap:Nat
variable{g g':Bg}
@[reducible] def Bg.v (g:Bg):Value:=.agg #[.int .i64 g.s,.slice g.q g.n g.cap]
def J5(F:Gs)(g:Bg)(z:Int):Prop:=∀w,RF F w->Yk w g.s g.q g.n g.cap z
theorem J5.le(h:J5 F g z)(k:Gs.le F F'):J5 F' g z:=λw hw=>h w (hw.le k)
def J5.at(h:J5 F g z){w:World}(hw:Fits F w):XU w g.v z:=⟨_,_,_,_,rfl,h w hw.r⟩
def J5.small(F:Gs){z:Int}(h0 : -9223372036854775808<=z)(h1:z<=9223372036854775807):J5 F ⟨z,none,0,0⟩ z:=λ_ _=>.inl ⟨rfl,rfl,rfl,rfl,h0,h1⟩
abbrev Ze(P:Program)(f:FuncId)(args:List Value)(w:World)(F:Gs)(z:Int):Prop:=QU P f args w F Bg.v λg F=>J5 F g z
theorem Ze.of{f:FuncId}(he:Enters P f)(hF:Fits F w)(h:Calls P f args.toArray w λe w'=>ZN w (λv w'=>XU w' v z) e w'):Ze P f args w F z:=by
 refine(QU.lift (λ_=>True) he hF (val:=Bg.v) (R:=λ(g:Bg) w=>Yk w g.s g.q g.n g.cap z) (h.mono ?_) λc w' w'' hs hr=>hr.GS hs).imp λc F' hf=>⟨c,rfl,λF'' hle=>J5.le hf.1 hle⟩;rintro e w' ⟨v,rfl,⟨s,q,n,cap,rfl,hp⟩,hx⟩;exact⟨⟨s,q,n,cap⟩,rfl,hp,trivial,hx⟩
abbrev Qb[Dr](P:Program)(f:FuncId)(args:List Value)(w:World)(F:Gs)(v:Value):Prop:=QU P f args w F (λ(_:Unit)=>v) λ_ _=>True
theorem Qb.of{f:FuncId}{v:Value}(he:Enters P f)(hF:Fits F w)(h:Calls P f args.toArray w λe w'=>e = .returned v/\Ext w w'):Qb P f args w F v:=by
 have:=QU.lift (γ:=Unit) (val:=λ_=>v) (R:=λ_ _=>True) (λ_=>True) he hF (h.mono λe w' ⟨h1,h2⟩=>⟨(),h1,trivial,trivial,h2⟩) (λ_ _ _ _ h=>h);exact this.imp λc F' _=>⟨(),rfl,λ_ _=>trivial⟩
section
variable{w:World}{F:Gs}{g g':Bg}{a b:Int}
theorem Nz(hF:Fits F w)(h:J5 F g a):Qb prog 140 [g.v] w F (.int .i64 (EF a)) :=
 .of (enters_of func140 wy rfl) hF (Ud _ a w (h.at hF))
theorem AN(hF:Fits F w)(h:J5 F g a):Ze prog 236 [g.v] w F (-a) :=
 .of (enters_of func236 wy rfl) hF (TU _ a w (h.at hF))
theorem dZ(hF:Fits F w)(h:J5 F g a):Ze prog 282 [g.v] w F (Jj a) :=
 .of (enters_of func282 wy rfl) hF (vT _ a w (h.at hF))
theorem L8(hF:Fits F w)(h:J5 F g a)(h':J5 F g' b)(ha:sz a<=1000000000)(hb:sz b<=1000000000):Ze prog 137 [g.v,g'.v] w F (a+b) :=
 .of (enters_of func137 wy rfl) hF (L9 _ _ a b w (h.at hF) (h'.at hF) ha hb)
theorem QA0(hF:Fits F w)(h:J5 F g a)(h':J5 F g' b)(ha:sz a<=1000000000)(hb:sz b<=1000000000):Ze prog 290 [g.v,g'.v] w F (a-b) :=
 .of (enters_of func290 wy rfl) hF (LF _ _ a b w (h.at hF) (h'.at hF) ha hb)
theorem BH(hF:Fits F w)(h:J5 F g a)(h':J5 F g' b)(ha:sz a<=1000000000)(hb:sz b<=1000000000):Ze prog 139 [g.v,g'.v] w F (a*b) :=
 .of (enters_of func139 wy rfl) hF (kD _ _ a b w (h.at hF) (h'.at hF) ha hb)
theorem QBr(hF:Fits F w)(h:J5 F g a)(h':J5 F g' b)(ha:sz a<=1000000000)(hb:sz b<=1000000000):Qb prog 217 [g.v,g'.v] w F (.int .i64 (Za a b)) :=
 .of (enters_of func217 wy rfl) hF (vJ _ _ a b w (h.at hF) (h'.at hF) ha hb)
theorem Oi{n:Int}(hF:Fits F w)(h0 : -9223372036854775808<=n)(h1:n<=9223372036854775807):Ze prog 207 [.int .i64 n] w F n :=
 .of (enters_of func207 wy rfl) hF (uB n w h0 h1)
end
structure Sr where
 q:Option Addr
 n:Nat
 cap:Nat
@[reducible] def Sr.v (r:Sr):Value:=.slice r.q r.n r.cap
def K2(F:Gs)(r:Sr)(l:List Int):Prop:=(∀w,RF F w->SL w r.v Je l)/\DG W l/\NZ l
theorem K2.le{r:Sr}{l:List Int}(h:K2 F r l)(k:Gs.le F F'):K2 F' r l:=⟨λw hw=>h.1 w (hw.le k),h.2⟩
section
variable{w:World}{F:Gs}{g g':Bg}{a b:Int}
theorem Mt(hF:Fits F w)(h:J5 F g a):QU prog 231 [g.v] w F (λ(c:Sr×List Int)=>.tuple #[.bool (decide (a<0)),.slice c.1.q c.1.n c.1.cap]) (λc F=>K2 F c.1 c.2/\dv W c.2=Jj a):=by
 refine(QU.lift (val:=λ(c:Sr×List Int)=>.tuple #[.bool (decide (a<0)),.slice c.1.q c.1.n c.1.cap]) (R:=λc w=>SL w c.1.v Je c.2) (λc=>DG W c.2/\NZ c.2/\dv W c.2=Jj a)
  (enters_of func231 wy rfl) hF ((Ys _ a w (h.at hF)).mono ?_) λc w' w'' hs hr=>hr.GS hs).imp λc F' hf=>⟨c,rfl,λF'' hle=>⟨K2.le ⟨hf.1,hf.2.1,hf.2.2.1⟩ hle,hf.2.2.2⟩⟩
 rintro e w' ⟨_,rfl,⟨p,l,rfl,hs,h1,h2,h3⟩,hx⟩;obtain⟨q,cap,rfl,hq⟩:=hs;exact⟨(⟨q,l.length,cap⟩,l),rfl,⟨q,cap,rfl,hq⟩,⟨h1,h2,h3⟩,hx⟩
theorem jz{neg:Bool}{r:Sr}{l:List Int}(hF:Fits F w)(h:K2 F r l):Ze prog 232 [.bool neg,r.v] w F (sg neg (dv W l)) :=
 .of (enters_of func232 wy rfl) hF (Vr neg _ l w (h.1 w hF.r) h.2.1 h.2.2)
theorem FB{r r':Sr}{la lb:List Int}(hF:Fits F w)(h:K2 F r la)(h':K2 F r' lb)(hb0:lb≠[])(h1:la.length<=10000000000)(h2:lb.length<=10000000000):
  QU prog 321 [r.v,r'.v] w F (λ(c:(Sr×List Int)×(Sr×List Int))=>.tuple #[.slice c.1.1.q c.1.1.n c.1.1.cap,.slice c.2.1.q c.2.1.n c.2.1.cap])
   (λc F=>(K2 F c.1.1 c.1.2/\K2 F c.2.1 c.2.2)/\dv W c.1.2=dv W la/dv W lb/\dv W c.2.2=dv W la%dv W lb):=by
 refine(QU.lift (val:=λ(c:(Sr×List Int)×(Sr×List Int))=>.tuple #[.slice c.1.1.q c.1.1.n c.1.1.cap,.slice c.2.1.q c.2.1.n c.2.1.cap]) (R:=λc w=>SL w c.1.1.v Je c.1.2/\SL w c.2.1.v Je c.2.2)
  (λc=>(DG W c.1.2/\NZ c.1.2)/\(DG W c.2.2/\NZ c.2.2)/\dv W c.1.2=dv W la/dv W lb/\dv W c.2.2=dv W la%dv W lb)
  (enters_of func321 wy rfl) hF ((Ip _ _ la lb w h.2.1 h'.2.1 h.2.2 h'.2.2 (h.1 w hF.r) (h'.1 w hF.r) hb0 h1 h2).mono ?_) λc w' w'' hs hr=>⟨hr.1.GS hs,hr.2.GS hs⟩).imp
  λc F' hf=>⟨c,rfl,λF'' hle=>⟨⟨K2.le ⟨λw hw=>(hf.1 w hw).1,hf.2.1⟩ hle,K2.le ⟨λw hw=>(hf.1 w hw).2,hf.2.2.1⟩ hle⟩,hf.2.2.2⟩⟩
 rintro e w' ⟨_,rfl,⟨pq,pr,lq,lr,rfl,hsq,hsr,hdq,hdr,hvq,hvr⟩,hx⟩;obtain⟨q,cap,rfl,hq⟩:=hsq;obtain⟨q',cap',rfl,hq'⟩:=hsr;exact⟨((⟨q,lq.length,cap⟩,lq),(⟨q',lr.length,cap'⟩,lr)),rfl,⟨⟨q,cap,rfl,hq⟩,⟨q',cap',rfl,hq'⟩⟩,⟨hdq,hdr,hvq,hvr⟩,hx⟩
end
theorem Dl{b:Int}(hb:0<b):
  (0<=sg (decide (a<0)) (Jj a%b)->sg (decide (a<0)) (Jj a/b)=a/b/\sg (decide (a<0)) (Jj a%b)=a%b) /\
  (sg (decide (a<0)) (Jj a%b)<0->sg (decide (a<0)) (Jj a/b)-1=a/b/\sg (decide (a<0)) (Jj a%b)+b=a%b):=by
 have q1:=Int.mul_ediv_add_emod (Jj a) b;have q2:=Int.emod_nonneg (Jj a) (by omega:b≠0);have q3:=Int.emod_lt_of_pos (Jj a) hb;generalize Jj a/b=q at *
 generalize hr:Jj a%b=r at *
 by_cases h:a<0
 ·rw[De h]at q1;have e1:sg (decide (a<0)) r = -r:=by simp[sg,h]
  have e2:sg (decide (a<0)) q = -q:=by simp[sg,h]
  rw[e1,e2];constructor
  ·intro h0;have:r=0:=O;have g1 : -q*b<=a:=by rw[Int.neg_mul,Int.mul_comm];omega
   have g2:a<(-q+1)*b:=by rw[Int.add_mul,Int.neg_mul,Int.mul_comm q];omega
   exact⟨(ZW hb g1 g2).symm,by rw[Zt g1 g2,Int.neg_mul,Int.mul_comm q];omega⟩
  intro h0;have g1:(-q-1)*b<=a:=by rw[Int.sub_mul,Int.neg_mul,Int.mul_comm q];omega
  have g2:a<(-q-1+1)*b:=by rw[show -q-1+1 = -q from by omega,Int.neg_mul,Int.mul_comm];omega
  exact⟨(ZW hb g1 g2).symm,by rw[Zt g1 g2,Int.sub_mul,Int.neg_mul,Int.mul_comm q];omega⟩
 rw[Wr O]at q1 hr;have e1:sg (decide (a<0)) r=r:=by simp[sg,h]
 have e2:sg (decide (a<0)) q=q:=by simp[sg,h]
 rw[e1,e2];constructor
 ·intro _;have g1:q*b<=a:=by rw[Int.mul_comm];omega
  have g2:a<(q+1)*b:=by rw[Int.add_mul,Int.mul_comm q];omega
  exact⟨(ZW hb g1 g2).symm,by rw[Zt g1 g2,Int.mul_comm q];omega⟩
 intro h0;omega
def Yp(x:Int):EF x<0↔x<0:=by unfold EF;split<;>(try split)<;>omega
def UW(a b:Int):sz (Jj a/b)<=sz a:=by
 rw[<-Mp a];apply Kl;exact Int.natAbs_ediv_le_natAbs _ _
def gA(n:Bool)(x:Int):sz (sg n x)=sz x:=by unfold sg;split<;>simp[K9]
def LD{b:Int}(hb:0<b):sz (a%b)<=sz b:=by
 apply Kl;have:=Int.emod_nonneg a (by omega:b≠0);have:=Int.emod_lt_of_pos a hb;omega
abbrev S2(P:Program)(f:FuncId)(args:List Value)(w:World)(F:Gs)(y z:Int):Prop:=QU P f args w F (λ(c:Bg×Bg)=>.tuple #[c.1.v,c.2.v]) λc F=>J5 F c.1 y/\J5 F c.2 z
theorem Im{b:Int}(hF:Fits F w)(h:J5 F g a)(h':J5 F g' b)(hb0:0<b)(hza:sz a<=1000000000)(hzb:sz b<=1000000000)(hcase:g.q.isNone=true->g'.q.isNone=true->(g.s != -9223372036854775808)=false):
  S2 prog 283 [g.v,g'.v] w F (a/b) (a%b):=by
 refine QU.intro (G:=λF=>J5 F g a/\J5 F g' b) func283 rfl wy rfl rfl hF (λF' hF'=>⟨h.le hF',h'.le hF'⟩)<|QG<|QB ?_
 refine JE I (vs:=[_,_]) I (λb2=>?_);refine JE I (vs:=[_,_]) I (λb3=>?_);refine Qg GY (λb4=>?_);refine Qg GY (λb5=>?_);refine QF4<|QG ?_
 refine Hb 28 (.bool false) ?_ ?_
 ·refine QB<|QA (QH I EU GQ)<|QA (Qh I GQ .u3 (.skip .h1))<|QA (Wn I I Vj)<|QF5 I ?_
  refine Qe (t:=19) rfl (λhb19=>?_) λhb19=>?_
  ·refine QK I I<|QA (QH I EU GQ)<|QK I I<|QA (Qh I GQ .u2 (.skip .h1))<|QK I I<|QA (Wn I I Vj)<|wB 2 I ?_
   refine Qe (t:=24) rfl (λhb24=>?_) λhb24=>?_
   ·refine QK I I<|QA (QH I Pk Qu)<|QK I I<|QA (Qh I Qu .u3 .h1)<|wB 4 I ?_
    exact Xn (exd 15 rfl rfl) (congrArg (λb=>some (Value.bool b)) (hcase hb19 hb24)) QGJ w9
   refine wB 5 I ?_;exact Xn (exd 15 rfl rfl) rfl QGJ w9
  refine wB 10 I ?_;exact Xn (exd 14 rfl rfl) rfl QGJ w9
 refine Xo I ?_
 ·refine QHC 4 I<|QA (wH I Qo .u3) ?_
  refine QJ I (λw F hF ⟨ha,hb⟩=>Mt hF (by assumption)) (λc53=>?_);rcases c53 with ⟨v53,l53⟩;dsimp only;refine JN _ (λw F hF ⟨⟨ha,hb⟩,⟨h53,h53p⟩⟩=>And.intro h53.2 h53p) (λp53=>?_);have hl53:=X3 p53.1.1 p53.1.2 p53.2 hza;refine QHB 9 I<|QA (wH I Qo .u2) ?_
  refine QJ I (λw F hF ⟨⟨ha,hb⟩,⟨h53,h53p⟩⟩=>Mt hF (by assumption)) (λc58=>?_);rcases c58 with ⟨v58,l58⟩;dsimp only;refine JN _ (λw F hF ⟨⟨⟨ha,hb⟩,⟨h53,h53p⟩⟩,⟨h58,h58p⟩⟩=>And.intro h58.2 h58p) (λp58=>?_);have hl58:=X3 p58.1.1 p58.1.2 p58.2 hzb;have hb58:l58≠[]:=by rintro rfl;have:=p58.2;rw[Wr O]at this;simp at this;omega
  refine QHB 11 I ?_;refine QJ I (λw F hF ⟨⟨⟨ha,hb⟩,⟨h53,h53p⟩⟩,⟨h58,h58p⟩⟩=>FB hF (by assumption) (by assumption) hb58 O O) (λc64=>?_);rcases c64 with ⟨⟨v64,l64⟩,v64_,l64_⟩;dsimp only;refine JN _ (λw F hF ⟨⟨⟨⟨ha,hb⟩,⟨h53,h53p⟩⟩,⟨h58,h58p⟩⟩,⟨⟨h64,h64_⟩,h64p⟩⟩=>And.intro h64.2 (And.intro h64_.2 h64p)) (λp64=>?_);rw[p53.2,p58.2,Wr (show 0<=b by omega)]at p64;refine QHB 11 I ?_;refine QJ I (λw F hF ⟨⟨⟨⟨ha,hb⟩,⟨h53,h53p⟩⟩,⟨h58,h58p⟩⟩,⟨⟨h64,h64_⟩,h64p⟩⟩=>jz hF (by assumption)) (λg69=>?_);refine wB 2 I ?_;refine QJ I (λw F hF ⟨⟨⟨⟨⟨ha,hb⟩,⟨h53,h53p⟩⟩,⟨h58,h58p⟩⟩,⟨⟨h64,h64_⟩,h64p⟩⟩,h69⟩=>jz hF (by assumption)) (λg72=>?_);refine Qg GY (λb14=>?_);refine Qg GY (λb15=>?_);refine QZ (vs:=[_,_]) I I I Qo I .u1 .h2 wT<|QZ (vs:=[_,_]) I I I Qo I .here .h2 wT<|QHB 5 I<|QA (wH I Qo .here) ?_
  refine QJ I (λw F hF ⟨⟨⟨⟨⟨⟨ha,hb⟩,⟨h53,h53p⟩⟩,⟨h58,h58p⟩⟩,⟨⟨h64,h64_⟩,h64p⟩⟩,h69⟩,h72⟩=>Nz hF (by assumption)) (λ_=>?_);refine QHB 3 I ?_;have hsz72:sz (sg (decide (a<0)) (dv W l64_))<=1000000000:=by rw[gA,p64.2.2.2];exact Nat.le_trans (LD hb0) hzb
  have hsz69:sz (sg (decide (a<0)) (dv W l64))<=1000000000:=by rw[gA,p64.2.2.1];exact Nat.le_trans (UW a b) hza
  refine QP I (λhc=>?_) λhc=>?_
  ·refine XN 6 QGJ mixed wm wm ?_;simp only[List.take_succ_cons,List.take_zero,List.drop_succ_cons,List.drop_zero];refine QL (wH I Qo .u1) ?_;refine Qc I (λ_ _ f k=>Oi f O O) (λg77=>?_);refine Qc I (λw F hF ⟨⟨⟨⟨⟨⟨⟨⟨ha,hb⟩,⟨h53,h53p⟩⟩,⟨h58,h58p⟩⟩,⟨⟨h64,h64_⟩,h64p⟩⟩,h69⟩,h72⟩,_⟩,h77⟩=>QA0 hF (by assumption) (by assumption) hsz69 wu) (λg78=>?_);refine QL (wH I Qo .here)<|QL (wH I Qo .u4) ?_
   refine Qc I (λw F hF ⟨⟨⟨⟨⟨⟨⟨⟨⟨ha,hb⟩,⟨h53,h53p⟩⟩,⟨h58,h58p⟩⟩,⟨⟨h64,h64_⟩,h64p⟩⟩,h69⟩,h72⟩,_⟩,h77⟩,h78⟩=>L8 hF (by assumption) hb hsz72 hzb) (λg81=>?_);refine KH<|QZ (vs:=[_,_]) I I I Qo I .u1 .h2 wT<|QZ (vs:=[_,_]) I I I Qo I .here .h2 wT<|QF4<|QG<|JL (.cons_cons _ (.cons_cons _ (.cons _ (.cons _ tC)))) mixed wm<|QL (wH I Qo .u1)<|QL (wH I Qo .here)<|Ji (vs:=[_,_]) I I I Qo I .u3 (.cons_cons _ (.cons_cons _ (.cons _ tC))) w9 .h2 wT<|Ji (vs:=[_,_]) I I I Qo I .u2 (.cons_cons _ (.cons_cons _ (.cons _ tC))) w9 .h2 wT<|Q3<|QD<|QT ?_
   exact J9 (⟨g78,g81⟩) I (.Jv (c:=[_,_]) I Qo .u3 (.Jv (c:=[_,_]) I Qo .u2 .nil)) I λF ⟨⟨⟨⟨⟨⟨⟨⟨⟨⟨ha,hb⟩,⟨h53,h53p⟩⟩,⟨h58,h58p⟩⟩,⟨⟨h64,h64_⟩,h64p⟩⟩,h69⟩,h72⟩,_⟩,h77⟩,h78⟩,h81⟩=>(by have hd:=(Dl hb0).2 (by rw[<-p64.2.2.2];exact(Yp _).1 (by simpa using hc));rw[p64.2.2.1]at h78;rw[p64.2.2.2]at h81;rw[hd.1]at h78;rw[hd.2]at h81;exact⟨h78,h81⟩)
  refine QHC 3 I<|JL (.cons_cons _ (.cons_cons _ (.cons _ (.cons _ tC)))) mixed wm<|QL (wH I Qo .u1)<|QL (wH I Qo .here)<|Ji (vs:=[_,_]) I I I Qo I .u3 (.cons_cons _ (.cons_cons _ (.cons _ tC))) w9 .h2 wT<|Ji (vs:=[_,_]) I I I Qo I .u2 (.cons_cons _ (.cons_cons _ (.cons _ tC))) w9 .h2 wT<|Q3<|QD<|QT ?_
  exact J9 (⟨g69,g72⟩) I (.Jv (c:=[_,_]) I Qo .u3 (.Jv (c:=[_,_]) I Qo .u2 .nil)) I λF ⟨⟨⟨⟨⟨⟨⟨ha,hb⟩,⟨h53,h53p⟩⟩,⟨h58,h58p⟩⟩,⟨⟨h64,h64_⟩,h64p⟩⟩,h69⟩,h72⟩,_⟩=>(by have hd:=(Dl hb0).1 (by rw[<-p64.2.2.2];have:=mt (Yp _).2 (by simpa using hc);omega);rw[p64.2.2.1]at h69;rw[p64.2.2.2]at h72;rw[hd.1]at h69;rw[hd.2]at h72;exact⟨h69,h72⟩)
theorem Pu{b:Int}(hF:Fits F w)(h:J5 F g a)(h':J5 F g' b)(hb0:0<b)(hza:sz a<=1000000000)(hzb:sz b<=1000000000):
  S2 prog 283 [g.v,g'.v] w F (a/b) (a%b):=by
 by_cases hs:g.q.isNone=true/\g'.q.isNone=true/\(g.s != -9223372036854775808)=true
 ·obtain⟨s,q,n,cap⟩:=g;obtain⟨s',q',n',cap'⟩:=g';have hp:=h w hF.r;have hp':=h' w hF.r;obtain⟨h1,h2,h3⟩:=hs;dsimp only at *
  rcases hp.isNone with ⟨rfl,rfl,rfl,rfl,k0,k1⟩ | ⟨_,_,rfl⟩
  ·rcases hp'.isNone with ⟨rfl,rfl,rfl,rfl,k0',k1'⟩ | ⟨_,_,rfl⟩
   ·have hm:s≠-9223372036854775808:=by simpa using h3
    refine(QU.lift (val:=λ(c:Bg×Bg)=>.tuple #[c.1.v,c.2.v]) (R:=λc w=>Yk w c.1.s c.1.q c.1.n c.1.cap (s/s')/\Yk w c.2.s c.2.q c.2.n c.2.cap (s%s')) (λ_=>True) (enters_of func283 wy rfl) hF
     ((Tp s s' w O k1 hb0 k1').mono ?_) λc w' w'' hs hr=>⟨hr.1.GS hs,hr.2.GS hs⟩).imp λc F' hf=>⟨c,rfl,λF'' hle=>⟨J5.le (λw hw=>(hf.1 w hw).1) hle,J5.le (λw hw=>(hf.1 w hw).2) hle⟩⟩
    rintro e w' ⟨_,rfl,⟨v,v',rfl,⟨s1,q1,n1,cap1,rfl,hp1⟩,⟨s2,q2,n2,cap2,rfl,hp2⟩⟩,hx⟩;exact⟨(⟨s1,q1,n1,cap1⟩,⟨s2,q2,n2,cap2⟩),rfl,⟨hp1,hp2⟩,trivial,hx⟩
   cases h2
  cases h1
 refine Im hF h h' hb0 hza hzb λh1 h2=>?_;cases hv:(g.s != -9223372036854775808)with
 |false=>rfl
 |true=>exact absurd ⟨h1,h2,hv⟩ hs
theorem EL{b:Int}(h:b ∣ a): -a / -b=a/b:=by
 obtain⟨c,rfl⟩:=h;by_cases hb:b=0
 ·subst hb;simp
 rw[Int.ediv_neg,<-Int.mul_neg,Int.mul_ediv_cancel_left _ hb,Int.mul_ediv_cancel_left _ hb];omega
theorem gL{b:Int}(hF:Fits F w)(h:J5 F g a)(h':J5 F g' b)(hb0:b≠0)(hd:b ∣ a)(hza:sz a<=1000000000)(hzb:sz b<=1000000000):
  Ze prog 237 [g.v,g'.v] w F (a/b):=by
 refine QU.intro (G:=λF=>J5 F g a/\J5 F g' b) func237 rfl wy rfl rfl hF (λF' hF'=>⟨h.le hF',h'.le hF'⟩)<|QG<|QB ?_
 refine JE I (vs:=[_,_]) I (λb2=>?_);refine JE I (vs:=[_,_]) I (λb3=>?_);refine Qg GY (λb4=>?_);refine QHB 5 I<|QA (wH I Qo .u1) ?_
 refine QJ I (λw F hF ⟨ha,hb⟩=>Nz hF (by assumption)) (λ_=>?_);refine QHB 3 I ?_;refine QP I (λhc=>?_) λhc=>?_
 ·refine XN 4 QGJ mixed wm wm ?_;simp only[List.take_succ_cons,List.take_zero,List.drop_succ_cons,List.drop_zero];refine QL (wH I Qo .u2) ?_;refine Qc I (λw F hF ⟨⟨ha,hb⟩,_⟩=>AN hF (by assumption)) (λg11=>?_);refine QL (wH I Qo .u1) ?_;refine Qc I (λw F hF ⟨⟨⟨ha,hb⟩,_⟩,h11⟩=>AN hF (by assumption)) (λg13=>?_);refine KH<|QZ (vs:=[_,_]) I I I Qo I .u2 .h2 wT<|QZ (vs:=[_,_]) I I I Qo I .u1 .h2 wT<|QF4<|QGi<|QA (wH I Qo .u2)<|QA (wH I Qo .u1) ?_
  refine QJ I (λ_ _ f k=>Pu f k.1.2 k.2 (by have:=(Yp b).1 (by simpa using hc);omega) (by rw[K9];exact hza) (by rw[K9];exact hzb)) (λc17=>?_);rcases c17 with ⟨g17,g17_⟩;dsimp only;refine wB 3 I ?_;refine Qg GY (λb5=>?_);refine Qg GY (λb6=>?_);refine QZ (vs:=[_,_]) I I I Qo I .u1 .h2 wT<|QZ (vs:=[_,_]) I I I Qo I .here .h2 wT<|QF4<|QGi<|QA (wH I Qo .u1)<|QZ (vs:=[_,_]) I I I Qo I .u2 .h2 wT<|QF4<|QT ?_
  exact QO (_) rfl (.Jv (c:=[_,_]) I Qo .u2 .nil) rfl λF ⟨⟨⟨⟨⟨ha,hb⟩,_⟩,h11⟩,h13⟩,⟨h17,h17_⟩⟩=>(by rw[show -a / -b=a/b from EL hd]at h17;exact h17)
 refine QHC 4 I<|QA (wH I Qo .u2)<|QA (wH I Qo .u1) ?_
 refine QJ I (λ_ _ f k=>Pu f k.1.1 k.1.2 (by have:=mt (Yp b).2 (by simpa using hc);omega) hza hzb) (λc17=>?_);rcases c17 with ⟨g17,g17_⟩;dsimp only;refine wB 3 I ?_;refine Qg GY (λb5=>?_);refine Qg GY (λb6=>?_);refine QZ (vs:=[_,_]) I I I Qo I .u1 .h2 wT<|QZ (vs:=[_,_]) I I I Qo I .here .h2 wT<|QF4<|QGi<|QA (wH I Qo .u1)<|QZ (vs:=[_,_]) I I I Qo I .u2 .h2 wT<|QF4<|QT ?_
 exact QO (_) rfl (.Jv (c:=[_,_]) I Qo .u2 .nil) rfl λF h9=>h9.2.1
def ql(x:Int)(h:EF x≠0):x≠0:=by rintro rfl;exact h rfl
def pN(x:Int)(h:EF x=0):x=0:=by unfold EF at h;split at h<;>(try split at h)<;>omega
structure QCV(a b:Int) where
 x:Int
 y:Int
 gx:Bg
 gy:Bg
 hx:0<=x
 hy:0<=y
 hg:Int.gcd x y=Int.gcd a b
 sx:sz x<=1000000000
 sy:sz y<=1000000000
theorem dE{b:Int}(hF:Fits F w)(h:J5 F g a)(h':J5 F g' b)(hza:sz a<=1000000000)(hzb:sz b<=1000000000):
  Ze prog 204 [g.v,g'.v] w F (Int.gcd a b):=by
 refine QU.intro (G:=λF=>J5 F g a/\J5 F g' b) func204 rfl wy rfl rfl hF (λF' hF'=>⟨h.le hF',h'.le hF'⟩)<|QG<|QB ?_
 refine JE I (vs:=[_,_]) I (λb2=>?_);refine JE I (vs:=[_,_]) I (λb3=>?_);refine Qg GY (λb4=>?_);refine QF4<|QG<|XN 4 QGJ mixed wm wm ?_
 simp only[List.take_succ_cons,List.take_zero,List.drop_succ_cons,List.drop_zero];refine QL (wH I Qo .u2) ?_;refine Qc I (λw F hF ⟨ha,hb⟩=>dZ hF (by assumption)) (λg8=>?_);refine QL (wH I Qo .u1) ?_;refine Qc I (λw F hF ⟨⟨ha,hb⟩,h8⟩=>dZ hF (by assumption)) (λg10=>?_);refine KH<|QZ (vs:=[_,_]) I I I Qo I .u2 .h2 wT<|QZ (vs:=[_,_]) I I I Qo I .u1 .h2 wT<|QHB 4 I ?_
 refine Xf (ι:=QCV a b) (λi=>[(2,.pointer (some ⟨b2,0,none⟩)),(3,.pointer (some ⟨b3,0,none⟩)),(4,.pointer (some ⟨b4,0,none⟩))]) (λi=>[(b4,.cells #[.int .i64 0,.slice none 0 0] 93 (0,0)),(b3,.cells #[.int .i64 i.gy.s,.slice i.gy.q i.gy.n i.gy.cap] 93 (0,0)),(b2,.cells #[.int .i64 i.gx.s,.slice i.gx.q i.gx.n i.gx.cap] 93 (0,0))])
  (λi F=>J5 F i.gx i.x/\J5 F i.gy i.y) (λi=>i.y.toNat) ⟨Jj a,Jj b,g8,g10,by rw[Kf];omega,by rw[Kf];omega,by rw[Kf,Kf];rfl,by rw[Mp];exact hza,by rw[Mp];exact hzb⟩ wU QGJ (λ_ ⟨⟨_,h8⟩,h10⟩=>⟨h8,h10⟩) λi=>?_
 refine QG<|QGi<|QA (wH I Qo .u1) ?_
 refine QJ I (λw F hF ⟨hX,hY⟩=>Nz hF (by assumption)) (λ_=>?_);refine QHB 3 I ?_;refine QP I (λhc=>?_) λhc=>?_
 ·refine QHC 5 I<|QA (wH I Qo .u2)<|QA (wH I Qo .u1) ?_
  refine QJ I (λ_ _ f k=>Pu f k.1.1 k.1.2 (by have:=i.hy;have:=ql i.y (by simpa using hc);omega) i.sx i.sy) (λc17=>?_);rcases c17 with ⟨g17,g17_⟩;dsimp only;refine wB 3 I ?_;refine Qg GY (λb5=>?_);refine Qg GY (λb6=>?_);refine QZ (vs:=[_,_]) I I I Qo I .u1 .h2 wT<|QZ (vs:=[_,_]) I I I Qo I .here .h2 wT<|QF4<|XN 3 (.cons_cons _ (.cons_cons _ (.cons_cons _ (.cons_cons _ (.cons _ .slnil))))) mixed wm wm ?_
  simp only[List.take_succ_cons,List.take_zero,List.drop_succ_cons,List.drop_zero];refine QL (wH I Qo .u3)<|QL (wH I Qo .here)<|Ji (vs:=[_,_]) I I I Qo I .u4 tC w9 .h2 wT<|KH<|QZ (vs:=[_,_]) I I I Qo I .u3 .h2 wT<|QE<|Qi ?_
  have hy0:0<i.y:=by have:=i.hy;have:=ql i.y (by simpa using hc);omega
  have hm0:=Int.emod_nonneg i.x (by omega:i.y≠0);have hm1:=Int.emod_lt_of_pos i.x hy0;refine Qj (⟨i.y,i.x%i.y,i.gy,g17_,i.hy,hm0,by rw[<-i.hg,Int.gcd_comm,Int.emod_def];first | rw[Int.gcd_sub_mul_left_left] | rw[Int.gcd_sub_mul_right_left] | rw[Int.gcd_sub_mul_left_right],i.sy,Nat.le_trans (LD hy0) i.sy⟩:QCV a b) (by show(i.x%i.y).toNat<i.y.toNat;omega) wU (.cons _ (.cons _ QGJ)) λ_ ⟨⟨⟨_,hY⟩,_⟩,⟨_,h17⟩⟩=>⟨hY,h17⟩
 refine Qv ?_
 repeat first|refine QV ?_|refine QQ wy ?_
 refine QW<|QD<|QGi<|QA (wH I Qo .u2)<|QZ (vs:=[_,_]) I I I Qo I .here .h2 wT<|QF4<|QT ?_
 exact QO (_) rfl (.Jv (c:=[_,_]) I Qo .here .nil) rfl λF h9=>(by have h0:i.y=0:=pN i.y (by simpa using hc);have e:=i.hg;rw[h0,Int.gcd_zero_right]at e;rw[<-e,Int.natAbs_of_nonneg i.hx];exact h9.1.1)
def DE(a:Int):∀e:Nat,sz (a^e)<=e*sz a+1
 |0=>by simp;decide
 |e+1=>by
  rw[Int.pow_succ];have:=ZQ (a^e) a;have:=DE a e;rw[Nat.add_mul];omega
structure um(K:Nat) where
 k:Int
 e:Nat
 p:Nat
 go:Bg
 gx:Bg
 hk:0<=k
 hK:k<=9223372036854775807
 hp:1<=p
 h:e+p*k.toNat=K
structure uk(K p:Nat)(k:Int) where
 e:Nat
 go:Bg
 h:e+p*(2*(k.toNat/2))=K
def TP{K e:Nat}(he:e<=K)(h:K*sz a<=500000000):sz (a^e)<=1000000000:=by
 have h1:=DE a e;have h2:=Nat.mul_le_mul_right (sz a) he;omega
theorem jS{k:Int}(hF:Fits F w)(h:J5 F g a)(hk:0<=k)(hK:k<=9223372036854775807)(hz:k.toNat*sz a<=500000000):
  Ze prog 287 [g.v,.int .i64 k] w F (a^k.toNat):=by
 refine QU.intro (G:=λF=>J5 F g a) func287 rfl wy rfl rfl hF (λF' hF'=>h.le hF')<|QGi<|JE rfl (vs:=[_,_]) rfl λb2=>Qg GY λb4=>QF4<|QGi<|QJ rfl (λ_ _ f k=>Oi f O O) λg6=>Qg GY λb5=>QZ (vs:=[_,_]) rfl rfl rfl Qo rfl .here .h2 wT<|QHB 4 I ?_
 refine Xf (ι:=um k.toNat) (λi=>[(1,.int .i64 i.k),(2,.pointer (some ⟨b2,0,none⟩)),(4,.pointer (some ⟨b4,0,none⟩)),(5,.pointer (some ⟨b5,0,none⟩))]) (λi=>[(b5,.cells #[.int .i64 i.go.s,.slice i.go.q i.go.n i.go.cap] 93 (0,0)),(b4,.cells #[.int .i64 0,.slice none 0 0] 93 (0,0)),(b2,.cells #[.int .i64 i.gx.s,.slice i.gx.q i.gx.n i.gx.cap] 93 (0,0))])
  (λi F=>J5 F i.go (a^i.e)/\J5 F i.gx (a^i.p)) (λi=>i.k.toNat) ⟨k,0,1,g6,g,hk,hK,Nat.le_refl _,wz⟩ wV QGJ (λ_ ⟨h1,h6⟩=>⟨by simpa using h6,by show J5 _ _ (a^1);rw[Int.pow_succ,Int.pow_zero,Int.one_mul];exact h1⟩) λi=>?_
 refine wA 7 I ?_;refine QP I (λhc=>?_) λhc=>?_
 ·refine QHC 4 I ?_;have hk0:0<i.k:=by simpa using hc
  have hpk:i.p<=k.toNat:=by have:=i.h;have:=Nat.mul_le_mul_left i.p (show 1<=i.k.toNat by omega);omega
  have hik:=i.hk;have hiK:=i.hK;refine GO (ι:=uk k.toNat i.p i.k) (λj=>[(1,.int .i64 i.k),(2,.pointer (some ⟨b2,0,none⟩)),(4,.pointer (some ⟨b4,0,none⟩)),(5,.pointer (some ⟨b5,0,none⟩))]) (λj=>[(b5,.cells #[.int .i64 j.go.s,.slice j.go.q j.go.n j.go.cap] 93 (0,0)),(b4,.cells #[.int .i64 0,.slice none 0 0] 93 (0,0)),(b2,.cells #[.int .i64 i.gx.s,.slice i.gx.q i.gx.n i.gx.cap] 93 (0,0))])
   (λj F=>J5 F j.go (a^j.e)/\J5 F i.gx (a^i.p)) ?_ ?_
  ·refine wR I<|QA (pe I I O)<|QHB 3 I ?_
   refine QP I (λhc=>?_) λhc=>?_
   ·refine QB<|QA (wH I Qo .here)<|QA (wH I Qo .u2)<|QJ I (λ_ _ f k=>BH f k.1 k.2 (TP (wk i.h) hz) (TP hpk hz)) λg16=>QZ (vs:=[_,_]) I I I Qo I .here .h2 wT<|QE ?_
    have hodd:i.k%2=1:=by simpa using hc
    refine Xj (⟨i.e+i.p,g16,by have:=i.h;have e:i.k.toNat=2*(i.k.toNat/2)+1:=O;rw[e,Nat.mul_add]at this;omega⟩:uk k.toNat i.p i.k) wV QGJ λ_ ⟨⟨_,hX⟩,h16⟩=>⟨by show J5 _ _ (a^(i.e+i.p));rw[Int.pow_add];exact h16,hX⟩
   refine QM ?_;have hev:i.k%2=0:=by have:i.k%2≠1:=(by simpa using hc);omega
   refine Xj (⟨i.e,i.go,by have:=i.h;have e:i.k.toNat=2*(i.k.toNat/2):=O;rw[<-e];exact this⟩:uk k.toNat i.p i.k) wV QGJ w9
  intro j;refine wA 6 I ?_;refine QP I (λhc=>?_) λhc=>?_
  ·refine QB<|QA (wH I Qo .u2)<|QA (wH I Qo .u2)<|QJ I (λ_ _ f k=>BH f k.2 k.2 (TP hpk hz) (TP hpk hz)) λg21=>QZ (vs:=[_,_]) I I I Qo I .u2 .h2 wT<|QE<|Qi<|QHD 3 I<|QA (jG I I)<|wB 2 I ?_
   have hk2:(i.k/2).toNat=i.k.toNat/2:=O;refine Qj (⟨i.k/2,j.e,i.p+i.p,j.go,g21,O,O,wk i.hp,by rw[hk2];have:=j.h;rw[Nat.mul_left_comm]at this;rw[Nat.add_mul];omega⟩:um k.toNat) (by show(i.k/2).toNat<i.k.toNat;omega) wV QGJ λ_ ⟨⟨hO,_⟩,h21⟩=>⟨hO,by show J5 _ _ (a^(i.p+i.p));rw[Int.pow_add];exact h21⟩
  refine QM<|Qi<|QHD 3 I<|QA (jG I I)<|wB 2 I ?_
  have hk1:i.k=1:=by have:¬1<i.k:=(by simpa using hc);omega
  have hk2:(i.k/2).toNat=i.k.toNat/2:=O;refine Qj (⟨i.k/2,j.e,i.p,j.go,i.gx,O,O,i.hp,by rw[hk2];have:=j.h;have h0:i.k.toNat/2=0:=O;rw[h0]at this ⊢;simpa using this⟩:um k.toNat) (by show(i.k/2).toNat<i.k.toNat;omega) wV QGJ w9
 refine Qv ?_
 repeat first|refine QV ?_|refine QQ wy ?_
 refine QW<|QD<|QGi<|QA (wH I Qo .here)<|QZ (vs:=[_,_]) I I I Qo I .u1 .h2 wT<|QF4<|QT ?_
 exact QO (_) rfl (.Jv (c:=[_,_]) I Qo .u1 .nil) rfl λF h9=>(by have h0:i.k.toNat=0:=(by have:¬0<i.k:=(by simpa using hc);omega);have e:=i.h;rw[h0]at e;have e2:i.e=k.toNat:=(by simpa using e);have e3:=congrArg (λn=>J5 F i.go (a^n)) e2;exact cast e3 h9.1)
structure Fr where
 n:Bg
 d:Bg
@[reducible] def Fr.v (x:Fr):Value:=.agg #[.int .i64 x.n.s,.slice x.n.q x.n.n x.n.cap,.int .i64 x.d.s,.slice x.d.q x.d.n x.d.cap]
def Jz(F:Gs)(x:Fr)(r:Rat):Prop:=J5 F x.n r.num/\J5 F x.d r.den
def Jz.le{x:Fr}{r:Rat}(h:Jz F x r)(k:Gs.le F F'):Jz F' x r:=⟨h.1.le k,h.2.le k⟩
abbrev YL(P:Program)(f:FuncId)(args:List Value)(w:World)(F:Gs)(r:Rat):Prop:=QU P f args w F Fr.v λx F=>Jz F x r
def Jn(r:Rat):Nat:=max (sz r.num) (sz (r.den:Int))
def Jc(r:Rat):sz r.num<=Jn r:=Nat.le_max_left _ _
def JZ(r:Rat):sz (r.den:Int)<=Jn r:=Nat.le_max_right _ _
def den_pos(r:Rat):(0:Int)<r.den:=wk r.den_pos
theorem Yk.one{s:Int}(h:Yk w s q n cap z):(q.isNone=true->(s==1)=decide (z=1))/\(q.isNone=false->decide (z=1)=false):=by
 rcases h with ⟨rfl,rfl,rfl,rfl,_⟩ | ⟨b,off,l,rfl,_,_,_,_,_,_,_,h,hz,hb⟩
 ·exact⟨λ_=>by rw[Bool.eq_iff_iff];simp,λh=>(by cases h)⟩
 refine⟨λh=>(by cases h),λ_=>?_⟩;rcases h with rfl | rfl<;>simp<;>omega
structure MkI(a b:Int) where
 x:Int
 y:Int
 gx:Bg
 gy:Bg
 hy:0<y
 e:Rat.divInt x y=Rat.divInt a b
 sx:sz x<=1000000000
 sy:sz y<=1000000000
def Pv(x:Int):(Rat.divInt x 1).num=x/\(Rat.divInt x 1).den=1:=by
 rw[Rat.num_divInt,Rat.den_divInt];simp
def VR{x y:Int}(h:0<y):(Int.gcd x y:Int)≠0:=by
 have:Int.gcd x y≠0:=by rw[Ne,Int.gcd_eq_zero_iff];omega
 omega
def Ar{x y:Int}(h:0<y):sz (Int.gcd x y:Int)<=sz y:=by
 apply Kl;have:=Int.gcd_le_right x h;omega
def YJ{x y:Int}(h:0<y):(Rat.divInt x y).num=x/(Int.gcd x y:Int)/\((Rat.divInt x y).den:Int)=y/(Int.gcd x y:Int):=by
 rw[Rat.num_divInt,Rat.den_divInt,if_neg O,Int.sign_eq_one_of_pos h,Int.one_mul,Int.gcd_comm y x];refine⟨rfl,?_⟩;rw[Int.natCast_ediv,Int.natAbs_of_nonneg O]
theorem IS{b:Int}(hF:Fits F w)(h:J5 F g a)(h':J5 F g' b)(hb0:b≠0)(hza:sz a<=1000000000)(hzb:sz b<=1000000000):
  YL prog 138 [g.v,g'.v] w F (Rat.divInt a b):=by
 refine QU.intro (G:=λF=>J5 F g a/\J5 F g' b) func138 rfl wy rfl rfl hF (λF' hF'=>⟨h.le hF',h'.le hF'⟩)<|QG<|QB ?_
 refine JE I (vs:=[_,_]) I (λb2=>?_);refine JE I (vs:=[_,_]) I (λb3=>?_);refine Qg KM (λb4=>?_);refine QE<|QD ?_
 refine GO (ι:=MkI a b) (λi=>[(2,.pointer (some ⟨b2,0,none⟩)),(3,.pointer (some ⟨b3,0,none⟩)),(4,.pointer (some ⟨b4,0,none⟩))]) (λi=>[(b4,.cells #[.int .i64 0,.slice none 0 0,.int .i64 0,.slice none 0 0] 95 (0,0)),(b3,.cells #[.int .i64 i.gy.s,.slice i.gy.q i.gy.n i.gy.cap] 93 (0,0)),(b2,.cells #[.int .i64 i.gx.s,.slice i.gx.q i.gx.n i.gx.cap] 93 (0,0))]) (λi F=>J5 F i.gx i.x/\J5 F i.gy i.y) ?_ ?_
 ·refine QGi<|QA (wH I Qo .u1) ?_
  refine QJ I (λw F hF ⟨ha,hb⟩=>Nz hF (by assumption)) (λ_=>?_);refine QHB 3 I ?_;refine QP I (λhc=>?_) λhc=>?_
  ·refine XN 4 QGJ mixed wm wm ?_;simp only[List.take_succ_cons,List.take_zero,List.drop_succ_cons,List.drop_zero];refine QL (wH I Qo .u2) ?_;refine Qc I (λw F hF ⟨⟨ha,hb⟩,_⟩=>AN hF (by assumption)) (λg10=>?_);refine QL (wH I Qo .u1) ?_;refine Qc I (λw F hF ⟨⟨⟨ha,hb⟩,_⟩,h10⟩=>AN hF (by assumption)) (λg12=>?_);refine KH<|QZ (vs:=[_,_]) I I I Qo I .u2 .h2 wT<|QZ (vs:=[_,_]) I I I Qo I .u1 .h2 wT<|QE ?_
   have hb1:b<0:=(Yp b).1 (by simpa using hc);exact Xj (⟨-a,-b,g10,g12,O,Rat.neg_divInt_neg a b,by rw[K9];exact hza,by rw[K9];exact hzb⟩:MkI a b) wU QGJ λ_ ⟨⟨_,h10⟩,h12⟩=>⟨h10,h12⟩
  refine QM ?_;have hb1:¬b<0:=mt (Yp b).2 (by simpa using hc);exact Xj (⟨a,b,g,g',O,rfl,hza,hzb⟩:MkI a b) wU QGJ tA
 intro i;refine QG ?_;refine Xe _ (λw _ f k=>(k.2 w f.r).one) (λp1=>?_);refine Hb 20 (.bool (decide (i.y=1))) ?_ ?_
 ·refine QB<|QA (QH I EU GQ)<|QA (Qh I GQ .u1 (.skip .h1))<|QA (Wn I I Vj)<|QF5 I ?_
  refine Qe (t:=16) rfl (λhb16=>?_) λhb16=>?_
  ·refine QK I I<|QA (QH I Pk Qu)<|QK I I<|QA (Qh I Qu .u1 .h1)<|wB 4 I ?_
   exact Xn (exd 9 rfl rfl) (congrArg (λb=>some (Value.bool b)) (p1.1 hb16)) QGJ w9
  refine wB 5 I ?_;exact Xn (exd 9 rfl rfl) (congrArg (λb=>some (Value.bool b)) (p1.2 hb16).symm) QGJ w9
 refine QP I (λhc=>?_) λhc=>?_
 ·refine QGi<|QA (wH I Qo .u2)<|QA (wH I Qo .u1)<|QA (XL I U2 KM (.cons (vs:=[_,_]) I I I .h2 (.cons (vs:=[_,_]) I I I (.skip (.skip .h2)) .nil)))<|QZ (vs:=[_,_,_,_]) I I I Ql I .here .h4 wV<|QF4<|QT ?_
  exact QO (⟨i.gx,i.gy⟩) I (.Jv (c:=[_,_,_,_]) I Ql .here .nil) rfl λF ⟨ha,hb⟩=>(by have h1:i.y=1:=(by simpa using hc);have e:=Pv i.x;rw[<-i.e,h1];exact⟨by rw[e.1];exact ha,by rw[e.2];have hb1:=hb;rw[h1]at hb1;exact hb1⟩)
 refine QHC 4 I<|QA (wH I Qo .u2)<|QA (wH I Qo .u1) ?_
 refine QJ I (λ_ _ f k=>dE f k.1 k.2 i.sx i.sy) (λg26=>?_);refine Qg GY (λb5=>?_);refine QZ (vs:=[_,_]) I I I Qo I .here .h2 wT<|QF4<|QG<|JL (.cons_cons _ (.cons _ tC)) mixed wm<|QL (wH I Qo .u2)<|QL (wH I Qo .here) ?_
 refine Qc I (λ_ _ f k=>gL f k.1.1 k.2 (VR i.hy) (Int.gcd_dvd_left ..) i.sx (Nat.le_trans (Ar i.hy) i.sy)) (λg29=>?_);refine QL (wH I Qo .u1)<|QL (wH I Qo .here) ?_
 refine Qc I (λ_ _ f k=>gL f k.1.1.2 k.1.2 (VR i.hy) (Int.gcd_dvd_right ..) i.sy (Nat.le_trans (Ar i.hy) i.sy)) (λg32=>?_);refine QL (XL I U2 KM (.cons (vs:=[_,_]) I I I .h2 (.cons (vs:=[_,_]) I I I (.skip (.skip .h2)) .nil)))<|Ji (vs:=[_,_,_,_]) I I I Ql I .u1 tC (λ_ h=>h.1.1) .h4 wV<|Q3<|QD<|QT ?_
 exact QO (⟨g29,g32⟩) I (.Jv (c:=[_,_,_,_]) I Ql .u1 .nil) rfl λF h9=>(by have e:=YJ (x:=i.x) i.hy;rw[<-i.e];exact⟨by rw[e.1];exact h9.1.2,by rw[e.2];exact h9.2⟩)
theorem S3{a:Int}(hF:Fits F w)(h:J5 F g a):YL prog 136 [g.v] w F (a:Rat):=by
 refine QU.intro (G:=λF=>J5 F g a) func136 rfl wy rfl rfl hF (λF' hF'=>h.le hF')<|QG<|QB ?_
 refine JE I (vs:=[_,_]) I (λb1=>?_);refine Qg KM (λb2=>?_);refine QF4<|QG<|JL (.cons _ tC) mixed wm<|QL (wH I Qo .here) ?_
 refine Qc I (λ_ _ f k=>Oi f O O) (λg4=>?_);refine QL (XL I U2 KM (.cons (vs:=[_,_]) I I I .h2 (.cons (vs:=[_,_]) I I I (.skip (.skip .h2)) .nil)))<|Ji (vs:=[_,_,_,_]) I I I Ql I .here tC tA .h4 wV<|Q3<|QD<|QT ?_
 exact QO (⟨g,g4⟩) I (.Jv (c:=[_,_,_,_]) I Ql .here .nil) rfl λF h9=>⟨h9.1,h9.2⟩
theorem f_g{n:Int}(hF:Fits F w)(h0 : -9223372036854775808<=n)(h1:n<=9223372036854775807):YL prog 93 [.int .i64 n] w F (n:Rat):=by
 refine QU.intro (G:=λF=>True) func93 rfl wy rfl rfl hF w8<|QG<|QB ?_
 refine Qg KM (λb2=>?_);refine QHB 5 I ?_;refine QJ I (λ_ _ f _=>Oi f O O) (λg4=>?_);refine QJ I (λw F hF ⟨_,h4⟩=>S3 hF (by assumption)) (λx5=>?_);refine QZ (vs:=[_,_,_,_]) I I I Ql I .here .h4 wV<|QF4<|QT ?_
 exact QO (_) rfl (.Jv (c:=[_,_,_,_]) I Ql .here .nil) rfl λF ⟨⟨_,h4⟩,⟨h5,h5_⟩⟩=>⟨‹_›,‹_›⟩
theorem En{x:Fr}{r:Rat}(hF:Fits F w)(h:Jz F x r):Qb prog 47 [x.v] w F (.int .i64 (EF r.num)):=by
 refine QU.intro (G:=λF=>Jz F x r) func47 rfl wy rfl rfl hF (λF' hF'=>h.le hF')<|QG<|QB ?_
 refine JE I (vs:=[_,_,_,_]) I (λb1=>?_);refine QHB 5 I<|QA (QH I KA Qo)<|QA (wH I Qo .here) ?_
 refine QJ I (λ_ _ f k=>Nz (g:=x.n) f k.1) (λ_=>?_);refine wQ I<|QT ?_
 exact QHT I I I w8
theorem EP{x:Fr}{r:Rat}(hF:Fits F w)(h:Jz F x r):Qb prog 135 [x.v] w F (.bool (decide ((r.den:Int)=1))):=by
 refine QU.intro (G:=λF=>Jz F x r) func135 rfl wy rfl rfl hF (λF' hF'=>h.le hF') ?_;refine Xe _ (λw _ f h=>(h.2 w f.r).one) (λp1=>?_);refine QG<|QB ?_
 refine JE I (vs:=[_,_,_,_]) I (λb1=>?_);refine QHB 5 I<|QA (QH I Y9 Qo)<|QA (QH I EU GQ)<|QA (Qh I GQ .here (.skip (.skip (.skip .h1))))<|QA (Wn I I Vj)<|QF5 I ?_
 refine Qe (t:=7) rfl (λhb7=>?_) λhb7=>?_
 ·refine QK I I<|QA (QH I Y9 Qo)<|QK I I<|QA (QH I Pk Qu)<|QK I I<|QA (Qh I Qu .here (.skip (.skip .h1)))<|QHB 7 I ?_
  exact QHT I I (by show Value.bool _=Value.bool _;rw[<-p1.1 hb7];first | rfl | skip) w8
 refine QHB 9 I ?_;exact QHT I I (congrArg Value.bool (p1.2 hb7)) w8
@[reducible] def tx (l:List UInt8):Value:=.string ⟨l.toArray⟩
theorem YW(l:List UInt8):(⟨l.toArray⟩:ByteArray).size=l.length:=by simp[ByteArray.size]
def Hf(l:List UInt8):(⟨l.toArray⟩:ByteArray).toList=l:=by rw[ByteArray.toList_eq]
def OK(a b:List UInt8):(⟨a.toArray⟩++⟨b.toArray⟩:ByteArray)=⟨(a++b).toArray⟩:=by
 apply ByteArray.ext;simp
def Fo(l:List UInt8)(i j:Nat):(⟨l.toArray⟩:ByteArray).extract i j=⟨((l.take j).drop i).toArray⟩:=by
 apply ByteArray.ext;simp only[ByteArray.data_extract,List.extract_toArray,List.extract_eq_take_drop];rw[Array.mk.injEq,List.drop_take]
section
variable{P:Program}{N:Nat}{m:Sl}{Y:World->Prop}{ty:TypeId}
def Xd{T:TypeId}{a b:List UInt8}(hx:ev m x=some (tx a))(hy:ev m y=some (tx b))(h:a.length+b.length<=9223372036854775807):Qt P N m Y (.binOp .add T x y yT) ty (tx (a++b)):=by
 have:=jO (P:=P) (N:=N) (m:=m) (S:=Y) (ty:=ty) (T:=T) (yT:=yT) hx hy (by rw[YW,YW];omega);rw[OK]at this;exact this
def Y6{T:TypeId}{a b:List UInt8}(hx:ev m x=some (tx a))(hy:ev m y=some (tx b)):Qt P N m Y (.binOp .eql T x y yT) ty (.bool (a==b)) :=
 QN hx hy (by show some (Value.bool (ByteArray.toList _==ByteArray.toList _))=_;rw[Hf,Hf])
def TL{T:TypeId}{a b:List UInt8}(hx:ev m x=some (tx a))(hy:ev m y=some (tx b)):Qt P N m Y (.binOp .neq T x y yT) ty (.bool (!(a==b))) :=
 QN hx hy (by show some (Value.bool (!(ByteArray.toList _==ByteArray.toList _)))=_;rw[Hf,Hf])
def Js{T:TypeId}{a:List UInt8}(hx:ev m x=some (tx a))(hT:Gw P T=true):Qt P N m Y (.call ⟨.builtin .len,#[x],#[T]⟩) ty (.int .i64 a.length):=by
 have:=jL (P:=P) (N:=N) (S:=Y) (ty:=ty) hx hT;rw[YW]at this;exact this
def Y5{T:TypeId}{a:List UInt8}{i:Nat}(hx:ev m x=some (tx a))(hy:ev m y=some (.int .i64 (i:Int)))(hT:Gw P T=true)(hi:i<a.length):Qt P N m Y (.index T x y) ty (.int .u8 (a[i].toNat:Int)):=by
 have:=jM (P:=P) (N:=N) (S:=Y) (ty:=ty) hx hy hT (by rw[YW];exact hi);simpa using this
def DU{T:TypeId}{lo hi:Option Operand}{vl vh:Option Value}{a:List UInt8}(l h:Nat)(hx:ev m x=some (tx a))(el:Fg m lo=some vl)(eh:Fg m hi=some vh)(hT:Gw P T=true)
  (hlo:(vl=none/\l=0)\/vl=some (.int .i64 (l:Int))) (hhi:(vh=none/\h=a.length)\/vh=some (.int .i64 (h:Int))) (h1:l<=h) (h2:h<=a.length):Qt P N m Y (.slice T x lo hi none) ty (tx ((a.take h).drop l)):=by
 have:=IB (P:=P) (N:=N) (S:=Y) (ty:=ty) hx el eh hT hlo (by rw[YW];exact hhi) h1 (by rw[YW];exact h2);rw[Fo]at this;exact this
def WK{T:TypeId}{hi:Option Operand}{vh:Option Value}{a:List UInt8}(h:Nat)(hx:ev m x=some (tx a))(eh:Fg m hi=some vh)(hT:Gw P T=true)(hhi:vh=some (.int .i64 (h:Int)))(h2:h<=a.length):Qt P N m Y (.slice T x none hi none) ty (tx (a.take h)) :=
 DU (P:=P) (N:=N) (m:=m) (Y:=Y) (ty:=ty) (lo:=none) (vl:=none) 0 h hx rfl eh hT (.inl ⟨rfl,rfl⟩) (.inr hhi) (Nat.zero_le _) h2
def Zy{T:TypeId}{lo:Option Operand}{vl:Option Value}{a:List UInt8}(l:Nat)(hx:ev m x=some (tx a))(el:Fg m lo=some vl)(hT:Gw P T=true)(hlo:vl=some (.int .i64 (l:Int)))(h1:l<=a.length):Qt P N m Y (.slice T x lo none none) ty (tx (a.drop l)):=by
 have:=DU (P:=P) (N:=N) (m:=m) (Y:=Y) (ty:=ty) (hi:=none) (vh:=none) l a.length hx el I hT (.inr hlo) (.inl ⟨rfl,rfl⟩) h1 (Nat.le_refl _);rw[List.take_length]at this;exact this
end
def JG(F:Gs):Prop:=(∃m T,F 0=some (#[.int .i64 m],T))/\∃T,F 5=some ((Lib.pow10Tab.map λz=>Value.int .u64 z).toArray,T)
theorem JG.le(h:JG F)(k:Gs.le F F'):JG F':=by
 obtain⟨⟨m,T,h1⟩,T',h2⟩:=h;exact⟨⟨m,T,k _ _ h1⟩,T',k _ _ h2⟩
theorem JG.max(hF:Fits F w)(h:JG F):∃m,w.cell? ⟨0,0,none⟩=some (.int .i64 m):=by
 obtain⟨⟨m,T,h1⟩,_⟩:=h;obtain⟨fr,e⟩:=hF.row _ _ _ h1;exact⟨m,by simp[World.cell?,e]⟩
theorem JG.Fc(hF:Fits F w)(h:JG F):Lib.TabIs prog w "internal/strconv.uint64pow10" .u64 Lib.pow10Tab:=by
 obtain⟨_,T,h2⟩:=h;obtain⟨fr,e⟩:=hF.row _ _ _ h2;have hg:prog.globalNamed "internal/strconv.uint64pow10" = some 5:=wm;unfold Lib.TabIs World.var?;rw[hg];simp only[Option.bind_some,e]
theorem P6(w:World)(e:TypeId)(s:ByteArray):Ext w (Lib.bytesWorld w e s) :=
 ⟨rfl,rfl,rfl,by rw[Lib.bytesWorld_size];omega,λk hk=>Lib.bytesWorld_at_old w e s k hk⟩
theorem Ao(w:World)(os:Array Obj):Ext w (Sort.grow w os) :=
 ⟨rfl,rfl,rfl,by simp[Sort.grow],λk hk=>by
  show(w.heap++os)[k]?=_;rw[Array.getElem?_append,if_pos hk]⟩
section
variable{w:World}{F:Gs}
theorem dM(hF:Fits F w)(hG:JG F){s p:List UInt8}(hs:s.length<4294967281):Qb prog 201 [tx s,tx p] w F (.tuple #[tx (Lib.cut s p).1,tx (Lib.cut s p).2.1,.bool (Lib.cut s p).2.2]):=by
 obtain⟨m,hm⟩:=hG.max hF;refine .of (enters_of func201 wy rfl) hF ((strings_Cut ⟨s.toArray⟩ ⟨p.toArray⟩ m w (by rw[YW];exact hs) hm).mono ?_);rintro e w' ⟨h1,n,rfl⟩;exact⟨h1,(Ext.refl w).drewN n⟩
theorem FH(hF:Fits F w){s p:List UInt8}:Qb prog 202 [tx s,tx p] w F (.tuple #[tx (Lib.trimPrefix s p),.bool (Lib.hasPrefix s p)]):=by
 refine .of (enters_of func202 wy rfl) hF ((strings_CutPrefix ⟨s.toArray⟩ ⟨p.toArray⟩ w).mono ?_);rintro e w' ⟨h1,rfl⟩;exact⟨h1,Ext.refl _⟩
theorem Al(hF:Fits F w){s p:List UInt8}:Qb prog 284 [tx s,tx p] w F (.bool (Lib.hasPrefix s p)):=by
 refine .of (enters_of func284 wy rfl) hF ((strings_HasPrefix ⟨s.toArray⟩ ⟨p.toArray⟩ w).mono ?_);rintro e w' ⟨h1,rfl⟩;exact⟨h1,Ext.refl _⟩
theorem DB(hF:Fits F w){s p:List UInt8}:Qb prog 285 [tx s,tx p] w F (tx (Lib.trimPrefix s p)):=by
 refine .of (enters_of func285 wy rfl) hF ((strings_TrimPrefix ⟨s.toArray⟩ ⟨p.toArray⟩ w).mono ?_);rintro e w' ⟨h1,rfl⟩;exact⟨h1,Ext.refl _⟩
theorem jB(hF:Fits F w){s:List UInt8}{c:Nat}(hc:s.length*c<=140737488355328)(hc':c<=140737488355328):Qb prog 323 [tx s,.int .i64 c] w F (tx (Lib.repeatL s c)):=by
 refine .of (enters_of func323 wy rfl) hF ((strings_Repeat ⟨s.toArray⟩ c w O (by rw[YW];exact hc)).mono ?_);rintro e w' ⟨h1,h2⟩;exact⟨h1,h2⟩
theorem ua(hF:Fits F w){s:List UInt8}{n:Int}(hl:s.length<=18)(h:Lib.atoi s=some n):Qb prog 286 [tx s] w F (.tuple #[.int .i64 n,.nilIface]):=by
 refine .of (enters_of func286 wy rfl) hF ((strconv_Atoi ⟨s.toArray⟩ n (by rw[YW];exact hl) h w).mono ?_);rintro e w' ⟨h1,t,rfl⟩;exact⟨h1,P6 _ _ _⟩
theorem xB(hF:Fits F w)(hG:JG F){n:Int}(h0 : -9223372036854775808<=n)(h1:n<=9223372036854775807):Qb prog 303 [.int .i64 n] w F (tx (Lib.itoa n)):=by
 refine .of (enters_of func303 wy rfl) hF ((strconv_Itoa n h0 h1 w (hG.Fc hF)).mono ?_);rintro e w' ⟨h1,k,os,rfl⟩;exact⟨h1,((Ext.refl w).drewN k).trans (Ao _ _)⟩
theorem kJ(hF:Fits F w){x:Int}(h0:0<=x)(h1:x<=18446744073709551615):Qb prog 250 [.int .u64 x] w F (.int .i64 (Lib.bitLen x.toNat)):=by
 refine .of (enters_of func250 wy rfl) hF ((bits_Len64 x w h0 h1).mono ?_);rintro e w' ⟨h1,rfl⟩;exact⟨h1,Ext.refl _⟩
theorem Dq[Dr](hF:Fits F w){x y:Int}:Qb prog 144 [.int .i64 x,.int .i64 y] w F (.int .i64 (Lib.compareInt x y)):=by
 refine QU.same (enters_of func144 wy rfl) hF (cmp_Compare_int x y w)
end
section
variable[Dr][df:Df]
section
variable{P:Program}{Q:Exit->Act->World->Prop}{N:Nat}{m:Sl}{E E0:Env}{ops:Array Oper}{l:List Oper}{w0:World}{F0:Gs}{bs:List (Nat×Obj)}{G:Gs->Prop}
theorem St.perm(h:St ⟨w0,F0,bs,G⟩ w)(hp:bs.Perm bs'):St ⟨w0,F0,bs',G⟩ w:=by
 obtain⟨F,h⟩:=h;exact⟨F,h.le,h.old,h.fits,h.ext,λk hk=>h.bx k (hp.mem_iff.2 hk),(hp.map _).nodup_iff.1 h.nd,h.g⟩
def J8(P:Program)(f:FuncId)(args:List Value)(E:Env){γ:Type}(val:γ->Value)(E':γ->Env):Prop :=
 Enters P f/\∀w,St E w->Calls P f args.toArray w λe w'=>∃c,e = .returned (val c)/\St (E' c) w'
def EPost{γ:Type}(val:γ->Value)(E':γ->Env)(e:Ending)(w':World):Prop:=∃c,e = .returned (val c)/\St (E' c) w'
section
variable{d:Nat}{ty:TypeId}{pos:String}{aft:Array Edge}{f:FuncId}{args:Array Operand}{tys:Array TypeId}{vs:List Value}{γ:Type}{val:γ->Value}{E':γ->Env}{bs1:List (Nat×Obj)}
theorem Ch{c1 c2:List Value}(hx:ev m x=some (.func (.func f) c1.toArray c2.toArray))(hv:MW m args.toList=some vs)(hp:bs.Perm bs1)(hc:J8 P f (c1++vs++c2) ⟨w0,F0,bs1,G⟩ val E')
  (k:∀c,JS P ops Q l N ((d,val c)::m) (E' c)) (hd:J6 N (some d)=true:=by rfl):JS P ops Q (⟨some d,.call ⟨.value x,args,tys⟩,ty,pos,aft,none⟩::l) N m ⟨w0,F0,bs,G⟩:=by
 intro a w ha hw;refine wpList_plain rfl λK hK=>?_;unfold Oper.wp;rw[W7 hc.1 (ha.ev hx)];have e:c1.toArray++args.map a.eval++c2.toArray=(c1++vs++c2).toArray:=by
  have:=ha.MW hv;have e2:args.map a.eval=vs.toArray:=by rw[<-this];apply Array.ext' ;simp
  rw[e2];apply Array.ext';simp
 simp only[Oper.upon];rw[e];refine(hc.2 w (hw.perm hp)).mono ?_;rintro e w' ⟨c,rfl,h⟩;exact hK _ _ (k c _ w' (ha.put hd (val c)) h)
theorem XA(hv:MW m args.toList=some vs)(hp:bs.Perm bs1)(hc:J8 P f vs ⟨w0,F0,bs1,G⟩ val E')
  (k:∀c,JS P ops Q l N ((d,val c)::m) (E' c)) (hd:J6 N (some d)=true:=by rfl):JS P ops Q (⟨some d,.call ⟨.value (.func f),args,tys⟩,ty,pos,aft,none⟩::l) N m ⟨w0,F0,bs,G⟩ :=
 Ch (x:=.func f) (c1:=[]) (c2:=[]) I hv hp (by simpa using hc) k hd
theorem RE{bs0:List (Nat×Obj)}(hv:MW m args.toList=some vs)(hp:bs.Perm bs1)(hc:J8 P f vs ⟨w0,F0,bs1,G⟩ val E')(h0:∀c w,St (E' c) w->St ⟨w0,F0,bs0,G0⟩ w)
  (k:∀c,JD P ops Q ⟨w0,F0,bs0,G0⟩ l N ((d,val c)::m) (E' c)) (hd:J6 N (some d)=true:=by rfl):JD P ops Q ⟨w0,F0,bs0,G0⟩ (⟨some d,.call ⟨.value (.func f),args,tys⟩,ty,pos,aft,none⟩::l) N m ⟨w0,F0,bs,G⟩:=by
 intro hE a w ha hw;refine .inr ⟨rfl,?_⟩;rw[if_pos (by simp[Region.wanted])];unfold Oper.wp;rw[W7 (c1:=#[]) (c2:=#[]) hc.1 (ha.ev (x:=.func f) rfl)];have e:#[]++args.map a.eval++#[]=vs.toArray:=by
  have:=ha.MW hv;have e2:args.map a.eval=vs.toArray:=by rw[<-this];apply Array.ext' ;simp
  rw[e2];apply Array.ext';simp
 simp only[Oper.upon];rw[e];refine(hc.2 w (hw.perm hp)).mono ?_;rintro e w' ⟨c,rfl,h⟩;exact⟨h0 c w' h,k c (h0 c) _ w' (ha.put hd (val c)) h⟩
theorem St.last(hF:Fits F0 w0)(h:St ⟨w0,F0,bs,G⟩ w)(hb:Below w0.heap.size w w')(hd:Dr.on->w.drawn<=w'.drawn):St ⟨w0,F0,[],λF=>Gs.le F0 F⟩ w':=by
 obtain⟨F,h⟩:=h;have hx:Ext w0 w':=⟨hb.os.trans h.ext.os,hb.tape.trans h.ext.tape,hb.output.trans h.ext.output,Nat.le_trans h.ext.size hb.size,λk hk=>(hb.block k hk).trans (h.ext.block k hk)⟩;have hle:Gs.le F0 (λb=>if b<w0.heap.size then F0 b else match w'.heap[b]? with | some (.cells c T _)=>if T=289 then some (c,289)else none | _=>none):=by
  intro b x hb;show(if b<w0.heap.size then _ else _)=_;rw[if_pos (hF.lt hb)];exact hb
 refine⟨_,hle,?_,⟨?_,?_⟩,⟨hx,λd=>Nat.le_trans (h.ext.dr d) (hd d)⟩,λ_ h=>(by cases h),List.nodup_nil,λF' h'=>Gs.le_trans hle h'⟩
 ·intro b hb;show(if b<w0.heap.size then _ else _)=_;rw[if_pos hb]
 ·intro b c T hb;by_cases hlt:b<w0.heap.size
  ·rw[if_pos hlt]at hb;obtain⟨fr,e⟩:=hF.row b c T hb;exact⟨fr,by rw[hx.block b hlt];exact e⟩
  rw[if_neg hlt]at hb;split at hb
  ·rename_i c' T' fr heq;split at hb
   ·rename_i hT;cases hb;exact⟨fr,by rw[heq,hT]⟩
   cases hb
  cases hb
 intro b c fr hb;show(if b<w0.heap.size then _ else _)=_;by_cases hlt:b<w0.heap.size
 ·rw[if_pos hlt];rw[hx.block b hlt]at hb;exact hF.all b c fr hb
 rw[if_neg hlt,hb];simp
theorem MU{v:Value}(hF:Fits F0 w0)(hv:MW m args.toList=some vs)(he:Enters P f)(hc:∀w,St ⟨w0,F0,bs,G⟩ w->Calls P f vs.toArray w λe w'=>e = .returned v/\Below w0.heap.size w w')
  (k:JS P ops Q l N ((d,v)::m) ⟨w0,F0,[],λF=>Gs.le F0 F⟩) (hd:J6 N (some d)=true:=by rfl) (hn:¬Dr.on:=by exact id):JS P ops Q (⟨some d,.call ⟨.value (.func f),args,tys⟩,ty,pos,aft,none⟩::l) N m ⟨w0,F0,bs,G⟩ :=
 XA (γ:=Unit) (val:=λ_=>v) (E':=λ_=>⟨w0,F0,[],λF=>Gs.le F0 F⟩) hv (List.Perm.refl _) ⟨he,λw hw=>(hc w hw).mono λ_ _ ⟨h1,h2⟩=>⟨(),h1,hw.last hF h2 λd=>absurd d hn⟩⟩ (λ_=>k) hd
end
omit [Df] in
theorem J8.intro{f:FuncId}{c:Code}{val:γ->Value}{E':γ->Env}(hf:P.funcs[f]?=some fn)(hb:fn.body=some c)(hn:(fn.name == "runtime.NumGoroutine")=false)(hN:fn.ntmps=N)(hl:Nat.ble args.length N=true)
  (h:J (df:=WM) P c (bodyPost P fn (EPost val E')) N (P8 0 args) E):J8 P f args E val E':=by
 refine⟨enters_of hf hn (by rw[hb];rfl),λw hw=>calls_of_wp hf hb (h _ w ⟨?_,rfl,λt v ht=>?_⟩ hw)⟩
 ·have:=Nat.le_of_ble_eq_true hl
  simp[hN];omega
 obtain⟨_,h2⟩:=GH args 0 t v ht
 have hlt:t<args.length:=by rcases Nat.lt_or_ge t args.length with g | g;exact g;rw[Nat.sub_zero,List.getElem?_eq_none g]at h2;cases h2
 simp only[Nat.sub_zero]at h2
 rw[Array.getElem?_append,if_pos (by simpa using hlt)]
 simpa using h2
omit [Df] in
theorem Z2{val:γ->Value}{E':γ->Env}{rs:List ResultVar}{vs:List Value}(c:γ)(hrs:fn.results=rs.toArray)(h:Dw P m bs rs vs)(hv:val c=(match vs with | [v]=>v | vs=>.tuple vs.toArray))(hg:∀w,St ⟨w0,F0,bs,G⟩ w->St (E' c) w):Fin (df:=WM) (bodyPost P fn (EPost val E')) .ret N m ⟨w0,F0,bs,G⟩:=λa w ha hw =>
 ⟨ha.df,val c,by rw[hv];exact Gz hrs h ha hw,c,rfl,hg w hw⟩
omit [Df] in
theorem Ej{val:γ->Value}{E':γ->Env}(h:Fin (df:=WM) (bodyPost P fn (EPost val E')) .ret N m E):Fin (df:=WM) (bodyPost P fn (EPost val E')) .normal N m E:=h
theorem X1(hp:bs.Perm bs')(k:JS P ops Q l N m ⟨w0,F0,bs',G⟩):JS P ops Q l N m ⟨w0,F0,bs,G⟩:=λa w ha hw=>k a w ha (hw.perm hp)
theorem QCN{c:Code}(hp:bs.Perm bs')(k:J P c Q N m ⟨w0,F0,bs',G⟩):J P c Q N m ⟨w0,F0,bs,G⟩:=λa w ha hw=>k a w ha (hw.perm hp)
theorem QCW{e:Exit}(hp:bs.Perm bs')(k:Fin Q e N m ⟨w0,F0,bs',G⟩):Fin Q e N m ⟨w0,F0,bs,G⟩:=λa w ha hw=>k a w ha (hw.perm hp)
theorem Src.OV{sz c:Nat}{news:List Value}{T:TypeId}(hm:(b,Obj.cells news.toArray T fr)∈bs)(hl:news.length=k*sz):Src ⟨w0,F0,bs,G⟩ sz (.slice (.some ⟨b,0,none⟩) k c) k news :=
 ⟨hl,.inr ⟨_,_,rfl,λw hw j v hv=>by
  obtain⟨F,hw⟩:=hw;rw[Yj,Xt (hw.bx _ hm).1,Nat.zero_add];exact hv⟩⟩
theorem vZ{o:Op}{pos:String}{v:Value}{E':Env}(h:∀a w,JY N m a->St E w->∃w',(execOp a.eval ⟨some d,o,ty,pos,aft,none⟩).run P w = .ok (.value v) w'/\St E' w')(k:JS P ops Q l N ((d,v)::m) E')(hd:J6 N (some d)=true:=by rfl):
  JS P ops Q (⟨some d,o,ty,pos,aft,none⟩::l) N m E:=λa w ha hw=>wpList_plain rfl λK hK=>by
 obtain⟨w',h1,h2⟩:=h a w ha hw;exact upon_value h1 (hK _ _ (k _ w' (ha.put hd v) h2))
theorem jI{T:TypeId}{p:Option Addr}{Y:World->Prop}(hx:ev m x=some (.pointer p))(hy:ev m y=some (.pointer none))(hT:P.underlying T=some (.pointer (P.pointee T))):Qt P N m Y (.binOp .eql T x y yT) ty (.bool p.isNone):=λa w _ _ _ _ ha _=>by
 have:=run_eql_pointer_nil (P:=P) (w:=w) T p hT;simp[execOp,ha.ev hx,ha.ev hy,eqGuard,this]
theorem RY{t u e:TypeId}{i:TypeInfo}{x:Value}(ht:BU P t=some e)(hu:P.underlying u=some .string)(hi:P.info? e=some i)(hz:i.zero=some (.int .u8 0))(hsz:i.size=1)(hby:i.bytes=1)
  (hr:Q6 e 1 x n olds ob) (hw:St ⟨w0,F0,ob++bs,G⟩ w) (h47:n+s.length<=140737488355328) (hU:Ga e=true) :
  ∃v' ob' w',(Builtin.append_ #[t,u] ty #[x,tx s]).run P w = .ok v' w'/\Q6 e 1 v' (n+s.length) (olds++Lib.byteCells s) ob'/\St ⟨w0,F0,ob'++bs,G⟩ w':=by
 have hu':∀c fr c' fr',Obj.cells c e fr≠.cells c' 289 fr':=λc fr=>Xy hU;have hsl:(⟨s.toArray⟩:ByteArray).size=s.length:=YW s;have hbl:(Lib.byteCells s).length=s.length:=Lib.byteCells_length s;have hzc:∀q,(Builtin.zeroCells (Value.int .u8 0).cells q).toList.length=q:=λq=>by simp[Builtin.zeroCells,Value.cells]
 have new:∀ {w':World} (l rest:List Value) (cap:Nat) (bs':List (Nat×Obj)),St ⟨w0,F0,bs',G⟩ w'->bs.Sublist bs'->l.length=n+s.length->l.length+rest.length=cap->n+s.length<=cap->cap<=maxLen ->
   ∃ob',Q6 e 1 (.slice (some ⟨w'.heap.size,0,none⟩) (n+s.length) cap) (n+s.length) l ob'/\St ⟨w0,F0,ob'++bs,G⟩ (w'.alloc (.cells (l++rest).toArray e)):=by
  intro w' l rest cap bs' hw' hsub h2 h3 h4 h5;exact⟨_,.some O O h4 h5,(hw'.imp hsub λ_ h=>h).alloc _ (hu' _ _)⟩
 cases hr with
 |nil =>
  simp only[Nat.zero_add,List.nil_append]at *
  by_cases hm:s.length=0
  ·have hs0:s=[]:=List.eq_nil_of_length_eq_zero hm;subst hs0;refine⟨.slice none 0 0,[],w,?_,.nil,hw⟩;have hf:=Lib.run_firstCells_string (P:=P) w 1 ⟨#[]⟩;have hf':(Builtin.firstCells 1 0 (tx [])).run P w = .ok #[] w:=by simpa[ByteArray.size,Lib.strCells]using hf
   simp[Builtin.append_,run_underlying (JU ht),run_underlying hu,sizeOf,typeInfo,hi,hsz,Builtin.lenOf,ByteArray.size,hf']
  have hrun:=run_append_nil_string (P:=P) (w:=w) t u ty e i (.int .u8 0) (JU ht) hu hi hz ⟨s.toArray⟩ O O (by rw[hby];omega);rw[hsl]at hrun;have hge:=grownCap_ge w s.length 0 e;obtain⟨ob',h2,h3⟩:=new (Lib.byteCells s) (Builtin.zeroCells (Value.int .u8 0).cells (grownCap w s.length 0 e-s.length)).toList (grownCap w s.length 0 e) bs hw.drew QGJ hbl (by rw[hzc,hbl];omega) hge (grownCap_le_maxLen w s.length 0 e (by simp only[maxLen];omega));refine⟨_,ob',_,hrun,h2,?_⟩;have e1:(Lib.byteCells s++(Builtin.zeroCells (Value.int .u8 0).cells (grownCap w s.length 0 e-s.length)).toList).toArray=((⟨s.toArray⟩:ByteArray).data.map λb=>Value.int .u8 b.toNat)++Builtin.zeroCells (Value.int .u8 0).cells (grownCap w s.length 0 e-s.length):=by apply Array.ext';simp[Lib.byteCells]
  rw[e1]at h3;exact h3
 |some g1 g2 g3 g4 =>
  rename_i b cap rest;have hbw:w.heap[b]?=some (.cells (olds++rest).toArray e (0,0)):=hw.own (f:=λo'=>(b,o')::bs) .here;have hol:olds.length=n:=O;by_cases hroom:n+s.length<=cap
  ·have hrun:=Lib.run_append_room_string (P:=P) w t u ty e i (JU ht) hu hi hsz b n cap _ hbw ⟨s.toArray⟩ O w6;rw[hsl]at hrun;have e1:((olds++rest).toArray.toList.take n++Lib.strCells ⟨s.toArray⟩++(olds++rest).toArray.toList.drop (n+s.length))=olds++Lib.byteCells s++rest.drop s.length:=by
    rw[Lib.strCells_eq];simp only[List.append_assoc];rw[<-hol];simp[List.drop_append]
   rw[e1]at hrun;refine⟨_,[(b,.cells (olds++Lib.byteCells s++rest.drop s.length).toArray e (0,0))],_,hrun,.some ?_ ?_ hroom g4,?_⟩
   ·rw[List.length_append,hbl];omega
   ·rw[List.length_append,List.length_drop,hbl];omega
   have hlt:b<w.heap.size:=(Array.getElem?_eq_some_iff.1 hbw).1;refine St.write (o:=.cells (olds++rest).toArray e (0,0)) [] hw ⟨?_,rfl,rfl,rfl,rfl⟩ (hu' _ _);apply Array.ext_getElem?;intro j;rw[Array.getElem?_setIfInBounds];by_cases hj:b=j
   ·subst hj;rw[if_pos rfl,if_pos hlt,setRow_heap w b _ _ e _ hbw]
   rw[if_neg hj,setRow_other w b j _ (λe=>hj e.symm)]
  have hold:∀j v,olds[j]?=some v->w.cell? ((⟨b,0,none⟩:Addr).add j)=some v:=λj v hv=>by
   rw[Yj,Nat.zero_add,Xt hbw,List.getElem?_append];have:j<olds.length:=by rcases Nat.lt_or_ge j olds.length with q | q;exact q;rw[List.getElem?_eq_none q]at hv;cases hv
   rw[if_pos this];exact hv
  have hrun:=Lib.run_append_grow_string (P:=P) w t u ty e i (.int .u8 0) (JU ht) hu hi hz ⟨b,0,none⟩ n cap olds (by rw[hsz];omega) hold ⟨s.toArray⟩ O O (by rw[hby];exact growslice_fits O O);rw[hsl]at hrun;have hge:=grownCap_ge w (n+s.length) cap e;obtain⟨ob',h2,h3⟩:=new (olds++Lib.byteCells s) (Builtin.zeroCells (Value.int .u8 0).cells (grownCap w (n+s.length) cap e-(n+s.length))).toList (grownCap w (n+s.length) cap e) _ hw.drew (List.sublist_cons_self _ _) (by rw[List.length_append,hbl];omega) (by rw[hzc,List.length_append,hbl];omega) hge (grownCap_le_maxLen w (n+s.length) cap e (by simp only[maxLen];omega));refine⟨_,ob',_,hrun,h2,?_⟩;have e1:(olds++Lib.byteCells s++(Builtin.zeroCells (Value.int .u8 0).cells (grownCap w (n+s.length) cap e-(n+s.length))).toList).toArray=olds.toArray++(Lib.strCells ⟨s.toArray⟩).toArray++Builtin.zeroCells (Value.int .u8 0).cells (grownCap w (n+s.length) cap e-(n+s.length)):=by
   rw[Lib.strCells_eq];apply Array.ext';simp
  rw[e1]at h3;exact h3
theorem UA{pos:String}{t u e:TypeId}{i:TypeInfo}{X Y:Operand}{x:Value}{bs1:List (Nat×Obj)}(hx:ev m X=some x)(hy:ev m Y=some (tx s))(ht:BU P t=some e)(hu:P.underlying u=some .string)(hi:P.info? e=some i)(hz:i.zero=some (.int .u8 0))(hsz:i.size=1)(hby:i.bytes=1)
  (hr:Q6 e 1 x n olds ob) (hp:bs.Perm (ob++bs1)) (h47:n+s.length<=140737488355328)
  (kk:∀v' ob',Q6 e 1 v' (n+s.length) (olds++Lib.byteCells s) ob'->JS P ops Q l N ((d,v')::m) ⟨w0,F0,ob'++bs1,G⟩) (hU:Ga e=true:=by rfl) (hd:J6 N (some d)=true:=by rfl) :
  JS P ops Q (⟨some d,.call ⟨.builtin .append,#[X,Y],#[t,u]⟩,ty,pos,aft,none⟩::l) N m ⟨w0,F0,bs,G⟩:=λa w ha hw =>
 wpList_plain rfl λK hK=>by
  obtain⟨v',ob',w',h2,h3,h4⟩:=RY (ty:=ty) ht hu hi hz hsz hby hr (hw.perm hp) h47 hU;refine upon_value (w':=w') (v:=v') ?_ (hK _ _ (kk v' ob' h3 _ w' (ha.put hd v') h4));simp only[execOp,resolve,invoke,builtin,Sem.run_bind,Sem.run_pure,Result.andThen_ok,List.map_toArray,List.map_cons,List.map_nil,ha.ev hx,ha.ev hy,h2]
end
end
section
variable[Dr][df:Df]{P:Program}{Q:Exit->Act->World->Prop}{N:Nat}{m:Sl}{E E0:Env}{ops:Array Oper}{l:List Oper}{w0:World}{F0:Gs}{bs:List (Nat×Obj)}{G:Gs->Prop}
theorem DN{c:List Value}{T:TypeId}(h:w.heap[b]?=some (.cells c.toArray T fr)):w.shape? b=some (T,c.length):=by
 simp[World.shape?,h]
theorem IA{src dst t T':TypeId}{c:List Value}(hx:ev m x=some (.pointer (some ⟨b,off,none⟩)))(hs:P.underlying src=some (.pointer t))(hd:P.underlying dst=some .unsafePointer)(ht:(P.info? t).any (λj=>j.size != 0)=true)
  (ho:Own bs b (.cells c.toArray T' fr) f) (hoff:off<c.length):Qt P N m (St ⟨w0,F0,bs,G⟩) (.convert src dst x) ty (.pointer (some ⟨b,off,none⟩)):=λa w _ _ _ _ ha hw=>by
 obtain⟨j,hj,hjs⟩:=Option.any_eq_true .. |>.1 ht;have:=Lib.run_to_unsafe (P:=P) w ⟨b,off,none⟩ hs hd hj (by simpa using hjs) (DN (hw.own ho)) hoff;simp[execOp,ha.ev hx,this]
theorem TM{src dst t T':TypeId}{c:List Value}(hx:ev m x=some (.pointer (some ⟨b,off,none⟩)))(hs:P.underlying src=some .unsafePointer)(hd:P.underlying dst=some (.pointer t))(ht:(P.info? t).isSome=true)
  (ho:Own bs b (.cells c.toArray T' fr) f) (hl:liesAt P P.depth T' (c.length/P.cellsOf T') off t 1=true):Qt P N m (St ⟨w0,F0,bs,G⟩) (.convert src dst x) ty (.pointer (some ⟨b,off,none⟩)):=λa w _ _ _ _ ha hw=>by
 obtain⟨j,hj⟩:=Option.isSome_iff_exists.1 ht;have:=Lib.run_from_unsafe (P:=P) w ⟨b,off,none⟩ hs hd hj (DN (hw.own ho)) hl;simp[execOp,ha.ev hx,this]
theorem OZ{T t:TypeId}{p:Addr}{Y:World->Prop}(hx:ev m x=some (.pointer (some p)))(hy:ev m y=some (.pointer (some p)))(hT:P.underlying T=some (.pointer t))(ht:(P.info? t).isSome=true):Qt P N m Y (.binOp .neq T x y yT) ty (.bool false):=λa w _ _ _ _ ha _=>by
 obtain⟨j,hj⟩:=Option.isSome_iff_exists.1 ht;have:=Lib.run_neq_ptr_same (P:=P) w p hT hj;simp[execOp,ha.ev hx,ha.ev hy,eqGuard,this]
theorem Cg{pos:String}{f:FuncId}{e:Array Value->Sem Value}{args:Array Operand}{tys:Array TypeId}{vs:List Value}{v:Value}(hf:P.funcs[f]?=some fn)(hname:(fn.name == "runtime.NumGoroutine")=false)
  (hb:fn.body.isNone=true) (hn:Extern.findNext fn=none) (he:Extern.find fn=some e) (hv:MW m args.toList=some vs) (hr:∀w,(e vs.toArray).run P w = .ok v w) (k:JS P ops Q l N ((d,v)::m) E) (hd:J6 N (some d)=true:=by rfl) :
  JS P ops Q (⟨some d,.call ⟨.value (.func f),args,tys⟩,ty,pos,aft,none⟩::l) N m E :=
 vZ (λa w ha hw=>⟨w,by
  have h1:a.eval (.func f) = .func (.func f) #[] #[]:=ha.ev (x:=.func f) rfl;have e2:args.map a.eval=vs.toArray:=by rw[<-ha.MW hv];apply Array.ext';simp
  simp only[execOp,resolve,h1,Deferred.ofValue,Sem.run_bind,Sem.run_pure,Result.andThen_ok,invoke,e2];simp[run_callFunc_extern hf hname hb hn he,hr],hw⟩) k hd
end
inductive Fh(b:Nat):List UInt8->List (Nat×Obj)->Prop
 |fresh:Fh b [] [(b,.cells [Value.pointer none,.slice none 0 0].toArray 345 (0,0))]
 |used {l:List UInt8} {v:Value} {ob:List (Nat×Obj)} (hr:Q6 5 1 v l.length (Lib.byteCells l) ob):Fh b l ((b,.cells [Value.pointer (some ⟨b,0,none⟩),v].toArray 345 (0,0))::ob)
section
variable{w0:World}{F0:Gs}{bs:List (Nat×Obj)}{G:Gs->Prop}
theorem ME{p:Option Addr}{v:Value}(hp:p=none\/p=some ⟨b,0,none⟩):J8 prog 334 [.pointer (some ⟨b,0,none⟩)] ⟨w0,F0,(b,.cells [Value.pointer p,v].toArray 345 (0,0))::bs,G⟩ (λ(_:Unit)=>.tuple #[]) (λ_=>⟨w0,F0,(b,.cells [Value.pointer (some ⟨b,0,none⟩),v].toArray 345 (0,0))::bs,G⟩):=by
 refine J8.intro func334 rfl wy rfl rfl<|wR rfl<|QA (Vk rfl)<|QA (QH rfl Tk EC)<|QA (Qh rfl EC .here .h1)<|QA (jI rfl rfl wm)<|QE<|QD ?_
 refine QP I (λhc=>?_) λhc=>?_
 ·have hp':p=none:=by rcases hp with rfl | rfl;rfl;cases hc
  subst hp';refine wA 3 I<|QA (IA I underlying342 underlying392 wm .here (Nat.zero_lt_succ _))<|Cg func362 wm wm wm (e:=Extern.AbiNoEscape.same) wm rfl (λw=>Lib.run_noEscape w _)<|QA (TM I underlying392 underlying342 wm .here wm)<|QA (Vk I)<|QA (QH I Tk EC)<|QZ (vs:=[_]) I I I EC I .here .h1 wS<|QE<|Ej ?_
  exact Z2 () I .nil rfl w9
 have hp':p=some ⟨b,0,none⟩:=by rcases hp with rfl | rfl;cases hc;rfl
 subst hp';refine wR I<|QA (Vk I)<|QA (QH I Tk EC)<|QA (Qh I EC .here .h1)<|QF5 I<|QA (OZ I I underlying342 wm)<|QF4<|Xo I<|QM<|Ej ?_
 exact Z2 () I .nil rfl w9
theorem uQ:∃i,prog.info? 5=some i/\i.zero=some (.int .u8 0)/\i.size=1/\i.bytes=1:=by
 have h:((prog.info? 5).map λi=>(i.zero,i.size,i.bytes))=some (some (.int .u8 0),1,1):=wm;obtain⟨i,h1,h2⟩:=Option.map_eq_some_iff.1 h;simp only[Prod.mk.injEq]at h2;exact⟨i,h1,h2⟩
theorem GP{p:Option Addr}{v:Value}(hp:p=none\/p=some ⟨b,0,none⟩)(hr:Q6 5 1 v l.length (Lib.byteCells l) ob)(hn:l.length+s.length<=140737488355328):
  J8 prog 302 [.pointer (some ⟨b,0,none⟩),tx s] ⟨w0,F0,(b,.cells [Value.pointer p,v].toArray 345 (0,0))::(ob++bs),G⟩ (λ(_:List (Nat×Obj))=>.tuple #[.int .i64 s.length,.nilIface])
   (λob'=>⟨w0,F0,ob'++bs,λF=>G F/\Fh b (l++s) ob'⟩):=by
 obtain⟨i8,hi1,hi2,hi3,hi4⟩:=uQ;refine J8.intro func302 rfl wy rfl rfl<|QGi<|QF6 rfl<|wQ rfl<|wR rfl<|XA rfl (List.Perm.refl _) (ME hp) λ_=>QF4<|wR rfl<|QF5 rfl<|QA (Vk rfl)<|QA (QH rfl M3 Gu)<|QA (Qh rfl Gu .here (.skip .h1))<|QF5 rfl<|UA (bs1:=(b,.cells [Value.pointer (some ⟨b,0,none⟩),v].toArray 345 (0,0))::bs) rfl rfl Fz underlying9 hi1 hi2 hi3 hi4 hr (by rw[<-List.singleton_append];exact(List.perm_append_comm_assoc _ _ _)) hn λv' ob' hr'=>QA (Vk I)<|QA (QH I M3 Gu)<|X1 (bs':=(b,.cells [Value.pointer (some ⟨b,0,none⟩),v].toArray 345 (0,0))::(ob'++bs)) (by rw[<-List.singleton_append (l:=bs),<-List.singleton_append];exact(List.perm_append_comm_assoc _ _ _)) ?_
 obtain⟨h1,h2⟩:=hr'.one;refine QZ (vs:=[v']) I I h2 Gu I .here (.skip .h1) ⟨h1,trivial⟩<|QHB 5 I<|QA (Js I XC)<|QHB 5 I ?_
 have hb:Fh b (l++s) ((b,.cells [Value.pointer (some ⟨b,0,none⟩),v'].toArray 345 (0,0))::ob'):=.used (by rw[List.length_append,Lib.byteCells_append];exact hr');exact Z2 _ I (wO I I) rfl λw h=>St.Dd (bs:=(_::ob')++bs) h λF hG=>⟨hG,hb⟩
theorem WY(h:Fh b l ob)(hn:l.length+s.length<=140737488355328):
  J8 prog 302 [.pointer (some ⟨b,0,none⟩),tx s] ⟨w0,F0,ob++bs,G⟩ (λ(_:List (Nat×Obj))=>.tuple #[.int .i64 s.length,.nilIface])
   (λob'=>⟨w0,F0,ob'++bs,λF=>G F/\Fh b (l++s) ob'⟩):=by
 cases h with
 |fresh=>exact GP (l:=[]) (ob:=[]) (.inl rfl) .nil hn
 |used hr=>exact GP (.inr rfl) hr hn
theorem H8{p:Option Addr}{v:Value}(hp:p=none\/p=some ⟨b,0,none⟩)(hr:Q6 5 1 v l.length (Lib.byteCells l) ob)(hn:l.length+1<=140737488355328):
  J8 prog 304 [.pointer (some ⟨b,0,none⟩),.int .u8 c.toNat] ⟨w0,F0,(b,.cells [Value.pointer p,v].toArray 345 (0,0))::(ob++bs),G⟩ (λ(_:List (Nat×Obj))=>.nilIface)
   (λob'=>⟨w0,F0,ob'++bs,λF=>G F/\Fh b (l++[c]) ob'⟩):=by
 refine J8.intro func304 rfl wy rfl rfl<|QGi<|wQ rfl<|wR rfl<|XA rfl (List.Perm.refl _) (ME hp) λ_=>QF4<|wR rfl<|QF5 rfl<|QA (Vk rfl)<|QA (QH rfl M3 Gu)<|QA (Qh rfl Gu .here (.skip .h1))<|QF5 rfl<|GX rfl (JU Fz) QAq z_5 rfl rfl λbx=>?_
 refine X1 (bs':=ob++((bx,.cells [Value.int .u8 c.toNat].toArray 5 (0,0))::(b,.cells [Value.pointer (some ⟨b,0,none⟩),v].toArray 345 (0,0))::bs)) (by
  have:=List.perm_append_comm_assoc [(bx,Obj.cells [Value.int .u8 c.toNat].toArray 5 (0,0)),(b,Obj.cells [Value.pointer (some ⟨b,0,none⟩),v].toArray 345 (0,0))] ob bs;exact this) ?_
 refine Sz (news:=[Value.int .u8 c.toNat]) (k:=1) (sz:=1) rfl rfl Fz QAq z_5 I QE6 hr (Src.OV (b:=bx) (T:=5) (fr:=(0,0)) (c:=1) wz rfl) O O (λu hu=>by rw[List.mem_singleton.1 hu];rfl) (λv' ob' hr'=>QA (Vk I)<|QA (QH I M3 Gu) ?_);refine X1 (bs':=(b,.cells [Value.pointer (some ⟨b,0,none⟩),v].toArray 345 (0,0))::((bx,.cells [Value.int .u8 c.toNat].toArray 5 (0,0))::(ob'++bs))) (by
  have:=List.perm_append_comm_assoc ob' [(b,Obj.cells [Value.pointer (some ⟨b,0,none⟩),v].toArray 345 (0,0)),(bx,Obj.cells [Value.int .u8 c.toNat].toArray 5 (0,0))] bs;exact((List.Perm.append_left ob' (List.Perm.swap _ _ _))).trans this) ?_
 obtain⟨h1,h2⟩:=hr'.one;refine QZ (vs:=[v']) I I h2 Gu I .here (.skip .h1) ⟨h1,trivial⟩<|QHB 8 I ?_
 have hb:Fh b (l++[c]) ((b,.cells [Value.pointer (some ⟨b,0,none⟩),v'].toArray 345 (0,0))::ob'):=.used (by rw[List.length_append,Lib.byteCells_append];exact hr');exact Z2 _ I (wN I) rfl λw h=>St.imp (bs':=(_::ob')++bs) h (List.Sublist.cons_cons _ (List.Sublist.cons _ QGJ)) λF hG=>⟨hG,hb⟩
theorem UJ(h:Fh b l ob)(hn:l.length+1<=140737488355328):
  J8 prog 304 [.pointer (some ⟨b,0,none⟩),.int .u8 c.toNat] ⟨w0,F0,ob++bs,G⟩ (λ(_:List (Nat×Obj))=>.nilIface)
   (λob'=>⟨w0,F0,ob'++bs,λF=>G F/\Fh b (l++[c]) ob'⟩):=by
 cases h with
 |fresh=>exact H8 (l:=[]) (ob:=[]) (.inl rfl) .nil hn
 |used hr=>exact H8 (.inr rfl) hr hn
theorem Fh.is(h:Fh b l ob){w:World}(hw:St ⟨w0,F0,ob++bs,G⟩ w):Lib.IsBuilder 345 5 w0.heap.size b (Lib.byteCells l) w:=by
 obtain⟨F,hw⟩:=hw;cases h with
 |fresh =>
  have:=hw.bx (b,.cells [Value.pointer none,.slice none 0 0].toArray 345 (0,0)) wz;exact .inl ⟨this.2.1,_,this.1,World.ownsRow_nil w _ _ 1,by simp[Value.ownBlock]⟩
 |used hr =>
  rename_i v ob;have h1:=hw.bx (b,.cells [Value.pointer (some ⟨b,0,none⟩),v].toArray 345 (0,0)) wz;refine .inr ⟨h1.2.1,v,h1.1,?_,?_⟩
  ·rw[Lib.byteCells_length];generalize hq:Lib.byteCells l=q at hr;generalize hn:l.length=n at hr;cases hr with
   |nil=>exact World.ownsRow_nil w _ _ 1
   |some g1 g2 g3 g4 =>
    rename_i r cap rest;have h2:=hw.bx (r,.cells (q++rest).toArray 5 (0,0)) wz;refine⟨O,.inr ⟨r,cap,_,rfl,h2.2.1,h2.1,g3,g4,?_,?_⟩⟩
    ·show(q++rest).toArray.size=_;simp;omega
    show(q++rest).take (n*1)=q;rw[<-g1];exact List.take_left
  generalize hq:Lib.byteCells l=q at hr;generalize hn:l.length=n at hr;cases hr with
  |nil=>simp[Value.ownBlock]
  |some g1 g2 g3 g4 =>
   have hnd:=hw.nd;simp only[List.cons_append,List.map_cons,List.nodup_cons]at hnd;intro e;simp only[Value.ownBlock,Option.some.injEq]at e;exact hnd.1 (by simp[e])
end
section
open Go.RowKit Go.Sort Go.Lib
def IF(w:World)(o:Obj)(dk:Array UInt8)(k off:Nat):∃os,(putRow (λ(b:UInt8)=>Value.int .u8 (b.toNat:Int)) (w.alloc o) w.heap.size off dk).drewN k=Sort.grow (w.drewN k) os:=by
 rw[alloc_eq_grow];obtain⟨os',_,e⟩:=putRow_grow_new (λ(b:UInt8)=>Value.int .u8 (b.toNat:Int)) w #[o] w.heap.size off dk (Nat.le_refl _);exact⟨os',by rw[e];rfl⟩
theorem Ak(w:World)(T:TypeId)(nd:Nat)(hs:nd<=24):Holds (λ(b:UInt8)=>Value.int .u8 (b.toNat:Int)) (w.alloc (.cells zeros24 T)) w.heap.size 0 (Array.replicate nd (0:UInt8)):=λj hj=>by
 have hj':j<nd:=by simpa using hj
 refine⟨?_,World.frozen?_alloc_new _ _ _ _⟩;rw[World.cell?_alloc_new,zeros24_at _ O,getElem!_pos _ j hj];simp
set_option maxRecDepth 100000 in
theorem Re(u:Nat)(hu64:u<18446744073709551616)(w:World)(htab:Lib.TabIs prog w "internal/strconv.uint64pow10" .u64 Lib.pow10Tab):
  Calls prog 341 #[.int .u64 u,.int .i64 10] w λe w'=>e = .returned (tx (Lib.decDigits u))/\∃k os,w'=Sort.grow (w.drewN k) os:=by
 have e283:∀args w,(callFunc 364 args).run prog w = .ok (.enter 364 args) w:=Go.Proofs.enters_of func364 wm rfl;have e284:∀args w,(callFunc 365 args).run prog w = .ok (.enter 365 args) w:=Go.Proofs.enters_of func365 wm rfl;have e285:∀args w,(callFunc 366 args).run prog w = .ok (.enter 366 args) w:=Go.Proofs.enters_of func366 wm rfl;by_cases hs:u<100
 ·go_enter func341,ntmps341
  go_wp2_with (go_at_fn 364;refine(internal_strconv_small u hs _).mono ?_;rintro e w' ⟨rfl,rfl⟩)
  go_ret
  exact⟨rfl,0,#[],by simp[World.drewN_zero]⟩
 have hu1:1<=u:=O;have hnd20:Lib.nDigits u<=20:=by have:=Lib.numDigits_eq u hu1 hu64;split at this<;>omega
 have hb3:Lib.nDigits u<=24:=O;have hal:prog.arrayLen 395=24:=by simp[Program.arrayLen,underlying395]
 have hsl1:∀W,(Instr.sliceAt 395 (.pointer (some ⟨w.heap.size,0,none⟩)) none (some (.int .i64 (Lib.nDigits u:Int))) none).run prog W = .ok (.slice (some ⟨w.heap.size,0,none⟩) (Lib.nDigits u) 24) W:=λW=>by
  rw[run_sliceAt_array_h W 395 ⟨w.heap.size,0,none⟩ (by simp[Program.arrayLen,Program.elem,underlying395]) .i64 (Lib.nDigits u:Int) O (by rw[hal];omega)];go_simp
 have hH0:=Ak w 395 (Lib.nDigits u) O;have hfmt:=internal_strconv_formatBase10 w.heap.size 0 24 u (Array.replicate (Lib.nDigits u) 0) (w.alloc (.cells Lib.zeros24 395)) hH0 (by rw[Array.size_replicate];exact Lib.lt_pow_nDigits u) hu64 (by rw[Array.size_replicate];omega);rw[Array.size_replicate]at hfmt;have HH0:=Lib.hid hH0;clear hH0 hal;go_enter func341,ntmps341
 go_wp2_with (first
  |(go_at_fn 365;refine(internal_strconv_numDigits u hu1 hu64 _ (Lib.tabIs_alloc htab _)).mono ?_;rintro e w' ⟨rfl,rfl⟩))
 go_at_fn 366
 refine hfmt.mono ?_;rintro e w' ⟨rfl,k,v',dk,rfl,hF⟩;have hcv:(convert 343 9 (.slice (some ⟨w.heap.size,0,none⟩) (Lib.nDigits u) 24)).run prog ((putRow (λ(b:UInt8)=>Value.int .u8 (b.toNat:Int)) (w.alloc (.cells Lib.zeros24 395)) w.heap.size 0 dk).drewN k) = .ok (.string ⟨(Lib.decDigits u).toArray⟩) ((putRow (λ(b:UInt8)=>Value.int .u8 (b.toNat:Int)) (w.alloc (.cells Lib.zeros24 395)) w.heap.size 0 dk).drewN k):=by
  have h:=run_convert_bytes_back (P:=prog) ((putRow (λ(b:UInt8)=>Value.int .u8 (b.toNat:Int)) (w.alloc (.cells Lib.zeros24 395)) w.heap.size 0 dk).drewN k) 343 9 5 ⟨w.heap.size,0,none⟩ 24 (Lib.decDigits u) underlying343 underlying5 underlying9 (λj hj=>by
   rw[Lib.row_is_numeral hF j hj,Lib.add_plain,World.cell?_drewN];exact cell?_putRow (λ(b:UInt8)=>Value.int .u8 (b.toNat:Int)) _ w.heap.size 0 _ dk HH0.out (by rw[hF.size,Array.size_replicate]) j (by rw[hF.size];rw[Lib.decDigits_length]at hj;exact hj))
  rw[Lib.decDigits_length]at h;exact h
 go_wp2
 go_ret
 obtain⟨os,eo⟩:=IF w (.cells Lib.zeros24 395) dk k 0;exact⟨rfl,k,os,eo⟩
theorem Th(hF:Fits F w)(hG:JG F){u:Nat}(hu:u<18446744073709551616):Qb prog 322 [.int .u64 u,.int .i64 10] w F (tx (Lib.decDigits u)):=by
 refine QU.intro (G:=λF=>JG F) func322 rfl wy rfl rfl hF (λF' hF'=>hG.le hF')<|QGi<|wQ rfl<|wR rfl<|QF5 rfl ?_
 refine QJ I (λw F hF hG=>Qb.of (v:=tx (Lib.decDigits u)) (enters_of func341 wy rfl) hF ((Re u hu w (hG.Fc hF)).mono (by
  rintro e w' ⟨h1,k,os,rfl⟩;exact⟨h1,((Ext.refl w).drewN k).trans (Ao _ _)⟩))) λc=>?_
 refine wQ I<|QT ?_
 exact QO () I (wN I) rfl w8
end
open Go
def UH(c:UInt8):Bool:=decide (48<=c.toNat)&&decide (c.toNat<=57)
def XT(l:List UInt8):Bool:=l.all UH
def YH:UH c=true↔48<=c.toNat/\c.toNat<=57:=by simp[UH]
def JF(l:List UInt8):Nat:=l.foldl (λa c=>a*10+(c.toNat-48)) 0
def QBf(l:List UInt8):∀a:Nat,l.foldl (λa c=>a*10+(c.toNat-48)) a=a*10^l.length+JF l:=by
 induction l with
 |nil=>intro a;simp[JF]
 |cons c l ih =>
  intro a;simp only[List.foldl_cons,List.length_cons,JF];rw[ih,ih (0*10+_)];rw[Nat.zero_mul,Nat.zero_add,Nat.add_mul,Nat.pow_succ,Nat.mul_assoc,Nat.mul_comm 10,Nat.add_assoc]
def YG(a b:List UInt8):JF (a++b)=JF a*10^b.length+JF b:=by
 unfold JF;rw[List.foldl_append,QBf];rfl
def OX:JF []=0:=rfl
def Ve(c:UInt8):JF [c]=c.toNat-48:=by simp[JF]
def N8(c:UInt8)(l:List UInt8):JF (c::l)=(c.toNat-48)*10^l.length+JF l:=by
 rw[<-Ve,<-YG];rfl
def Kv(a b:List UInt8):XT (a++b)=(XT a&&XT b):=by simp[XT]
def Hs(c:UInt8)(l:List UInt8):XT (c::l)=(UH c&&XT l):=by simp[XT]
def Hr(h:XT l=true)(n:Nat):XT (l.take n)=true:=by
 rw[<-List.take_append_drop n l,Kv,Bool.and_eq_true]at h;exact h.1
def Ee(h:XT l=true)(n:Nat):XT (l.drop n)=true:=by
 rw[<-List.take_append_drop n l,Kv,Bool.and_eq_true]at h;exact h.2
theorem VM(h:XT l=true):JF l<10^l.length:=by
 induction l with
 |nil=>simp[JF]
 |cons c l ih =>
  rw[Hs,Bool.and_eq_true]at h;have:=ih h.2;have hc:=YH.1 h.1;rw[N8,List.length_cons,Nat.pow_succ];have:(c.toNat-48)*10^l.length<=9*10^l.length:=Nat.mul_le_mul_right _ O;omega
def Yw(h:d<10):(UInt8.ofNat (48+d)).toNat=48+d:=by
 rw[UInt8.toNat_ofNat'];omega
theorem JR(n:Nat):XT (Lib.decDigits n)=true:=by
 induction n using Nat.strongRecOn with
 |_ n ih =>
  rw[Lib.decDigits];split
  ·rename_i h;simp[XT,UH,Yw h];omega
  rw[Kv,ih (n/10) O];have:n%10<10:=O;simp[XT,UH,Yw this];omega
theorem Jp(n:Nat):JF (Lib.decDigits n)=n:=by
 induction n using Nat.strongRecOn with
 |_ n ih =>
  rw[Lib.decDigits];split
  ·rename_i h;rw[Ve,Yw h];omega
  rw[YG,ih (n/10) O,Ve,Yw O];simp;omega
def Yc(n:Nat):Lib.decDigits n≠[]:=by
 rw[Lib.decDigits];split<;>simp
def X7:Lib.decDigits 0=[48]:=by rw[Lib.decDigits];rfl
def P3(h:0<n):∃c l,Lib.decDigits n=c::l/\c≠48:=by
 induction n using Nat.strongRecOn with
 |_ n ih =>
  rw[Lib.decDigits];split
  ·rename_i h10;refine⟨_,[],rfl,λe=>?_⟩;have:=Yw h10;rw[e]at this;simp at this;omega
  obtain⟨c,l,e,hc⟩:=ih (n/10) O O;exact⟨c,l++[UInt8.ofNat (48+n%10)],by rw[e];rfl,hc⟩
def J7(l:List UInt8):Bool:=XT l&&!l.isEmpty&&(l==[48]||!(l.head?==some 48))
theorem BW(n:Nat):J7 (Lib.decDigits n)=true:=by
 rcases Nat.eq_zero_or_pos n with h | h
 ·subst h;rw[X7];decide
 obtain⟨c,l,e,hc⟩:=P3 h;have:=JR n;rw[e]at this ⊢;simp[J7,this,hc]
def Vu(hn:0<n)(hd:d<10):Lib.decDigits (n*10+d)=Lib.decDigits n++[UInt8.ofNat (48+d)]:=by
 rw[Lib.decDigits,dif_neg O];congr 2
 ·congr 1;omega
 congr 2;omega
def FE(h:UH c=true):UInt8.ofNat (48+(c.toNat-48))=c:=by
 have:=YH.1 h;apply UInt8.toNat.inj;rw[Yw O];omega
theorem Dm:∀ {l:List UInt8},XT l=true->l≠[]->l.head?≠some 48->Lib.decDigits (JF l)=l/\0<JF l:=by
 intro l
 induction hn:l.length generalizing l with
 |zero=>intro _ h _;exact absurd (List.eq_nil_of_length_eq_zero hn) h
 |succ n ih =>
  intro ha hne hh;rcases List.eq_nil_or_concat l with h | ⟨a,c,rfl⟩
  ·exact absurd h hne
  simp only[List.concat_eq_append]at *
  rw[Kv,Bool.and_eq_true]at ha;have hc:UH c=true:=by simpa[XT]using ha.2
  have hc':=YH.1 hc;rw[YG,Ve];cases a with
  |nil =>
   have h48:c≠48:=by simpa using hh
   have:c.toNat≠48:=λe=>h48 (UInt8.toNat.inj (by rw[e];rfl));simp only[OX,Nat.zero_mul,Nat.zero_add,List.nil_append];refine⟨?_,O⟩;rw[Lib.decDigits,dif_pos O,FE hc]
  |cons x a =>
   obtain⟨h1,h2⟩:=ih (l:=x::a) (by simp at hn ⊢;omega) ha.1 wz (by simpa using hh);refine⟨?_,w6⟩;simp only[List.length_singleton,Nat.pow_one];rw[Vu h2 O,h1,FE hc]
def Dp(h:J7 l=true):Lib.decDigits (JF l)=l:=by
 simp only[J7,Bool.and_eq_true,Bool.or_eq_true,beq_iff_eq,Bool.not_eq_true',List.isEmpty_eq_false_iff]at h;rcases h.2 with h1 | h1
 ·subst h1;rw[Ve];exact X7
 exact(Dm h.1.1 h.1.2 (by simpa using h1)).1
theorem xy(h:XT l=true):∀a,Lib.decFrom a l=some (a*10^l.length+JF l):=by
 induction l with
 |nil=>intro a;simp[Lib.decFrom,JF]
 |cons c l ih =>
  intro a;rw[Hs,Bool.and_eq_true]at h;have hc:=YH.1 h.1;simp only[Lib.decFrom,Lib.digitVal,if_pos hc];rw[ih h.2,N8,List.length_cons,Nat.pow_succ,Nat.add_mul,Nat.mul_assoc,Nat.mul_comm 10,Nat.add_assoc]
theorem CT{l:List UInt8}(h:XT l=true)(hne:l≠[]):Lib.atoi l=some (JF l:Int):=by
 cases l with
 |nil=>exact absurd rfl hne
 |cons c l =>
  have hc:=YH.1 (by rw[Hs,Bool.and_eq_true]at h;exact h.1);have h1:(c==45)=false:=by
   apply beq_eq_false_iff_ne.2;rintro rfl;simp at hc
  have h2:(c==43)=false:=by
   apply beq_eq_false_iff_ne.2;rintro rfl;simp at hc
  simp only[Lib.atoi,h1,h2,Bool.false_eq_true,if_false,Lib.decNat,List.isEmpty_cons];rw[xy h];simp
def Vp(k:Nat)(l:List UInt8):List UInt8:=Lib.repeatL [48] (k-l.length)++l
def Ko(k:Nat):Lib.repeatL [48] k=List.replicate k 48:=by
 induction k with
 |zero=>rfl
 |succ k ih=>rw[Lib.repeatL,ih];rfl
def Zj{u:Nat}(h:u<10^k)(hk:0<k):Lib.nDigits u<=k:=by
 induction k generalizing u with
 |zero=>omega
 |succ k ih =>
  by_cases h10:u<10
  ·rw[Lib.nDigits_small h10];omega
  rw[Lib.nDigits_big h10];rcases Nat.eq_zero_or_pos k with h0 | h0
  ·subst h0;simp at h;omega
  have:=ih (u:=u/10) (by rw[Nat.pow_succ]at h;omega) h0;omega
theorem PM{u:Nat}(hk:0<k):k<Lib.nDigits u↔10^k<=u:=by
 constructor
 ·intro h;rcases Nat.lt_or_ge u (10^k)with g | g
  ·have:=Zj g hk;omega
  exact g
 intro h;rcases Nat.lt_or_ge k (Lib.nDigits u)with g | g
 ·exact g
 have h1:=Lib.lt_pow_nDigits u;have h2:10^Lib.nDigits u<=10^k:=Nat.pow_le_pow_right wu g;omega
def U7(h:l.length<=k):(Vp k l).length=k:=by
 unfold Vp;rw[Ko];simp;omega
def jb(k:Nat)(l:List UInt8)(c:UInt8):Vp (k+1) (l++[c])=Vp k l++[c]:=by
 unfold Vp;simp
theorem VA{q:Nat}(hq:0<q):∀(k r:Nat),0<k->r<10^k->Lib.decDigits (q*10^k+r)=Lib.decDigits q++Vp k (Lib.decDigits r)
 |0,_,h,_=>O
 |1,r,_,hr=>by
  simp only[Nat.pow_one]at *
  rw[Vu hq hr,Lib.decDigits_one hr];rfl
 |k+2,r,_,hr=>by
  have e:q*10^(k+2)+r=(q*10^(k+1)+r/10)*10+r%10:=by
   rw[Nat.pow_succ,<-Nat.mul_assoc];omega
  have hr1:r/10<10^(k+1):=by rw[Nat.pow_succ]at hr;omega
  have hpos:0<q*10^(k+1)+r/10:=by
   have:=Nat.mul_pos hq (Nat.pow_pos (n:=k+1) (show 0<10 by decide));omega
  rw[e,Vu hpos O,VA hq (k+1) (r/10) O hr1,List.append_assoc];congr 1;by_cases h10:r<10
  ·rw[Lib.decDigits_one (show r/10<10 by omega),Lib.decDigits_one h10];have h0:r/10=0:=O;rw[h0];unfold Vp;rw[Ko,Ko];simp only[List.length_singleton,Nat.add_sub_cancel];rw[show k+2-1=k+1 by omega,List.replicate_succ',Nat.mod_eq_of_lt h10];rfl
  rw[<-jb];congr 1;rw[Lib.decDigits.eq_1 r,dif_neg h10]
def XV(z:Int):List UInt8:=Lib.itoa z
def JO(r:Rat):List UInt8:=if r.den=1 then XV r.num else XV r.num++47::Lib.decDigits r.den
def ZT(h:z<0):XV z=45::Lib.decDigits z.natAbs:=by unfold XV Lib.itoa;rw[if_pos h]
def Jh(h:0<=z):XV z=Lib.decDigits z.natAbs:=by
 unfold XV Lib.itoa;rw[if_neg O];congr 1;omega
def Zx(l:List UInt8):Int:=if Lib.hasPrefix l [45]then -(JF (l.drop 1):Int)else(JF l:Int)
theorem Yh(h:XT l=true):Lib.hasPrefix l [45]=false:=by
 cases l with
 |nil=>rfl
 |cons c l =>
  have hc:=YH.1 (by rw[Hs,Bool.and_eq_true]at h;exact h.1);have:(45==c)=false:=by
   apply beq_eq_false_iff_ne.2;rintro rfl;simp at hc
  simp[Lib.hasPrefix,List.isPrefixOf,this]
theorem ZS(z:Int):Zx (XV z)=z:=by
 unfold Zx;by_cases h:z<0
 ·rw[ZT h];simp[Lib.hasPrefix,List.isPrefixOf,Jp];omega
 rw[Jh O,Yh (JR _)];simp[Jp];omega
def Xc{b:Int}(h:sz a<=m)(k:sz b<=n):sz (a*b)<=m+n:=Nat.le_trans (ZQ a b) (Nat.add_le_add h k)
def R3{b:Int}(h:sz a<=m)(k:sz b<=n):sz (a+b)<=max m n+1:=wk<|Nv a b
theorem Vh{b:Int}(hb:b≠0):Jn (Rat.divInt a b)<=max (sz a) (sz b):=by
 have key:∀(x y:Int),0<y->Jn (Rat.divInt x y)<=max (sz x) (sz y):=by
  intro x y hy;have h:=YJ (x:=x) hy;unfold Jn;rw[h.1,h.2];have h1:sz (x/(Int.gcd x y:Int))<=sz x:=Kl (Int.natAbs_ediv_le_natAbs _ _);have h2:sz (y/(Int.gcd x y:Int))<=sz y:=Kl (Int.natAbs_ediv_le_natAbs _ _);omega
 rcases Int.lt_or_gt_of_ne hb with h | h
 ·rw[<-Rat.neg_divInt_neg];have:=key (-a) (-b) O;rw[K9,K9]at this;exact this
 exact key a b h
def ZX(r:Rat):(r.den:Int)≠0:=wk<|den_pos r
def V0(r s:Rat):r+s=Rat.divInt (r.num*s.den+s.num*r.den) ((r.den:Int)*s.den):=by
 rw[Rat.add_def',<-Rat.divInt_ofNat,Int.natCast_mul]
def Vq(r s:Rat):r*s=Rat.divInt (r.num*s.num) ((r.den:Int)*s.den):=by
 rw[Rat.mul_def',<-Rat.divInt_ofNat,Int.natCast_mul]
def I9(r:Rat):Jn (-r)=Jn r:=by unfold Jn;rw[Rat.neg_num,Rat.neg_den,K9]
def RJ(r s:Rat):Jn (r+s)<=Jn r+Jn s+1:=by
 rw[V0];refine Nat.le_trans (Vh (Int.mul_ne_zero (ZX r) (ZX s))) ?_;have h1:=R3 (Xc (Jc r) (JZ s)) (Xc (Jc s) (JZ r));have h2:=Xc (JZ r) (JZ s);omega
def KO(r s:Rat):Jn (r*s)<=Jn r+Jn s:=by
 rw[Vq];refine Nat.le_trans (Vh (Int.mul_ne_zero (ZX r) (ZX s))) ?_;have h1:=Xc (Jc r) (Jc s);have h2:=Xc (JZ r) (JZ s);omega
theorem yK{r:Rat}(h:r.num≠0):Jn r⁻¹<=Jn r:=by
 rw[Rat.inv_def];have:=Vh (a:=(r.den:Int)) h;unfold Jn at this ⊢;omega
def FU(n:Int):Jn (n:Rat)<=max (sz n) 1:=by
 unfold Jn;rw[Rat.num_intCast,Rat.den_intCast];have:sz ((1:Nat):Int)=1:=wu;omega
def S6(r:Rat)(k:Nat):Jn (r^k)<=k*Jn r+1:=by
 unfold Jn;rw[Rat.num_pow,Rat.den_pow,Int.natCast_pow];have h1:=DE r.num k;have h2:=DE (r.den:Int) k;have h3:=Nat.mul_le_mul_left k (Nat.le_max_left (sz r.num) (sz (r.den:Int)));have h4:=Nat.mul_le_mul_left k (Nat.le_max_right (sz r.num) (sz (r.den:Int)));omega
theorem Gc{x y:Fr}{r s:Rat}(hF:Fits F w)(h:Jz F x r)(h':Jz F y s)(hr:Jn r<=100000000)(hs:Jn s<=100000000):YL prog 92 [x.v,y.v] w F (r*s):=by
 refine QU.intro (G:=λF=>Jz F x r/\Jz F y s) func92 rfl wy rfl rfl hF (λF' hF'=>⟨h.le hF',h'.le hF'⟩)<|QGi<|JE rfl (vs:=[_,_,_,_]) rfl λb2=>JE rfl (vs:=[_,_,_,_]) rfl λb3=>Qg KM λb4=>QF4<|QG<|JL (.cons _ tC) mixed wm<|QL (QH rfl KA Qo)<|QL (wH I Qo .u1)<|QL (QH rfl KA Qo)<|QL (wH I Qo .here)<|Qc rfl (λ_ _ f k=>BH f k.1.1 k.2.1 (Nat.le_trans (Jc r) O) (Nat.le_trans (Jc s) O)) λg9=>QL (QH rfl Y9 Qo)<|QL (QR (vs:=[_,_]) rfl Qo .u1 (.skip (.skip .h2)) rfl)<|QL (QH rfl Y9 Qo)<|QL (QR (vs:=[_,_]) rfl Qo .here (.skip (.skip .h2)) rfl)<|Qc rfl (λ_ _ f k=>BH f k.1.1.2 k.1.2.2 (Nat.le_trans (JZ r) O) (Nat.le_trans (JZ s) O)) λg14=>Qc rfl (λw F hF ⟨⟨⟨⟨hn,hd⟩,⟨kn,kd⟩⟩,h9⟩,h14⟩=>IS hF h9 h14 (Int.mul_ne_zero (ZX r) (ZX s)) (Nat.le_trans (Xc (Jc r) (Jc s)) O) (Nat.le_trans (Xc (JZ r) (JZ s)) O)) λx15=>Ji (vs:=[_,_,_,_]) rfl rfl rfl Ql rfl .here tC (λ_ h=>h.1.1.1) .h4 wV<|Q3<|QD<|QT ?_
 exact QO (_) rfl (.Jv (c:=[_,_,_,_]) I Ql .here .nil) rfl λF h9=>(by rw[Vq];exact⟨h9.2.1,h9.2.2⟩)
def CW{r s:Rat}(h:(r.den:Int)=1)(k:(s.den:Int)=1):r+s=((r.num+s.num:Int):Rat):=by
 have h1:r.den=1:=O;have k1:s.den=1:=O;rw[Rat.add_def',h1,k1];apply Rat.ext
 ·rw[Rat.num_mkRat,Rat.num_intCast];simp
 rw[Rat.den_mkRat,Rat.den_intCast];simp
theorem Pj{x y:Fr}{r s:Rat}(hF:Fits F w)(h:Jz F x r)(h':Jz F y s)(hr:Jn r<=100000000)(hs:Jn s<=100000000):YL prog 46 [x.v,y.v] w F (r+s):=by
 refine QU.intro (G:=λF=>Jz F x r/\Jz F y s) func46 rfl wy rfl rfl hF (λF' hF'=>⟨h.le hF',h'.le hF'⟩)<|QGi<|JE rfl (vs:=[_,_,_,_]) rfl λb2=>JE rfl (vs:=[_,_,_,_]) rfl λb3=>Qg KM λb4=>QF4<|QG ?_
 refine Hb 10 (.bool (decide ((r.den:Int)=1)&&decide ((s.den:Int)=1))) ?_ ?_
 ·refine QB<|QA (wJ I Ql .u2)<|QJ I (λw F hF ⟨⟨hn,hd⟩,⟨kn,kd⟩⟩=>EP hF ⟨by assumption,by assumption⟩) λ_=>QF5 I ?_
  refine Qe (t:=7) rfl (λhb7=>?_) λhb7=>?_
  ·refine QK I I<|QA (wJ I Ql .u1)<|QK I I<|QJ I (λw F hF ⟨⟨⟨hn,hd⟩,⟨kn,kd⟩⟩,_⟩=>EP hF ⟨by assumption,by assumption⟩) λ_=>wB 2 I ?_
   exact Xn (exd 7 rfl rfl) (by show some (Value.bool _)=some (Value.bool _);rw[hb7];rfl) QGJ λ_ h=>h.1.1
  refine wB 4 I ?_;exact Xn (exd 7 rfl rfl) (by show some (Value.bool false)=some (Value.bool _);rw[hb7];rfl) QGJ tA
 refine QP I (λhc=>?_) λhc=>?_
 ·refine QGi<|QA (QH I KA Qo)<|QA (wH I Qo .u2)<|QA (QH I KA Qo)<|QA (wH I Qo .u1)<|QJ I (λ_ _ f k=>L8 f k.1.1 k.2.1 (Nat.le_trans (Jc r) O) (Nat.le_trans (Jc s) O)) λg15=>QJ I (λw F hF ⟨⟨⟨hn,hd⟩,⟨kn,kd⟩⟩,h15⟩=>S3 hF (by assumption)) λx16=>QZ (vs:=[_,_,_,_]) I I I Ql I .here .h4 wV<|QF4<|QT ?_
  exact QO (_) rfl (.Jv (c:=[_,_,_,_]) I Ql .here .nil) rfl λF h9=>(by have hc2:(r.den:Int)=1/\(s.den:Int)=1:=(by simpa using hc);have e:(r+s:Rat)=((r.num+s.num:Int):Rat):=CW hc2.1 hc2.2;rw[e];exact⟨h9.2.1,h9.2.2⟩)
 refine QHC 3 I<|JL (.cons _ tC) mixed wm<|QL (QH I KA Qo)<|QL (wH I Qo .u1)<|QL (QH I Y9 Qo)<|QL (QR (vs:=[_,_]) I Qo .here (.skip (.skip .h2)) I)<|Qc I (λ_ _ f k=>BH f k.1.1 k.2.2 (Nat.le_trans (Jc r) O) (Nat.le_trans (JZ s) O)) λg21=>QL (QH I KA Qo)<|QL (wH I Qo .here)<|QL (QH I Y9 Qo)<|QL (QR (vs:=[_,_]) I Qo .u1 (.skip (.skip .h2)) I)<|Qc I (λ_ _ f k=>BH f k.1.2.1 k.1.1.2 (Nat.le_trans (Jc s) O) (Nat.le_trans (JZ r) O)) λg26=>Qc I (λ_ _ f k=>L8 f k.1.2 k.2 (Nat.le_trans (Xc (Jc r) (JZ s)) O) (Nat.le_trans (Xc (Jc s) (JZ r)) O)) λg27=>QL (QH I Y9 Qo)<|QL (QR (vs:=[_,_]) I Qo .u1 (.skip (.skip .h2)) I)<|QL (QH I Y9 Qo)<|QL (QR (vs:=[_,_]) I Qo .here (.skip (.skip .h2)) I)<|Qc I (λ_ _ f k=>BH f k.1.1.1.1.2 k.1.1.1.2.2 (Nat.le_trans (JZ r) O) (Nat.le_trans (JZ s) O)) λg32=>Qc I (λ_ _ f k=>IS f k.1.2 k.2 (Int.mul_ne_zero (ZX r) (ZX s)) (Nat.le_trans (R3 (Xc (Jc r) (JZ s)) (Xc (Jc s) (JZ r))) O) (Nat.le_trans (Xc (JZ r) (JZ s)) O)) λx33=>Ji (vs:=[_,_,_,_]) I I I Ql I .here tC (λ_ h=>h.1.1.1.1.1) .h4 wV<|Q3<|QD<|QT ?_
 exact QO (_) rfl (.Jv (c:=[_,_,_,_]) I Ql .here .nil) rfl λF h9=>(by rw[V0];exact⟨h9.2.1,h9.2.2⟩)
theorem uU{x:Fr}{r:Rat}(hF:Fits F w)(h:Jz F x r)(h0:r.num≠0)(hr:Jn r<=100000000):YL prog 208 [x.v] w F r⁻¹:=by
 refine QU.intro (G:=λF=>Jz F x r) func208 rfl wy rfl rfl hF (λF' hF'=>h.le hF')<|QGi<|JE rfl (vs:=[_,_,_,_]) rfl λb1=>Qg KM λb2=>QF4<|QGi<|QA (QH rfl Y9 Qo)<|QA (QR (vs:=[_,_]) rfl Qo .u1 (.skip (.skip .h2)) rfl)<|QA (QH rfl KA Qo)<|QA (wH I Qo .u1)<|QJ rfl (λ_ _ f k=>IS f k.2 k.1 h0 (Nat.le_trans (JZ r) O) (Nat.le_trans (Jc r) O)) λx7=>QZ (vs:=[_,_,_,_]) rfl rfl rfl Ql rfl .here .h4 wV<|QF4<|QT ?_
 exact QO (_) rfl (.Jv (c:=[_,_,_,_]) I Ql .here .nil) rfl λF h9=>(by rw[Rat.inv_def];exact⟨h9.2.1,h9.2.2⟩)
theorem QBj{x y:Fr}{r s:Rat}(hF:Fits F w)(h:Jz F x r)(h':Jz F y s)(h0:s.num≠0)(hr:Jn r<=100000000)(hs:Jn s<=100000000):YL prog 94 [x.v,y.v] w F (r/s):=by
 refine QU.intro (G:=λF=>Jz F x r/\Jz F y s) func94 rfl wy rfl rfl hF (λF' hF'=>⟨h.le hF',h'.le hF'⟩)<|QGi<|JE rfl (vs:=[_,_,_,_]) rfl λb2=>JE rfl (vs:=[_,_,_,_]) rfl λb3=>Qg KM λb4=>QF4<|QG<|JL (.cons _ tC) mixed wm<|QL (wJ I Ql .u1)<|QL (wJ I Ql .here)<|Qc rfl (λ_ _ f k=>uU f ⟨k.2.1,k.2.2⟩ h0 hs) λx7=>Qc rfl (λ_ _ f k=>Gc f ⟨k.1.1.1,k.1.1.2⟩ ⟨k.2.1,k.2.2⟩ hr (Nat.le_trans (yK h0) hs)) λx8=>Ji (vs:=[_,_,_,_]) rfl rfl rfl Ql rfl .here tC (λ_ h=>h.1.1) .h4 wV<|Q3<|QD<|QT ?_
 exact QO (_) rfl (.Jv (c:=[_,_,_,_]) I Ql .here .nil) rfl λF h9=>(by rw[Rat.div_def];exact⟨h9.2.1,h9.2.2⟩)
def Wx(r s:Rat):Int:=if r<s then -1 else if r=s then 0 else 1
theorem vF(r s:Rat):Za (r.num*s.den) (s.num*r.den)=Wx r s:=by
 unfold Wx;rcases Int.lt_trichotomy (r.num*s.den) (s.num*r.den)with h | h | h
 ·rw[WS h,if_pos ((Rat.lt_iff r s).2 h)]
 ·rw[h,M6,if_neg (by rw[Rat.lt_iff];omega),if_pos (Rat.eq_iff_mul_eq_mul.2 h)]
 rw[Hq h,if_neg (by rw[Rat.lt_iff];omega),if_neg (by rw[Rat.eq_iff_mul_eq_mul];omega)]
theorem Ie{x y:Fr}{r s:Rat}(hF:Fits F w)(h:Jz F x r)(h':Jz F y s)(hr:Jn r<=100000000)(hs:Jn s<=100000000):Qb prog 111 [x.v,y.v] w F (.int .i64 (Wx r s)):=by
 rw[<-vF];refine QU.intro (G:=λF=>Jz F x r/\Jz F y s) func111 rfl wy rfl rfl hF (λF' hF'=>⟨h.le hF',h'.le hF'⟩)<|QGi<|JE rfl (vs:=[_,_,_,_]) rfl λb2=>JE rfl (vs:=[_,_,_,_]) rfl λb3=>wQ rfl<|QG<|JL QGJ mixed wm<|QL (QH rfl KA Qo)<|QL (wH I Qo .u1)<|QL (QH rfl Y9 Qo)<|QL (QR (vs:=[_,_]) rfl Qo .here (.skip (.skip .h2)) rfl)<|Qc rfl (λ_ _ f k=>BH f k.1.1 k.2.2 (Nat.le_trans (Jc r) O) (Nat.le_trans (JZ s) O)) λg9=>QL (QH rfl KA Qo)<|QL (wH I Qo .here)<|QL (QH rfl Y9 Qo)<|QL (QR (vs:=[_,_]) rfl Qo .u1 (.skip (.skip .h2)) rfl)<|Qc rfl (λ_ _ f k=>BH f k.1.2.1 k.1.1.2 (Nat.le_trans (Jc s) O) (Nat.le_trans (JZ r) O)) λg14=>Qc rfl (λw F hF ⟨⟨⟨⟨hn,hd⟩,⟨kn,kd⟩⟩,h9⟩,h14⟩=>QBr hF h9 h14 (Nat.le_trans (Xc (Jc r) (JZ s)) O) (Nat.le_trans (Xc (Jc s) (JZ r)) O)) λ_=>QL (QF rfl)<|Q3<|QD<|QT ?_
 exact QHT I I I w8
theorem Pe{x:Fr}{r:Rat}{k:Int}(hF:Fits F w)(h:Jz F x r)(hk:0<=k)(hK:k<=9223372036854775807)(hz:k.toNat*Jn r<=500000000):YL prog 262 [x.v,.int .i64 k] w F (r^k.toNat):=by
 refine QU.intro (G:=λF=>Jz F x r) func262 rfl wy rfl rfl hF (λF' hF'=>h.le hF')<|QGi<|JE rfl (vs:=[_,_,_,_]) rfl λb2=>Qg KM λb4=>QF4<|QG<|JL (.cons _ tC) mixed wm<|QL (QH rfl KA Qo)<|QL (wH I Qo .here)<|QL (QC rfl)<|Qc rfl (λ_ _ f k=>jS f k.1 hk hK (Nat.le_trans (Nat.mul_le_mul_left _ (Jc r)) hz)) λg8=>QL (QH rfl Y9 Qo)<|QL (QR (vs:=[_,_]) rfl Qo .here (.skip (.skip .h2)) rfl)<|QL (QC rfl)<|Qc rfl (λ_ _ f k=>jS f k.1.2 hk hK (Nat.le_trans (Nat.mul_le_mul_left _ (JZ r)) hz)) λg12=>QL (XL rfl U2 KM (.cons (vs:=[_,_]) rfl rfl rfl .h2 (.cons (vs:=[_,_]) rfl rfl rfl (.skip (.skip .h2)) .nil)))<|Ji (vs:=[_,_,_,_]) rfl rfl rfl Ql rfl .here tC (λ_ h=>h.1.1) .h4 wV<|Q3<|QD<|QT ?_
 exact QO (⟨g8,g12⟩) I (.Jv (c:=[_,_,_,_]) I Ql .here .nil) rfl λF h9=>⟨by rw[Rat.num_pow];exact h9.1.2,by rw[Rat.den_pow,Int.natCast_pow];exact h9.2⟩
theorem Yk.kind{s:Int}(h:Yk w s q n cap z):(q.isNone=true/\s=z/\-9223372036854775808<=z/\z<=9223372036854775807)\/(q.isNone=false/\¬(-9223372036854775808<=z/\z<=9223372036854775807/\z≠-9223372036854775808)):=by
 rcases h with ⟨rfl,_,_,h1,h2,h3⟩ | ⟨b,off,l,rfl,_,_,_,_,_,_,_,hs,hz,hd⟩
 ·exact .inl ⟨rfl,h1,h2,h3⟩
 refine .inr ⟨rfl,?_⟩;rcases hs with rfl | rfl<;>omega
theorem yW(hF:Fits F w)(h:J5 F g a):QU prog 206 [g.v] w F (λ(c:Int×Bool)=>.tuple #[.int .i64 c.1,.bool c.2])
  (λc _=>(c.2=true/\c.1=a/\-9223372036854775808<=a/\a<=9223372036854775807)\/(c.2=false/\¬(-9223372036854775808<=a/\a<=9223372036854775807/\a≠-9223372036854775808))):=by
 have hk:=Yk.kind (h w hF.r);refine QU.intro (G:=λF=>J5 F g a) func206 rfl wy rfl rfl hF (λF' hF'=>h.le hF')<|QGi<|JE rfl (vs:=[_,_]) rfl λb1=>QF6 rfl<|wQ rfl<|QG<|JL QGJ mixed wm<|QL (QH rfl Pk Qu)<|QL (Qh rfl Qu .here .h1)<|QL (QH rfl EU GQ)<|QL (Qh rfl GQ .here (.skip .h1))<|QL (Wn rfl rfl Vj)<|QL (QF rfl)<|QL (QF rfl)<|Q3<|QD<|QT ?_
 exact J9 ((g.s,g.q.isNone)) I (wO I I) rfl λF _=>hk
theorem LU{N:Nat}{m:Sl}{w0:World}{F0:Gs}{bs:List (Nat×Obj)}{G:Gs->Prop}{T:TypeId}{l:List Int}(hx:ev m x=some (.pointer (some ⟨b,off+i*1,none⟩)))(ht:Zm P T=some (false,n))(hr:∀F,G F->K2 F ⟨some ⟨b,off,none⟩,k,cap⟩ l)(hi:i<l.length):
  Qt P N m (St ⟨w0,F0,bs,G⟩) (.load T x) ty (.int .u64 (l.getD i 0)):=λa w _ _ _ _ ha hw=>by
 obtain⟨F,hw⟩:=hw;obtain⟨q,cap',e,_,_,hc⟩:=(hr F hw.hG).1 w hw.fits.r;obtain⟨b',off',e1,_,e2⟩:=hc i hi;simp only[Sr.v,Value.slice.injEq]at e;have e3:=e.1.trans e1;simp only[Option.some.injEq,Addr.mk.injEq]at e3;obtain⟨rfl,rfl,_⟩:=e3;have hc':w.cell? ⟨b,off+i*1,none⟩=some (.int .u64 (l.getD i 0)):=by rw[Nat.mul_one];exact e2
 have hrun:=Zi (P:=P) ht hc';simp at hrun;simp[execOp,ha.ev hx,Instr.loadAt,Instr.sureAddr,hrun]
theorem K2.at{r:Sr}{l:List Int}(h:K2 F r l){w:World}(hw:Fits F w)(hl:l≠[]):r.n=l.length/\∃b off,r.q=some ⟨b,off,none⟩:=by
 obtain⟨q,cap,e,_,_,hc⟩:=h.1 w hw.r;have hlen:0<l.length:=by cases l with | nil=>exact absurd rfl hl | cons=>simp
 obtain⟨b,off,e1,_,_⟩:=hc 0 hlen;simp only[Sr.v,Value.slice.injEq]at e;exact⟨e.2.1,b,off,e.1.trans e1⟩
theorem K2.len{r:Sr}{l:List Int}(h:K2 F r l){w:World}(hw:Fits F w):r.n=l.length:=by
 obtain⟨q,cap,e,_,_,hc⟩:=h.1 w hw.r;simp only[Sr.v,Value.slice.injEq]at e;exact e.2.1
theorem qV(h1:2^k<=z.natAbs)(h2:z.natAbs<2^(k+1)):sz z=k+1:=by
 have a:=(XF z (k+1)).2 h2;have b:¬sz z<=k:=λh=>wk<|(XF z k).1 h
 omega
theorem CP{l:List Int}(hd:DG W l)(hn:NZ l)(hl:l≠[]){a:Int}(ha:dv W l=Jj a):sz a=64*(l.length-1)+Lib.bitLen (l.getD (l.length-1) 0).toNat/\Lib.bitLen (l.getD (l.length-1) 0).toNat<=64:=by
 rcases Fy l with h | ⟨m,x,rfl⟩
 ·exact absurd h hl
 have hx:=hd x wz;have hx0:x≠0:=by intro e;subst e;simp[NZ]at hn
 have hm:DG W m:=hd.left;have e1:((m++[x]).getD ((m++[x]).length-1) 0)=x:=wz;rw[e1];have e2:(m++[x]).length-1=m.length:=wz;rw[e2];have hW:W=18446744073709551616:=rfl;obtain⟨y,rfl⟩:=Int.eq_ofNat_of_zero_le hx.1;rw[Int.toNat_natCast];have hy1:y<2^64:=by have:=hx.2;rw[hW]at this;omega
 obtain⟨g1,g2,g3⟩:=Lib.bitLenAux_bounds 64 y hy1 O;change 1<=Lib.bitLen y at g1;change 2^(Lib.bitLen y-1)<=y at g2;change y<2^Lib.bitLen y at g3;have g4:Lib.bitLen y<=64:=Lib.bitLen_le y 64 O hy1;refine⟨?_,g4⟩;rw[XX]at ha;have h0:=Q4 (by decide:(0:Int)<W) hm;have h1:=YB (by decide:(0:Int)<W) hm;obtain⟨d,hd'⟩:=Int.eq_ofNat_of_zero_le h0;have hWp:W^m.length=((2^(64*m.length):Nat):Int):=by
  rw[hW,Nat.pow_mul];simp
 rw[hWp]at ha h1;rw[hd']at ha h1;have hna:a.natAbs=d+2^(64*m.length)*y:=by
  have:((a.natAbs:Nat):Int)=((d+2^(64*m.length)*y:Nat):Int):=by
   rw[<-Kf,<-ha];simp
  exact Int.ofNat.inj this
 have hlt:d<2^(64*m.length):=O;obtain⟨k,hk⟩:∃k,Lib.bitLen y=k+1:=⟨_,(Nat.sub_add_cancel g1).symm⟩;rw[hk]at g2 g3 ⊢;rw[Nat.add_sub_cancel]at g2;have hp:2^(64*m.length+k)=2^(64*m.length)*2^k:=Nat.pow_add _ _ _;have hp':2^(64*m.length+k+1)=2^(64*m.length)*2^(k+1):=by rw[Nat.add_assoc,Nat.pow_add]
 refine qV (k:=64*m.length+k) ?_ ?_
 ·rw[hna,hp];exact Nat.le_trans (Nat.mul_le_mul_left _ g2) (Nat.le_add_left _ _)
 rw[hna,hp'];have h2:2^(64*m.length)*(y+1)<=2^(64*m.length)*2^(k+1):=Nat.mul_le_mul_left _ g3;rw[Nat.mul_add]at h2;omega
theorem uZ(hF:Fits F w)(h:J5 F g a)(hza:sz a<=1000000000):Qb prog 288 [g.v] w F (.int .i64 (sz a)):=by
 refine QU.intro (G:=λF=>J5 F g a) func288 rfl wy rfl rfl hF (λF' hF'=>h.le hF')<|QGi<|JE rfl (vs:=[_,_]) rfl λb1=>wQ rfl<|QGi<|QA (wH I Qo .here) ?_
 refine QJ I (λ_ _ f k=>Mt f (by assumption)) (λc7=>?_);rcases c7 with ⟨v7,l7⟩;dsimp only;refine JN _ (λw F hF ⟨hG0,⟨h7,h7p⟩⟩=>And.intro h7.2 h7p) (λp7=>JN _ (λ_ _ f k=>k.2.1.len f) λhl7=>?_);have hlen7:=X3 p7.1.1 p7.1.2 p7.2 hza
 try dsimp only at hl7
 refine QHB 11 I<|QA (Qf I Vj)<|QHB 3 I ?_
 refine QP I (λhc=>?_) λhc=>?_
 ·refine wA 6 I ?_;exact QO () I (wN I) (by have h0:l7=[]:=List.eq_nil_of_length_eq_zero (by simp at hc;omega);have e:=p7.2;rw[h0]at e;have:a=0:=(by have:=Kf a;simp at e;omega);subst this;rfl) w8
 refine QHC 4 I ?_;have hne:l7≠[]:=by rintro rfl;simp at hc;simp at hl7;omega
 have hpos:0<l7.length:=by cases l7 with | nil=>exact absurd rfl hne | cons=>simp
 have hsp:=CP p7.1.1 p7.1.2 hne p7.2;refine JN _ (λ_ _ f k=>(k.2.1.at f hne).2) (λhq7=>?_);obtain⟨qb,qo,hq7⟩:=hq7;obtain⟨vq,vn,vcap⟩:=v7
 try dsimp only at hq7 hl7
 subst hq7;subst hl7;dsimp only;refine QF5 I<|QA (Qf I Vj)<|QA (J1 I I O)<|QA (Vm I I O)<|wB 2 I<|QA (Qf I Vj)<|QA (J1 I I O)<|QA (Qx (i:=l7.length-1) rfl wM Vj Nr O)<|QA (LU I Nr (λF h9=>h9.2.1) O)<|QJ I (λ_ _ f k=>kJ f (p7.1.1.getD wu _).1 (by have:=(p7.1.1.getD wu (l7.length-1)).2;have hW:W=18446744073709551616:=rfl;omega)) λ_=>QA (Qm I I O)<|wQ I<|QT ?_
 exact QO () I (wN I) (congrArg (Value.int .i64) (wk hsp.1)) w8
def DD{l:List UInt8}(h:XT l=true):sz (JF l:Int)<=4*l.length:=by
 rw[XF,Int.natAbs_natCast,Nat.pow_mul];exact Nat.lt_of_lt_of_le (VM h) (Nat.pow_le_pow_left wu _)
def QBU(n:Nat):(if(n:Int)<18 then(n:Int)else 18)=((min 18 n:Nat):Int):=by split<;>omega
def F8:JF (l.take (k+n))=JF (l.take k)*10^((l.drop k).take n).length+JF ((l.drop k).take n):=by
 rw[<-YG,List.take_add]
def UU(k:Nat):sz ((10:Int)^k)<=4*k+1:=by have:=DE 10 k;rw[show sz 10=4 by decide]at this;omega
structure dj(n:Nat) where
 k:Nat
 g:Bg
 le:k<=n
theorem N7(hF:Fits F w)(hs:XT (Lib.trimPrefix s [45])=true)(hl:s.length<=10000000):Ze prog 205 [tx s] w F (Zx s):=by
 have hll:(Lib.trimPrefix s [45]).length<=s.length:=by unfold Lib.trimPrefix;split<;>simp
 have hval:Zx s=if Lib.hasPrefix s [45]then -(JF (Lib.trimPrefix s [45]):Int)else(JF (Lib.trimPrefix s [45]):Int):=by
  unfold Zx Lib.trimPrefix;split<;>simp_all
 rw[hval];refine QU.intro (G:=λ_=>True) func205 rfl wy rfl rfl hF w8<|QGi<|Qg GY λb2=>QF4<|wR rfl<|QJ rfl (λ_ _ f _=>Al f ) λ_=>wQ rfl<|wR rfl<|QJ rfl (λ_ _ f k=>DB f ) λ_=>wQ rfl<|QGi<|QA (XL rfl QBJ GY .nil)<|Qg GY λb4=>QZ (vs:=[_,_]) rfl rfl rfl Qo rfl .here .h2 wT ?_
 refine QHB 4 I ?_;generalize Lib.trimPrefix s [45]=l at *
 refine Xf (ι:=dj l.length) (λi=>[(0,tx (l.drop i.k)),(2,.pointer (some ⟨b2,0,none⟩)),(4,.pointer (some ⟨b4,0,none⟩)),(3,.bool (Lib.hasPrefix s [45]))]) (λi=>[(b4,.cells #[.int .i64 i.g.s,.slice i.g.q i.g.n i.g.cap] 93 (0,0)),(b2,.cells #[.int .i64 0,.slice none 0 0] 93 (0,0))]) (λi F=>J5 F i.g (JF (l.take i.k))) (λi=>l.length-i.k)
  ⟨0,⟨0,none,0,0⟩,Nat.zero_le _⟩ wV QGJ (λF _=>J5.small F wu wu) λi=>?_
 refine wA 4 I<|QA (Js I XC)<|QHB 3 I ?_
 refine QP I (λhc=>?_) λhc=>?_
 ·refine QHC 6 I<|QA (Js I XC)<|QA (jK I I) ?_
  rw[QBU];have hk0:i.k<l.length:=by simp at hc;omega
  have hpl:((l.drop i.k).take (min 18 (l.drop i.k).length)).length=min 18 (l.drop i.k).length:=wz;have hpa:XT ((l.drop i.k).take (min 18 (l.drop i.k).length))=true:=Hr (Ee hs _) _;have hp18:=VM hpa;have hpz:(10:Nat)^((l.drop i.k).take (min 18 (l.drop i.k).length)).length<=10^18:=Nat.pow_le_pow_right wu O;have hm0:0<min 18 (l.drop i.k).length:=w6;have hsk:sz (JF (l.take i.k):Int)<=40000000:=Nat.le_trans (DD (Hr hs _)) w6;refine wQ rfl<|wR rfl<|QF5 rfl<|QA (WK (min 18 (l.drop i.k).length) rfl rfl XC rfl O)<|QJ rfl (λ_ _ f k=>ua f O (CT hpa (by intro e;rw[e]at hpl;simp at hpl;omega))) λ_=>QHB 8 I<|XN 8 QGJ mixed wm wm ?_
  simp only[List.take_succ_cons,List.take_zero,List.drop_succ_cons,List.drop_zero];refine QL (wH I Qo .here)<|Qc I (λ_ _ f k=>Oi f O O) λg27=>QL (QC I)<|Qc I (λ_ _ f k=>jS f k.2 O O (by rw[Int.toNat_natCast,show sz 10=4 by decide];omega)) λg29=>Qc I (λ_ _ f k=>BH f k.1.1.1 k.2 O (by rw[Int.toNat_natCast];exact Nat.le_trans (UU _) O)) λg30=>QL (QC I)<|Qc I (λ_ _ f k=>Oi f O O) λg32=>Qc I (λ_ _ f k=>L8 f k.1.2 k.2 (Nat.le_trans (Xc hsk (UU _)) (by rw[Int.toNat_natCast];omega)) (Nat.le_trans (DD hpa) O)) λg33=>KH<|QZ (vs:=[_,_]) I I I Qo I .here .h2 wT<|QHB 5 I<|QA (Zy (min 18 (l.drop i.k).length) rfl rfl XC I O)<|wB 2 I<|Qi ?_
  refine Qj (⟨i.k+min 18 (l.drop i.k).length,g33,w6⟩:dj l.length) w6 ⟨(by show some (tx _)=some (tx _);simp),rfl,rfl,rfl,trivial⟩ QGJ (λF ⟨_,h33⟩=>by
   show J5 F g33 (JF (l.take (i.k+min 18 (l.drop i.k).length)):Int);rw[F8];rw[Int.toNat_natCast]at h33;have e:((l.drop i.k).take (min 18 (l.drop i.k).length)).length=min 18 (l.drop i.k).length:=wz;rw[e,Int.natCast_add,Int.natCast_mul,Int.natCast_pow];exact h33)
 refine Qv ?_
 repeat first|refine QV ?_|refine QQ wy ?_
 refine QW<|QHD 7 I ?_
 have hdone:l.take i.k=l:=List.take_of_length_le (by have:=i.le;simp at hc;omega);clear hc;refine QP I (λhc=>?_) λhc=>?_
 ·refine QGi<|QA (wH I Qo .here)<|QJ I (λ_ _ f k=>AN f k) λg39=>QZ (vs:=[_,_]) I I I Qo I .u1 .h2 wT<|QF4<|QT ?_
  exact QO (_) rfl (.Jv (c:=[_,_]) I Qo .u1 .nil) rfl λF ⟨hO,h39⟩=>(by rw[hdone]at h39;rw[if_pos hc];exact h39)
 refine QHC 4 I<|QA (wH I Qo .here)<|QZ (vs:=[_,_]) I I I Qo I .u1 .h2 wT<|QF4<|QT ?_
 exact QO (_) rfl (.Jv (c:=[_,_]) I Qo .u1 .nil) rfl λF hO=>(by rw[hdone]at hO;rw[if_neg (by simp[hc])];exact hO)
section
variable[Dr][df:Df]{P:Program}{Q:Exit->Act->World->Prop}{N:Nat}{m:Sl}{E E0:Env}{ops:Array Oper}{l:List Oper}{w0:World}{F0:Gs}{bs:List (Nat×Obj)}{G:Gs->Prop}
theorem St.xx(h:St ⟨w0,F0,bs,G⟩ w)(c:Array Value)(T:TypeId):St ⟨w0,F0,bs,λF=>G F/\F w.heap.size=some (c,T)⟩ (w.alloc (.cells c T)):=by
 obtain⟨F,h⟩:=h;have hnone:=h.fits.none (Nat.le_refl w.heap.size);have hle:Gs.le F (λi=>if i=w.heap.size then some (c,T)else F i):=λi x hx=>by
  by_cases e:i=w.heap.size
  ·subst e;rw[hnone]at hx;cases hx
  show(if _ then _ else _)=_;rw[if_neg e];exact hx
 have hnew:(w.alloc (.cells c T)).heap[w.heap.size]?=some (.cells c T):=by show(w.heap.push _)[_]?=_;simp
 refine⟨_,Gs.le_trans h.le hle,λb hb=>?_,⟨λb c' T' hb=>?_,λb c' fr hb=>?_⟩,h.ext.alloc _,λk hk=>?_,h.nd,λF' hF'=>⟨h.g F' (Gs.le_trans hle hF'),hF' _ _ (if_pos rfl)⟩⟩
 ·have hb2:b<w.heap.size:=Nat.lt_of_lt_of_le hb h.ext.size;rw[if_neg O];exact h.old b hb
 ·by_cases e:b=w.heap.size
  ·subst e;rw[if_pos rfl]at hb;cases hb;exact⟨_,hnew⟩
  rw[if_neg e]at hb;obtain⟨fr,e2⟩:=h.fits.row b c' T' hb;exact⟨fr,by rw[Below.heap_alloc _ _ _ (h.fits.lt hb)];exact e2⟩
 ·by_cases e:b=w.heap.size
  ·subst e;rw[hnew]at hb;cases hb;show(if _ then _ else _)=_;rw[if_pos rfl]
  show(if _ then _ else _)=_;rw[if_neg e];have hlt:b<w.heap.size:=by
   rcases Nat.lt_or_ge b w.heap.size with g | g
   ·exact g
   exfalso;have:(w.heap.push (.cells c T))[b]?=some (.cells c' 289 fr):=hb;rw[Array.getElem?_eq_none w6]at this;cases this
  rw[Below.heap_alloc _ _ _ hlt]at hb;exact h.fits.all b c' fr hb
 obtain⟨h1,h2,h3⟩:=h.bx k hk;have hlt:k.1<w.heap.size:=by
  rcases Nat.lt_or_ge k.1 w.heap.size with g | g
  ·exact g
  rw[Array.getElem?_eq_none g]at h1;cases h1
 exact⟨by rw[Below.heap_alloc _ _ _ hlt];exact h1,h2,by rw[if_neg O];exact h3⟩
section
variable{d:Nat}{ty:TypeId}{pos:String}{aft:Array Edge}
theorem Qs{t e:TypeId}{sz:Nat}{z:List Value}{g:Bool}{parts:Array (Nat×Operand)}{ps:List (Nat×Value)}(hp:Vo m parts.toList=some ps)(ht:P.underlying t=some (.slice e))(hs:Zm P e=some (g,sz))(hz:XE P e=some z)
  (hc:YU sz 0 ps=some cs) (hl:cs.length=n*sz) (k:∀b,JS P ops Q l N ((d,.slice (some ⟨b,0,none⟩) n n)::m) ⟨w0,F0,bs,λF=>G F/\F b=some (cs.toArray,e)⟩) (h24:Nat.ble (n*sz) 16777216=true:=by rfl) (hn:Nat.beq (n*sz) 0=false:=by rfl)
  (hd:J6 N (some d)=true:=by rfl):JS P ops Q (⟨some d,.buildSlice t n parts,ty,pos,aft,none⟩::l) N m ⟨w0,F0,bs,G⟩:=λa w ha hw =>
 wpList_plain rfl λ_ hK=>upon_value (YF ha hp ht hs hz hc hl h24 hn) (hK _ _ (k _ _ _ (ha.put hd _) (hw.xx _ _)))
theorem YC{t e:TypeId}{sz bytes:Nat}{z:List Value}{g:Bool}{X Y:Operand}{x y:Value}{news:List Value}{bs1:List (Nat×Obj)}(hx:ev m X=some x)(hy:ev m Y=some y)(ht:BU P t=some e)(hs:Zm P e=some (g,sz))(hz:XE P e=some z)(hzl:z.length=sz)(hby:ZP P e=some bytes)
  (hr:Q6 e sz x n olds ob) (hs2:Src ⟨w0,F0,bs1++ob,G⟩ sz y k news) (h63:n+k<=9223372036854775807) (h47:(n+k)*bytes<=140737488355328) (h1:∀v∈news,v.oneCell'=true)
  (kk:∀v' ob',Q6 e sz v' (n+k) (olds++news) ob'->JS P ops Q l N ((d,v')::m) ⟨w0,F0,bs1++ob',G⟩) (hu:Ga e=true:=by rfl) (hd:J6 N (some d)=true:=by rfl) :
  JS P ops Q (⟨some d,.call ⟨.builtin .append,#[X,Y],#[t,t]⟩,ty,pos,aft,none⟩::l) N m ⟨w0,F0,bs1++ob,G⟩ :=
 X1 List.perm_append_comm (Sz hx hy ht hs hz hzl hby hr ⟨hs2.len,hs2.rd.imp id λ⟨a,c,e1,e2⟩=>⟨a,c,e1,λw hw=>e2 w (hw.perm List.perm_append_comm)⟩⟩ h63 h47 h1
  (λv' ob' h=>X1 List.perm_append_comm (kk v' ob' h)) hu hd)
end
theorem Own.skip{l:List (Nat×Obj)}{o:Obj}(h:Own l b o f):∀p:List (Nat×Obj),Own (p++l) b o (λo'=>p++f o')
 |[]=>h
 |_::p=>.there (h.skip p)
theorem Oa{T e:TypeId}{sz n':Nat}{v:Value}{u:Value}(hr:Q6 e sz v n cs ob)(hm:∀k∈ob,k∈bs)(hb:v = .slice (some ⟨b,0,none⟩) n n')(hx:ev m x=some (.pointer (some ⟨b,0+i*1,none⟩)))(ht:Zm P T=some (false,1))(hu:cs[i]?=some u):
  Qt P N m (St ⟨w0,F0,bs,G⟩) (.load T x) ty u:=λa w _ _ _ _ ha hw=>by
 obtain⟨F,hw⟩:=hw;cases hr with
 |nil=>simp at hu
 |some g1 g2 g3 g4 =>
  rename_i b' cap rest;simp only[Value.slice.injEq,Option.some.injEq,Addr.mk.injEq]at hb;have hbb:=hb.1.1;subst hbb;have hi:i<cs.length:=by rcases Nat.lt_or_ge i cs.length with h | h;exact h;rw[List.getElem?_eq_none h]at hu;cases hu
  have hc:w.cell? ⟨b',0+i*1,none⟩=some u:=by
   rw[Xt (hw.bx (b',.cells (cs++rest).toArray e (0,0)) (hm _ wz)).1,Nat.zero_add,Nat.mul_one,List.getElem?_append,if_pos hi];exact hu
  have hrun:=Zi (P:=P) ht hc;simp only[execOp,ha.ev hx,Instr.loadAt,Instr.sureAddr,Sem.run_bind,Sem.run_pure,Result.andThen_ok,hrun]
end
def hd(q:Nat):List UInt8:=if q=0 then[]else Lib.decDigits q
def kb(h:0<n):hd n=hd (n/10^18)++(if n/10^18=0 then Lib.decDigits (n%10^18)else Vp 18 (Lib.decDigits (n%10^18))):=by
 unfold hd;rw[if_neg O];split
 ·rename_i h0;rw[List.nil_append];congr 1;omega
 rename_i h0;rw[<-VA O 18 _ wu (Nat.mod_lt _ wu)];congr 1;rw[Nat.mul_comm];exact(Nat.div_add_mod n (10^18)).symm
theorem Oh{l:List Int}(hd:DG W l)(hn:NZ l)(h:dv W l<W):(l=[]\/l=[dv W l]):=by
 cases l with
 |nil=>exact .inl rfl
 |cons x r =>
  cases r with
  |nil=>right;simp
  |cons y r =>
   exfalso;have:=Dj (by decide:(0:Int)<W) hd hn wz;have h2:=YT (b:=W) wu (show 1<=(x::y::r).length-1 by simp);rw[Int.pow_one]at h2;omega
structure Cd(n:Nat) where
 l:List Int
 r:Sr
 ps:List (List UInt8)
 v:Value
 ob:List (Nat×Obj)
 dg:DG W l
 nz:NZ l
 le:(dv W l).toNat<=n
 hr:Q6 9 1 v ps.length (ps.map tx) ob
 ne:∀p∈ps,p≠[]
 inv:hd (dv W l).toNat++ps.reverse.flatten=hd n
theorem Av:∀ {ps:List (List UInt8)},(∀p∈ps,p≠[])->ps.length<=ps.flatten.length
 |[],_=>wz
 |p::ps,h=>by
  have h1:=Av (ps:=ps) (λq hq=>h q (by simp[hq]));have h2:0<p.length:=by
   have:=h p wz;cases p with | nil=>exact absurd rfl this | cons=>simp
  simp[List.length_flatten]at h1 ⊢;omega
def xD(h:n<2^k):(hd n).length<=k:=by
 unfold hd;split
 ·simp
 rename_i h0;rw[Lib.decDigits_length];have hk:0<k:=by rcases Nat.eq_zero_or_pos k with e | e;subst e;simp at h;omega;exact e
 exact Zj (Nat.lt_of_lt_of_le h (Nat.pow_le_pow_left wu k)) hk
def TH(ps:List (List UInt8)):ps.reverse.flatten.length=ps.flatten.length:=by
 induction ps with
 |nil=>rfl
 |cons p ps ih=>simp[List.flatten_append];simp[List.length_flatten]at ih ⊢;omega
def Cd.few(i:Cd n)(h:n<2^k):i.ps.length<=k:=by
 have h1:=Av i.ne;have h2:=congrArg List.length i.inv;rw[List.length_append,TH]at h2;have h3:=xD h;omega
def p6(h:l≠[]):Vp 18 l≠[]:=by
 unfold Vp;simp[h]
def Cd.next{n:Nat}(i:Cd n)(hl:i.l≠[])(q:List Int)(rq:Sr)(v':Value)(ob':List (Nat×Obj))(s:List UInt8)(hdq:DG W q)(hnq:NZ q)(hq:(dv W q).toNat=(dv W i.l).toNat/10^18)
  (hs:s=if(dv W q).toNat=0 then Lib.decDigits ((dv W i.l).toNat%10^18)else Vp 18 (Lib.decDigits ((dv W i.l).toNat%10^18)))
  (hr:Q6 9 1 v' (i.ps.length+1) (i.ps.map tx++[tx s]) ob'):Cd n where
 l:=q
 r:=rq
 ps:=i.ps++[s]
 v:=v'
 ob:=ob'
 dg:=hdq
 nz:=hnq
 le:=by have:=i.le;have:=Nat.div_le_self (dv W i.l).toNat (10^18);omega
 hr:=by simpa using hr
 ne:=by
  intro p hp;rcases List.mem_append.1 hp with h | h
  ·exact i.ne p h
  rw[List.mem_singleton.1 h,hs];split
  ·exact Yc _
  exact p6 (Yc _)
 inv:=by
  have h0:0<(dv W i.l).toNat:=by
   have h1:=Q4 (by decide:(0:Int)<W) i.dg;have h2:=mt (KY (by decide:(1:Int)<W) i.dg i.nz).1 hl;omega
  rw[<-i.inv,kb h0,<-hq,hs];simp[List.flatten_append]
def xM{q l:List Int}{b:Int}(hb:b=1000000000000000000)(h:dv W q=dv W l/b)(h0:0<=dv W l):(dv W q).toNat=(dv W l).toNat/10^18:=by
 subst hb;rw[h];omega
def kz{r l:List Int}{b:Int}(hb:b=1000000000000000000)(h:dv W r=dv W l%b)(h0:0<=dv W l):(dv W r).toNat=(dv W l).toNat%10^18/\dv W r<1000000000000000000/\0<=dv W r:=by
 subst hb;rw[h];omega
structure zC(b:Nat)(pre:List UInt8)(ps:List (List UInt8)) where
 k:Nat
 vt:List (Nat×Obj)
 le:k<=ps.length
 bl:Fh b (pre++(ps.drop k).reverse.flatten) vt
def kC(h:a≠0):(if a<0 then[45]else[])++hd a.natAbs=XV a:=by
 have h0:a.natAbs≠0:=O;unfold hd;rw[if_neg h0];by_cases h1:a<0
 ·rw[if_pos h1,ZT h1];rfl
 rw[if_neg h1,Jh O];rfl
theorem K2.base{x:Int}(h:F b=some ([Value.int .u64 x].toArray,289))(h0:0<x)(h1:x<W):K2 F ⟨some ⟨b,0,none⟩,1,1⟩ [x]:=by
 refine⟨λw hw=>?_,?_,?_⟩
 ·obtain⟨fr,e⟩:=hw b _ _ h;refine⟨_,1,rfl,wz,wu,λi hi=>?_⟩;have hi0:i=0:=by simp at hi;omega
  subst hi0;exact⟨b,0,rfl,⟨_,_,e⟩,by simp[World.cell?,e];rfl⟩
 ·intro y hy;rw[List.mem_singleton.1 hy];omega
 simp[NZ];omega
theorem DL(hF:Fits F w)(hG:JG F)(h:J5 F g a)(hza:sz a<=100000000):Qb prog 278 [g.v] w F (tx (XV a)):=by
 have hk:=Yk.kind (h w hF.r);have hn2:a.natAbs<2^sz a:=BA a;refine QU.intro (G:=λF=>JG F/\J5 F g a) func278 rfl wy rfl rfl hF (λF' hF'=>⟨hG.le hF',h.le hF'⟩)<|QGi<|JE rfl (vs:=[_,_]) rfl λb1=>wQ rfl<|QG<|QGi<|QA (QH rfl EU GQ)<|QA (Qh rfl GQ .here (.skip .h1))<|QA (Wn rfl rfl Vj)<|QE<|QD ?_
 refine QP I (λhc=>?_) λhc=>?_
 ·refine QGi<|QA (QH rfl Pk Qu)<|QA (Qh rfl Qu .here .h1)<|QJ rfl (λw F hF ⟨hGl,hB⟩=>xB hF hGl (by rcases hk with hk | hk;omega;rw[hk.1]at hc;cases hc) (by rcases hk with hk | hk;omega;rw[hk.1]at hc;cases hc)) λ_=>wQ rfl<|QT ?_
  exact QO () rfl (wN rfl) (by rcases hk with hk | hk;rw[hk.2.1];rfl;rw[hk.1]at hc;cases hc) w8
 refine QHC 4 I<|QA (wH I Qo .here) ?_
 refine QJ I (λw F hF ⟨hGl,hB⟩=>Mt hF (by assumption)) (λc20=>?_);rcases c20 with ⟨v20,l20⟩;dsimp only;refine JN _ (λw F hF ⟨⟨hGl,hB⟩,⟨h20,h20p⟩⟩=>And.intro h20.2 h20p) (λp20=>?_);have ha0:a≠0:=by rcases hk with hk | hk;rw[hk.1]at hc;cases hc;omega
 have hn20:(dv W l20).toNat=a.natAbs:=by rw[p20.2,Kf];rfl
 refine QHB 9 I<|Qs I (JU Vj) Nr QAl I I λb23=>QHB 10 I ?_
 refine Xf (ι:=Cd a.natAbs) (λi=>[(3,.bool (decide (a<0))),(4,.slice i.r.q i.r.n i.r.cap),(5,.slice (some ⟨b23,0,none⟩) 1 1),(6,i.v)]) (λi=>i.ob) (λi F=>JG F/\K2 F ⟨some ⟨b23,0,none⟩,1,1⟩ [1000000000000000000]/\K2 F i.r i.l) (λi=>(dv W i.l).toNat)
  ⟨l20,v20,[],.slice none 0 0,[],p20.1.1,p20.1.2,O,.nil,wz,by rw[hn20];simp⟩ wV tD (λF h9=>⟨h9.1.1.1,K2.base h9.2 wu wu,h9.1.2.1⟩) λi=>?_
 refine Xe _ (λ_ _ f h=>h.2.2.len f) (λhil=>wA 4 I<|QA (Qf I Vj)<|QHB 3 I ?_);refine QP I (λhc=>?_) λhc=>?_
 ·have hne:i.l≠[]:=by intro e;rw[e]at hil;simp at hc;simp at hil;omega
  have h0i:=Q4 (by decide:(0:Int)<W) i.dg;have hposi:0<(dv W i.l).toNat:=by
   have:=mt (KY (by decide:(1:Int)<W) i.dg i.nz).1 hne;omega
  have hlen:i.l.length<=10000000000:=by
   have hle:=i.le;have h3:=X3 (z:=dv W i.l) i.dg i.nz (by unfold Jj;split<;>omega) (Nat.le_trans (Kl (by omega:(dv W i.l).natAbs<=a.natAbs)) (Nat.le_trans hza wu));omega
  refine QHC 7 I ?_;refine QJ I (λ_ _ f k=>FB (r:=i.r) (r':=⟨some ⟨b23,0,none⟩,1,1⟩) (la:=i.l) (lb:=[1000000000000000000]) f k.2.2 k.2.1 (List.cons_ne_nil _ _) hlen (Nat.le_of_ble_eq_true I)) (λc30=>?_);rcases c30 with ⟨⟨v30,l30⟩,v30_,l30_⟩;dsimp only;refine JN _ (λw F hF ⟨⟨hGl,⟨hbase,hL⟩⟩,⟨⟨h30,h30_⟩,h30p⟩⟩=>And.intro h30.2 (And.intro h30_.2 h30p)) (λp30=>?_);have hb1:dv W [1000000000000000000]=1000000000000000000:=wz;have hq:=xM hb1 p30.2.2.1 h0i;have hr:=kz hb1 p30.2.2.2 h0i;have h1d:=Oh p30.2.1.1 p30.2.1.2 (by have hW:W=18446744073709551616:=rfl;omega);refine JN _ (λw F hF ⟨_,⟨⟨h30,h30_⟩,_⟩⟩=>And.intro (h30.len hF) (h30_.len hF)) (λpl=>QF5 rfl<|QA (QX rfl rfl)<|QA (QX rfl rfl)<|QF6 rfl<|wQ rfl<|QGi<|QF6 rfl<|QE<|QD ?_);refine GO (ι:=Unit) (λ_=>[(3,.bool (decide (a<0))),(5,.slice (some ⟨b23,0,none⟩) 1 1),(6,i.v),(7,.slice v30.q v30.n v30.cap),(9,tx (Lib.decDigits ((dv W i.l).toNat%10^18)))]) (λ_=>i.ob) (λ_ F=>JG F/\K2 F ⟨some ⟨b23,0,none⟩,1,1⟩ [1000000000000000000]/\K2 F v30 l30) ?_ ?_
  ·refine wR I<|QA (Qf I Vj)<|QHB 3 I ?_
   refine QP I (λhc=>?_) λhc=>?_
   ·have hl1:l30_=[dv W l30_]:=by
     rcases h1d with e | e
     ·exfalso;rw[e]at pl;simp at hc;simp at pl;omega
     exact e
    have hll:l30_.length=1:=by rw[hl1];rfl
    have hg0:l30_.getD 0 0=(((dv W i.l).toNat%10^18:Nat):Int):=by
     have:l30_.getD 0 0=dv W l30_:=by rw[hl1];simp
     rw[this];omega
    refine Xe _ (λw F hF ⟨_,⟨_,h⟩,_⟩=>(h.at hF (by intro e;rw[e]at hll;simp at hll)).2) (λhqb=>wA 2 I ?_);obtain⟨qb,qo,hqb⟩:=hqb;obtain⟨vq,vn,vcap⟩:=v30_;dsimp only at hqb pl;subst hqb;refine QA (Qx (i:=0) rfl rfl Vj Nr (by dsimp only;omega))<|QA (LU (l:=l30_) rfl Nr (λF h9=>h9.2.1.2) O) ?_
    rw[hg0];refine QJ I (λ_ _ f k=>Th f k.1.1 O) (λ_=>wB 2 I ?_);exact Xj () wW QGJ λF h9=>⟨h9.1.1.1,h9.1.1.2.1,h9.1.2.1.1⟩
   refine QM ?_;have e0:(dv W i.l).toNat%10^18=0:=by
    rcases h1d with e | e
    ·rw[e]at hr;simp at hr;omega
    have:=congrArg List.length e;simp at this;simp at hc;omega
   exact Xj () ⟨rfl,rfl,rfl,rfl,(by show some (tx _)=some (tx _);rw[e0,X7]),trivial⟩ QGJ λF h9=>⟨h9.1.1,h9.1.2.1,h9.2.1.1⟩
  intro xg9;refine GO (ι:=Unit) (λ_=>[(3,.bool (decide (a<0))),(5,.slice (some ⟨b23,0,none⟩) 1 1),(6,i.v),(7,.slice v30.q v30.n v30.cap),(9,tx ((if(dv W l30).toNat=0 then Lib.decDigits ((dv W i.l).toNat%10^18)else Vp 18 (Lib.decDigits ((dv W i.l).toNat%10^18)))))]) (λ_=>i.ob) (λ_ F=>JG F/\K2 F ⟨some ⟨b23,0,none⟩,1,1⟩ [1000000000000000000]/\K2 F v30 l30) ?_ ?_
  ·refine wR I<|QA (Qf I Vj)<|QHB 3 I ?_
   refine QP I (λhc=>?_) λhc=>?_
   ·have hq0:(dv W l30).toNat≠0:=by
     have h1:=Q4 (by decide:(0:Int)<W) p30.1.1;have h2:l30≠[]:=by intro e;rw[e]at pl;simp at hc;simp at pl;omega
     have:=mt (KY (by decide:(1:Int)<W) p30.1.1 p30.1.2).1 h2;omega
    have hd18:(Lib.decDigits ((dv W i.l).toNat%10^18)).length<=18:=by rw[Lib.decDigits_length];exact Zj (Nat.mod_lt _ wu) wu
    refine wA 2 I<|QA (Js I XC)<|QA (J1 I I O) ?_
    rw[show(18:Int)-((Lib.decDigits ((dv W i.l).toNat%10^18)).length:Int)=((18-(Lib.decDigits ((dv W i.l).toNat%10^18)).length:Nat):Int) by omega];refine QJ I (λ_ _ f _=>jB f w6 O) (λ_=>QF5 I<|QA (Xd I I (by rw[Lib.repeatL_length];simp only[List.length_singleton];omega))<|wB 2 I ?_);exact Xj () ⟨rfl,rfl,rfl,rfl,(by show some (tx _)=some (tx _);rw[if_neg hq0];rfl),trivial⟩ QGJ tA
   refine QM ?_;have hq0:(dv W l30).toNat=0:=by
    have h2:l30=[]:=List.eq_nil_of_length_eq_zero (by simp at hc;omega);rw[h2];rfl
   exact Xj () ⟨rfl,rfl,rfl,rfl,(by show some (tx _)=some (tx _);rw[if_pos hq0]),trivial⟩ QGJ w9
  intro xg11;refine wA 4 I<|GX I (JU Yf) Hx z_9 I I λb51=>?_
  have hfew:=i.few hn2;refine YC (bs1:=[_]) (ob:=i.ob) (k:=1) (sz:=1) (news:=[tx (if(dv W l30).toNat=0 then Lib.decDigits ((dv W i.l).toNat%10^18)else Vp 18 (Lib.decDigits ((dv W i.l).toNat%10^18)))]) I I Yf Hx z_9 I QBy i.hr (Src.OV (b:=b51) (T:=9) (fr:=(0,0)) (c:=1) List.mem_cons_self I) O O (λu hu=>by rw[List.mem_singleton.1 hu];rfl) (λv' ob' hr'=>QHB 7 I<|Qi ?_);exact Qj (i.next hne l30 v30 v' ob' (if(dv W l30).toNat=0 then Lib.decDigits ((dv W i.l).toNat%10^18)else Vp 18 (Lib.decDigits ((dv W i.l).toNat%10^18))) p30.1.1 p30.1.2 hq rfl hr') (by show(dv W l30).toNat<(dv W i.l).toNat;rw[hq];exact Nat.div_lt_self hposi wu) wV (.cons _ QGJ) w9
 refine Qv ?_
 repeat first|refine QV ?_|refine QQ wy ?_
 refine QW<|QD ?_
 have hi0:i.l=[]:=List.eq_nil_of_length_eq_zero (by simp at hc;omega);have hfl:i.ps.reverse.flatten=hd a.natAbs:=by have:=i.inv;rw[hi0]at this;simpa[hd]using this
 have hfew:=i.few hn2;have hflen:i.ps.reverse.flatten.length<=100000000:=by rw[hfl];exact Nat.le_trans (xD hn2) hza
 refine QGi<|Qg vj λb10=>QE<|QD ?_
 refine GO (ι:=zC b10 (if a<0 then[45]else[]:List UInt8) i.ps) (λj=>[(6,i.v),(10,.pointer (some ⟨b10,0,none⟩))]) (λj=>j.vt++i.ob) (λj F=>j.k=i.ps.length/\JG F) ?_ ?_
 ·refine wA 5 I ?_;refine QP I (λhc=>?_) λhc=>?_
  ·refine QB ?_;have hneg:a<0:=QGx hc;refine XA (bs1:=[_]++i.ob) rfl (List.Perm.refl _) (WY (s:=[45]) (Fh.fresh (b:=b10)) wz) (λvt=>JN _ (λ_ _ f h=>h.2) λhbl=>QE ?_);exact Xj (⟨i.ps.length,vt,Nat.le_refl _,by rw[if_pos hneg];simpa using hbl⟩:zC b10 (if a<0 then[45]else[]:List UInt8) i.ps) wT QGJ λF h=>⟨rfl,h.1.1⟩
  refine QM ?_;exact Xj (⟨i.ps.length,[_],Nat.le_refl _,by rw[if_neg (QGy hc)];simpa using(Fh.fresh (b:=b10))⟩:zC b10 (if a<0 then[45]else[]:List UInt8) i.ps) wT QGJ λF h=>⟨rfl,h.1⟩
 intro xg16;refine Xe _ (λ_ _ f h=>h.1) (λhk16=>?_);have hv6:∃q c6,i.v = .slice q i.ps.length c6:=by have:=i.hr;generalize i.v=v at this;generalize i.ps.map tx=q at this;generalize i.ps.length=n at this;generalize i.ob=o at this;cases this<;>exact⟨_,_,rfl⟩
 obtain⟨q6,c6,hv6⟩:=hv6;rw[hv6];refine wA 4 I<|QA (Qf I Yf)<|QA (J1 I I O)<|wQ I<|QS<|Xf (ι:=zC b10 (if a<0 then[45]else[]:List UInt8) i.ps) (λj=>[(6,.slice q6 i.ps.length c6),(10,.pointer (some ⟨b10,0,none⟩)),(11,.int .i64 ((j.k:Int)-1))]) (λj=>j.vt++i.ob) (λ_ F=>JG F) (λj=>j.k) xg16 ⟨rfl,rfl,(by rw[hk16];rfl),trivial⟩ QGJ tB λj=>?_
 have hjl:=j.le;refine wA 7 I ?_;refine QP I (λhc=>?_) λhc=>?_
 ·have hj0:0<j.k:=by simp at hc;omega
  obtain⟨b6,hb6⟩:∃b6,q6=some ⟨b6,0,none⟩:=by
   have:=i.hr;rw[hv6]at this;generalize i.ps.map tx=q at this;generalize i.ob=o at this;generalize hnn:i.ps.length=n at this;cases this with
   |nil=>omega
   |some=>exact⟨_,rfl⟩
  subst hb6;have hlt:j.k-1<i.ps.length:=O;have hjj:(j.k:Int)-1=((j.k-1:Nat):Int):=O;refine QHC 7 I<|QA (Qx (i:=j.k-1) rfl (congrArg (λz:Int=>some (Value.int .i64 z)) hjj) Yf Hx hlt)<|QA (Oa (i:=j.k-1) (u:=tx (i.ps[j.k-1])) (by have:=i.hr;rw[hv6]at this;exact this) (λk hk=>List.mem_append_right _ hk) rfl rfl Hx (by simp[hlt])) ?_
  have hdrop:(i.ps.drop (j.k-1)).reverse.flatten=(i.ps.drop j.k).reverse.flatten++i.ps[j.k-1]:=by
   rw[List.drop_eq_getElem_cons hlt,show j.k-1+1=j.k by omega];simp[List.flatten_append]
  have hbound:((i.ps.drop (j.k-1)).reverse.flatten).length<=100000000:=by
   have e:i.ps.reverse.flatten=(i.ps.drop (j.k-1)).reverse.flatten++(i.ps.take (j.k-1)).reverse.flatten:=by
    rw[<-List.flatten_append,<-List.reverse_append,List.take_append_drop]
   rw[e,List.length_append]at hflen;omega
  rw[hdrop,List.length_append]at hbound;refine XA I (List.Perm.refl _) (WY j.bl (by rw[List.length_append];have hp:(if a<0 then[45]else[]:List UInt8).length<=1:=(by split<;>simp);omega)) (λvt=>JN _ (λ_ _ f h=>h.2) λhbl=>QE<|Qi<|QHD 3 I<|QA (J1 I I O)<|wB 2 I ?_);exact Qj (⟨j.k-1,vt,O,by rw[hdrop,<-List.append_assoc];exact hbl⟩:zC b10 (if a<0 then[45]else[]:List UInt8) i.ps) (by show j.k-1<j.k;omega) ⟨rfl,rfl,(by show some (Value.int .i64 ((j.k:Int)-1-1))=some (Value.int .i64 (((j.k-1:Nat):Int)-1));rw[hjj]),trivial⟩ QGJ tA
 refine Qv ?_
 repeat first|refine QV ?_|refine QQ wy ?_
 refine QW<|QHD 3 I ?_
 have hj0:j.k=0:=by simp at hc;omega
 have hbl:=j.bl;rw[hj0,List.drop_zero,hfl,kC ha0]at hbl;refine MU (v:=tx (XV a)) hF rfl (enters_of func305 wy rfl) (λw' hw'=>Builder_String_any w.heap.size b10 (XV a) w' (hbl.is hw') (by obtain⟨F',h'⟩:=hw';exact h'.ext.size))<|wQ I<|QT ?_
 exact QO () I (wN I) rfl w8
def ZO(c:UInt8)(s:List UInt8):List UInt8×List UInt8×Bool:=if s.contains c then(s.takeWhile (· != c),(s.dropWhile (· != c)).drop 1,true)else(s,[],false)
theorem Te(c:UInt8)(s:List UInt8):Lib.indexByte s c=if s.contains c then((s.takeWhile (· != c)).length:Int)else -1:=by
 induction s with
 |nil=>rfl
 |cons b s ih =>
  unfold Lib.indexByte;by_cases h:b=c
  ·subst h;simp
  have h1:(b==c)=false:=beq_eq_false_iff_ne.2 h;have h2:(b != c)=true:=by simp[bne,h1]
  have h3:(c==b)=false:=beq_eq_false_iff_ne.2 (λe=>h e.symm);rw[ih];simp only[h1,Bool.false_eq_true,if_false,List.contains_cons,h3,Bool.false_or,List.takeWhile_cons,h2,if_true];by_cases h4:s.contains c=true
  ·simp only[h4,if_true];have:(((s.takeWhile (· != c)).length:Int)==-1)=false:=by
    apply beq_eq_false_iff_ne.2;omega
   simp only[this,Bool.false_eq_true,if_false,List.length_cons];omega
  have h5:¬c∈s:=by simpa using h4
  simp[h5]
theorem Kc(p:UInt8->Bool)(s:List UInt8):s.take (s.takeWhile p).length=s.takeWhile p/\s.drop (s.takeWhile p).length=s.dropWhile p:=by
 induction s with
 |nil=>simp
 |cons b s ih =>
  simp only[List.takeWhile_cons,List.dropWhile_cons];split<;>simp[ih]
theorem xZ(c:UInt8)(s:List UInt8):Lib.cut s [c]=ZO c s:=by
 have h:Lib.index s [c]=if s.contains c then((s.takeWhile (· != c)).length:Int)else -1:=by
  rw[<-Te];exact Lib.index_one s c
 unfold Lib.cut ZO;rw[h];by_cases h4:s.contains c=true
 ·simp only[h4,if_true];rw[if_pos O,Int.toNat_natCast,(Kc _ s).1];have:=(Kc (· != c) s).2;rw[<-List.drop_drop,this];rfl
 simp only[h4,Bool.false_eq_true,if_false];rw[if_neg O]
theorem G8{a b:List UInt8}(h:a.contains c=false):ZO c (a++c::b)=(a,b,true):=by
 have h1:∀x∈a,(x != c)=true:=λx hx=>by
  simp only[bne_iff_ne,ne_eq];rintro rfl;have:a.contains x=true:=by simpa using hx
  rw[this]at h;cases h
 unfold ZO;rw[if_pos wz];have h2:(a++c::b).takeWhile (· != c)=a:=by
  rw[List.takeWhile_append_of_pos h1];simp
 have h3:(a++c::b).dropWhile (· != c)=c::b:=by
  rw[List.dropWhile_append_of_pos h1];simp
 rw[h2,h3];rfl
def EZ{a:List UInt8}(h:a.contains c=false):ZO c a=(a,[],false):=by
 unfold ZO;rw[h];simp
def L7(h:XT l=true)(hc:UH c=false):l.contains c=false:=by
 cases hx:l.contains c with
 |false=>rfl
 |true =>
  have:c∈l:=by simpa using hx
  rw[XT,List.all_eq_true]at h;rw[h c this]at hc;cases hc
def DW(z:Int)(hc:UH c=false)(h:c≠45):(XV z).contains c=false:=by
 by_cases hz:z<0
 ·rw[ZT hz,List.contains_cons,L7 (JR _) hc];simp[h]
 rw[Jh O];exact L7 (JR _) hc
def xY(r:Rat):Lib.cut (JO r) [47]=if r.den=1 then(XV r.num,[],false)else(XV r.num,Lib.decDigits r.den,true):=by
 rw[xZ];unfold JO;split
 ·exact EZ (DW _ wu wu)
 exact G8 (DW _ wu wu)
theorem Vd(z:Int):Lib.trimPrefix (XV z) [45]=Lib.decDigits z.natAbs:=by
 unfold Lib.trimPrefix;by_cases h:z<0
 ·rw[ZT h];simp[Lib.hasPrefix,List.isPrefixOf]
 rw[Jh O,Yh (JR _)];simp
def Yo(h:XT l=true):Lib.trimPrefix l [45]=l:=by
 unfold Lib.trimPrefix;rw[Yh h];simp
def ZE(h:XT l=true):Zx l=JF l:=by
 unfold Zx;rw[Yh h];simp
def lim:Nat:=10^600
def TY(u:Nat):(600<(Lib.decDigits u).length)↔lim<=u:=by unfold lim;rw[Lib.decDigits_length];exact PM wu
def Lj:2^1800<lim:=by
 decide +kernel
def E2(z:Int):Bool:=decide (lim<=z.natAbs)
def XQ(r:Rat):Bool:=E2 r.num||E2 r.den
theorem j4(hF:Fits F w)(hG:JG F)(h:J5 F g a)(hza:sz a<=100000000):Qb prog 210 [g.v] w F (.bool (E2 a)):=by
 refine QU.intro (G:=λF=>JG F/\J5 F g a) func210 rfl wy rfl rfl hF (λF' hF'=>⟨hG.le hF',h.le hF'⟩)<|QGi<|JE rfl (vs:=[_,_]) rfl λb1=>wQ rfl<|QGi<|QA (wH I Qo .here)<|QJ rfl (λ_ _ f k=>uZ f k.2 (Nat.le_trans hza wu)) λ_=>QA (QN rfl rfl rfl)<|QF5 rfl ?_
 refine Qe (t:=6) rfl (λhb6=>?_) λhb6=>?_
 ·refine QK I I<|QA (wH I Qo .here)<|QK I I<|QJ I (λ_ _ f k=>DL f k.1.1 k.1.2 hza) λ_=>QK I I<|QJ I (λ_ _ f k=>DB f ) λ_=>QK I I<|QA (Js I XC)<|QHB 7 I ?_
  exact QO () I (wN I) (congrArg Value.bool (by rw[Vd];exact decide_eq_decide.2 (Iff.trans (b:=600<(Lib.decDigits a.natAbs).length) (TY a.natAbs).symm (by constructor<;>intro h<;>omega)))) w8
 refine QHB 10 I ?_;exact QO () I (wN I) (congrArg Value.bool (by have h1:=QGy hb6;have h2:sz a<=1800:=O;have h3:=(XF a 1800).1 h2;exact decide_eq_false (Nat.not_le.2 (Nat.lt_trans h3 Lj)))) w8
theorem MA{x:Fr}{r:Rat}(hF:Fits F w)(hG:JG F)(h:Jz F x r)(hz:Jn r<=100000000):Qb prog 96 [x.v] w F (.bool (XQ r)):=by
 refine QU.intro (G:=λF=>JG F/\Jz F x r) func96 rfl wy rfl rfl hF (λF' hF'=>⟨hG.le hF',h.le hF'⟩)<|QGi<|JE rfl (vs:=[_,_,_,_]) rfl λb1=>wQ rfl<|QGi<|QA (QH rfl KA Qo)<|QA (wH I Qo .here)<|QJ rfl (λ_ _ f k=>j4 (g:=x.n) f k.1 k.2.1 (Nat.le_trans (Jc r) hz)) λ_=>QF5 rfl ?_
 refine Qe (t:=6) rfl (λhb6=>?_) λhb6=>?_
 ·refine QHB 8 I ?_;exact QO () I (wN I) (congrArg Value.bool (by unfold XQ;rw[hb6,Bool.true_or])) w8
 refine QK I I<|QA (QH I Y9 Qo)<|QK I I<|QA (QR (vs:=[_,_]) I Qo .here (.skip (.skip .h2)) I)<|QK I I<|QJ I (λ_ _ f k=>j4 (g:=x.d) f k.1.1 k.1.2.2 (Nat.le_trans (JZ r) hz)) λ_=>QHB 5 I ?_
 exact QO () I (wN I) (congrArg Value.bool (by unfold XQ;rw[hb6,Bool.false_or])) w8
def AE(h:sz z<=k):(XV z).length<=k+2:=by
 have h2:=BA z;have h1:(Lib.decDigits z.natAbs).length<=k+1:=by
  rw[Lib.decDigits_length];exact Zj (Nat.lt_of_lt_of_le h2 (Nat.le_trans (Nat.pow_le_pow_right wu (show sz z<=k+1 by omega)) (Nat.pow_le_pow_left wu _))) O
 by_cases hz:z<0
 ·rw[ZT hz,List.length_cons];omega
 rw[Jh O];omega
def AD(n:Nat):XV (n:Int)=Lib.decDigits n:=by rw[Jh O];rfl
theorem Mz{x:Fr}{r:Rat}(hF:Fits F w)(hG:JG F)(h:Jz F x r)(hz:Jn r<=100000000):Qb prog 193 [x.v] w F (tx (JO r)):=by
 have hl1:=AE (Nat.le_trans (Jc r) hz);have hl2:=AE (Nat.le_trans (JZ r) hz);refine QU.intro (G:=λF=>JG F/\Jz F x r) func193 rfl wy rfl rfl hF (λF' hF'=>⟨hG.le hF',h.le hF'⟩)<|QGi<|JE rfl (vs:=[_,_,_,_]) rfl λb1=>wQ rfl<|QG<|QGi<|QA (wJ I Ql .here)<|QJ rfl (λ_ _ f k=>EP (x:=x) (r:=r) f ⟨k.2.1,k.2.2⟩) λ_=>QE<|QD ?_
 refine QP I (λhc=>?_) λhc=>?_
 ·refine QGi<|QA (QH I KA Qo)<|QA (wH I Qo .here)<|QJ I (λ_ _ f k=>DL (g:=x.n) f k.1.1 k.1.2.1 (Nat.le_trans (Jc r) hz)) λ_=>wQ I<|QT ?_
  exact QO () I (wN I) (congrArg tx (by unfold JO;rw[if_pos (by simp at hc;omega)])) w8
 refine QHC 3 I<|JL QGJ mixed wm<|QL (QH I KA Qo)<|QL (wH I Qo .here)<|Qc I (λ_ _ f k=>DL (g:=x.n) f k.1.1 k.1.2.1 (Nat.le_trans (Jc r) hz)) λ_=>QL (Xd I I w6)<|QL (QH I Y9 Qo)<|QL (QR (vs:=[_,_]) I Qo .here (.skip (.skip .h2)) I)<|Qc I (λ_ _ f k=>DL (g:=x.d) f k.1.1.1 k.1.1.2.2 (Nat.le_trans (JZ r) hz)) λ_=>QL (Xd I I w6)<|QL (QF I)<|Q3<|QD<|QT ?_
 exact QO () I (wN I) (congrArg tx (by unfold JO;rw[if_neg (by simp at hc;omega),AD];simp)) w8
theorem Mc{r:Rat}(hF:Fits F w)(hG:JG F)(hs:s=JO r)(hl:s.length<=10000000):YL prog 91 [tx s] w F r:=by
 have hcut:=xY r;rw[<-hs]at hcut;refine QU.intro (G:=λF=>JG F) func91 rfl wy rfl rfl hF (λF' hF'=>hG.le hF')<|QGi<|Qg KM λb2=>QF4<|wR rfl<|QJ rfl (λ_ _ f k=>dM f k O) λ_=>?_
 rw[hcut];refine QHB 13 I<|QA (Jw I)<|QE<|QD ?_
 refine QP I (λhc=>?_) λhc=>?_
 ·refine wR I<|QJ I (λ_ _ f k=>N7 f (by have h1:r.den=1:=(by by_cases h:r.den=1;exact h;rw[if_neg h]at hc;cases hc);rw[if_pos h1,Vd];exact JR _) (by have h1:r.den=1:=(by by_cases h:r.den=1;exact h;rw[if_neg h]at hc;cases hc);rw[if_pos h1];have e:s=XV r.num:=(by rw[hs];unfold JO;rw[if_pos h1]);rw[<-e];exact hl)) λg15=>QJ I (λ_ _ f k=>S3 f k.2) λx16=>QZ (vs:=[_,_,_,_]) I I I Ql I .here .h4 wV<|QF4<|QT ?_
  exact QO (_) rfl (.Jv (c:=[_,_,_,_]) I Ql .here .nil) rfl λF ⟨⟨⟨hGl,_⟩,h15⟩,⟨h16,h16_⟩⟩=>(by have h1:r.den=1:=(by by_cases h:r.den=1;exact h;rw[if_neg h]at hc;cases hc);have e:((r.num:Int):Rat)=r:=(by apply Rat.ext;rfl;simp[h1]);rw[if_pos h1]at h16 h16_;rw[ZS]at h16 h16_;rw[e]at h16 h16_;exact⟨h16,h16_⟩)
 refine QM<|QD<|wR rfl<|QJ rfl (λw F hF ⟨hGl,_⟩=>N7 hF (by have h1:¬r.den=1:=(by intro h;rw[if_pos h]at hc;cases hc);rw[if_neg h1,Vd];exact JR _) (by have h1:¬r.den=1:=(by intro h;rw[if_pos h]at hc;cases hc);rw[if_neg h1];have e:s=XV r.num++47::Lib.decDigits r.den:=(by rw[hs];unfold JO;rw[if_neg h1]);rw[e,List.length_append]at hl;show(XV r.num).length<=_;omega)) λg18=>QF5 rfl<|QJ rfl (λw F hF ⟨⟨hGl,_⟩,h18⟩=>N7 hF (by have h1:¬r.den=1:=(by intro h;rw[if_pos h]at hc;cases hc);rw[if_neg h1];show XT (Lib.trimPrefix (Lib.decDigits r.den) [45])=true;rw[Yo (JR _)];exact JR _) (by have h1:¬r.den=1:=(by intro h;rw[if_pos h]at hc;cases hc);rw[if_neg h1];have e:s=XV r.num++47::Lib.decDigits r.den:=(by rw[hs];unfold JO;rw[if_neg h1]);rw[e,List.length_append,List.length_cons]at hl;show(Lib.decDigits r.den).length<=_;omega)) λg20=>QA (XL I U2 KM (.cons (vs:=[_,_]) I I I .h2 (.cons (vs:=[_,_]) I I I (.skip (.skip .h2)) .nil)))<|QZ (vs:=[_,_,_,_]) I I I Ql I .here .h4 wV<|QF4<|QT ?_
 exact QO (⟨g18,g20⟩:Fr) rfl (.Jv (c:=[_,_,_,_]) rfl Ql .here .nil) rfl λF ⟨⟨⟨hGl,_⟩,h18⟩,h20⟩=>(by have h1:¬r.den=1:=(by intro h;rw[if_pos h]at hc;cases hc);rw[if_neg h1]at h18 h20;rw[ZS]at h18;have e:Zx (Lib.decDigits r.den)=(r.den:Int):=(by rw[ZE (JR _),Jp]);exact⟨h18,e ▸ h20⟩)
def Qy(F:Gs)(q:Option Addr)(n sz:Nat)(cs:List Value):Prop :=
 cs.length=n*sz/\(0<n->∃b off arr T,q=some ⟨b,off,none⟩/\F b=some (arr,T)/\∀j u,cs[j]?=some u->arr[off+j]?=some u)
theorem Qy.le{sz:Nat}(h:Qy F q n sz cs)(k:Gs.le F F'):Qy F' q n sz cs :=
 ⟨h.1,λhn=>by obtain⟨b,off,arr,T,e1,e2,e3⟩:=h.2 hn;exact⟨b,off,arr,T,e1,k _ _ e2,e3⟩⟩
theorem Qy.of{sz:Nat}{T:TypeId}(h:F b=some (cs.toArray,T))(hl:cs.length=n*sz):Qy F (some ⟨b,0,none⟩) n sz cs :=
 ⟨hl,λ_=>⟨b,0,_,T,rfl,h,λj u hu=>by rw[Nat.zero_add];simpa using hu⟩⟩
theorem Qy.nil(F:Gs)(q:Option Addr)(sz:Nat):Qy F q 0 sz []:=⟨wz,λh=>absurd h (Nat.lt_irrefl 0)⟩
def Qy.ptr{sz:Nat}(h:Qy F q n sz cs)(hn:0<n):∃b off,q=some ⟨b,off,none⟩:=by
 obtain⟨b,off,_,_,e,_⟩:=h.2 hn;exact⟨b,off,e⟩
section
variable[Dr][df:Df]{P:Program}{Q:Exit->Act->World->Prop}{N:Nat}{m:Sl}{E E0:Env}{ops:Array Oper}{l:List Oper}{w0:World}{F0:Gs}{bs:List (Nat×Obj)}{G:Gs->Prop}
theorem KD(hw:St ⟨w0,F0,bs,G⟩ w){b off n sz j:Nat}{cs:List Value}{u:Value}(hr:∀F,G F->Qy F (some ⟨b,off,none⟩) n sz cs)(hn:0<n)(hu:cs[j]?=some u):w.cell? ⟨b,off+j,none⟩=some u:=by
 obtain⟨F,hw⟩:=hw;obtain⟨b',off',arr,T,e,hF,ha⟩:=(hr F hw.hG).2 hn;simp only[Option.some.injEq,Addr.mk.injEq]at e;obtain⟨rfl,rfl,_⟩:=e;obtain⟨fr,e⟩:=hw.fits.row _ _ _ hF;simp[World.cell?,e,ha j u hu]
theorem XY{T:TypeId}{sz:Nat}{u:Value}(hx:ev m x=some (.pointer (some ⟨b,off+j,none⟩)))(ht:Zm P T=some (false,k))(hr:∀F,G F->Qy F (some ⟨b,off,none⟩) n sz cs)(hn:0<n)(hu:cs[j]?=some u):
  Qt P N m (St ⟨w0,F0,bs,G⟩) (.load T x) ty u:=λa w _ _ _ _ ha hw=>by
 have hrun:=Zi (P:=P) ht (KD hw hr hn hu);simp only[execOp,ha.ev hx,Instr.loadAt,Instr.sureAddr,Sem.run_bind,Sem.run_pure,Result.andThen_ok,hrun]
theorem EJ{T:TypeId}{sz:Nat}{vs:List Value}(hx:ev m x=some (.pointer (some ⟨b,off+j,none⟩)))(ht:Zm P T=some (true,k))(hr:∀F,G F->Qy F (some ⟨b,off,none⟩) n sz cs)(hn:0<n)(hl:vs.length=k)(hu:∀i v,vs[i]?=some v->cs[j+i]?=some v):
  Qt P N m (St ⟨w0,F0,bs,G⟩) (.load T x) ty (.agg vs.toArray):=λa w _ _ _ _ ha hw=>by
 have hrun:=Kd (P:=P) ht hl (w:=w) (b:=b) (off:=off+j) (λi v hv=>by rw[Nat.add_assoc];exact KD hw hr hn (hu i v hv));simp only[execOp,ha.ev hx,Instr.loadAt,Instr.sureAddr,Sem.run_bind,Sem.run_pure,Result.andThen_ok,hrun]
theorem Jd{pos:String}{bs0:List (Nat×Obj)}{t e:TypeId}{sz:Nat}{z:List Value}{g:Bool}{parts:Array (Nat×Operand)}{ps:List (Nat×Value)}(hp:Vo m parts.toList=some ps)(ht:P.underlying t=some (.slice e))(hs:Zm P e=some (g,sz))(hz:XE P e=some z)
  (hc:YU sz 0 ps=some cs) (hl:cs.length=n*sz) (k:∀b,JD P ops Q ⟨w0,F0,bs0,G0⟩ l N ((d,.slice (some ⟨b,0,none⟩) n n)::m) ⟨w0,F0,bs,λF=>G F/\F b=some (cs.toArray,e)⟩) (hE:∀w,St ⟨w0,F0,bs,G⟩ w->St ⟨w0,F0,bs0,G0⟩ w) (h24:Nat.ble (n*sz) 16777216=true:=by rfl) (hn:Nat.beq (n*sz) 0=false:=by rfl)
  (hd:J6 N (some d)=true:=by rfl):JD P ops Q ⟨w0,F0,bs0,G0⟩ (⟨some d,.buildSlice t n parts,ty,pos,aft,none⟩::l) N m ⟨w0,F0,bs,G⟩:=λ_ a w ha hw=>by
 have hS:=hw.xx cs.toArray e;have sub:∀w' b,St ⟨w0,F0,bs,λF=>G F/\F b=some (cs.toArray,e)⟩ w'->St ⟨w0,F0,bs0,G0⟩ w':=λw' b h=>hE w' (h.Dd λ_ h=>h.1);refine .inr ⟨rfl,?_⟩;rw[if_pos (by simp[Region.wanted])];exact upon_value (YF ha hp ht hs hz hc hl h24 hn) ⟨sub _ _ hS,k _ (λw' h=>sub w' _ h) _ _ (ha.put hd _) hS⟩
end
section
variable[Dr][df:Df]{P:Program}{Q:Exit->Act->World->Prop}{N:Nat}{m:Sl}{E E0:Env}{ops:Array Oper}{l:List Oper}{ty:TypeId}{pos:String}{aft:Array Edge}{o:Op}{g t:Nat}{want:Bool}
theorem RR{a:Act}(ha:JY N m a){g t:Nat}(hg:(ops[g]?).bind (·.dst)=some t)(hb:look m t=some undef):yielded ops a.tmps g=none:=by
 unfold yielded;rw[hg];have:=ha.get t _ hb;simp[this,undef]
theorem Ja(hg:(ops[g]?).bind (·.dst)=some t)(hb:look m t=some undef)(hf:JS P ops Q l N ((d,undef)::m) E)(hd:J6 N (some d)=true:=by rfl):JS P ops Q (⟨some d,o,ty,pos,aft,some (g,want)⟩::l) N m E:=by
 intro a w ha hw;unfold wpList;have hy:=RR ha hg hb;rw[if_neg (by simp[Region.wanted,hy])];exact hf _ w (ha.put hd undef) hw
end
def Qn:List Int->Int
 |[]=>0
 |x::l=>if x=0 then Qn l else x
def Kr{l:List Int}(hi:i<l.length)(h:l[i]=0):Qn (l.drop i)=Qn (l.drop (i+1)):=by
 rw[List.drop_eq_getElem_cons hi,Qn,if_pos h]
def GK{l:List Int}(hi:i<l.length)(h:l[i]≠0):Qn (l.drop i)=l[i]:=by
 rw[List.drop_eq_getElem_cons hi,Qn,if_neg h]
def Q7(x:Int):Value:=.int .i64 x
structure D0(n:Nat)(p:Nat->Prop) where
 i:Nat
 le:i<=n
 h:p i
theorem Wa{b:Bool}{e:Int}(hF:Fits F w):Qb prog 148 [.bool b,.int .i64 e] w F (.int .i64 (if b=true then e else 0)):=by
 refine QU.intro (G:=λ_=>True) func148 rfl wy rfl rfl hF w8<|QGi<|wQ rfl<|QG<|wR rfl<|QE<|QD ?_
 refine QP I (λhc=>?_) λhc=>?_
 ·refine wA 7 I ?_;exact QO () I (wN I) (by rw[if_pos hc]) w8
 refine QHC 8 I ?_;exact QO () I (wN I) (by rw[if_neg (by rw[hc];decide)]) w8
theorem M0{c:Nat}{l:List Int}(hF:Fits F w)(hR:Qy F q n 1 (l.map Q7))(hn:n<=1000000000):Qb prog 147 [.slice q n c] w F (.int .i64 (Qn l)):=by
 have hln:l.length=n:=by have:=hR.1;simpa using this
 refine QU.intro (G:=λF=>Qy F q n 1 (l.map Q7)) func147 rfl wy rfl rfl hF (λF' hF'=>hR.le hF')<|QGi<|wQ rfl<|QG<|wR rfl<|QA (Qf rfl Y4)<|QF5 rfl<|QF4<|QS<|Xf (ι:=D0 n λi=>Qn (l.drop i)=Qn l) (λi=>[(5,.slice q n c),(6,.int .i64 n),(7,.int .i64 i.i)]) (λ_=>[]) (λ_ F=>Qy F q n 1 (l.map Q7)) (λi=>n-i.i) ⟨0,Nat.zero_le _,rfl⟩ wU QGJ w9 λi=>?_
 have hle:=i.le;refine wA 6 I ?_;refine QP I (λhc=>?_) λhc=>?_
 ·have hi:i.i<n:=by simp at hc;omega
  have hil:i.i<l.length:=O;refine Xe _ (λ_ _ f h=>h.ptr O) (λhq=>?_);obtain⟨qb,qo,rfl⟩:=hq;refine QHC 6 I<|QA (Qx I I Y4 WE hi)<|QA (XY I WE w9 O (u:=.int .i64 l[i.i]) (by simp[hil,Q7]))<|QHB 9 I ?_
  refine QP I (λhc=>?_) λhc=>?_
  ·refine wA 7 I ?_
   repeat first|refine Qw ?_|refine Qp ?_
   exact QO () I (wN I) (congrArg (Value.int .i64) (i.h.symm.trans (GK hil (by simpa using hc)))) w8
  refine QM<|Qi<|QD<|QB<|QA (Qm I I O)<|wB 2 I ?_
  exact Qj (⟨i.i+1,O,by rw[<-Kr hil (by simpa using hc)];exact i.h⟩:D0 n λi=>Qn (l.drop i)=Qn l) (by show n-(i.i+1)<n-i.i;omega) wU QGJ w9
 refine Qv ?_
 repeat first|refine QV ?_|refine QQ wy ?_
 refine QW<|QHD 7 I ?_
 exact QO () I (wN I) (by rw[<-i.h,List.drop_of_length_le (by simp at hc;omega)];rfl) w8
def qR(hi:i<s.length)(h:XT (s.take i)=true)(hd:UH s[i]=true):XT (s.take (i+1))=true:=by
 rw[List.take_succ_eq_append_getElem hi,Kv,h];simp[XT,hd]
theorem Mu(hi:i<s.length)(hd:UH s[i]=false):XT s=false:=by
 cases h:XT s with
 |false=>rfl
 |true=>rw[XT,List.all_eq_true]at h;rw[h _ (List.getElem_mem hi)]at hd;cases hd
def MD(s:List UInt8):Bool:=XT s&&!s.isEmpty
theorem xO(hF:Fits F w)(hl:s.length<=1000000000):Qb prog 281 [tx s] w F (.bool (MD s)):=by
 refine QU.intro (G:=λ_=>True) func281 rfl wy rfl rfl hF w8<|QGi<|wQ rfl<|QG<|wR rfl<|QA (Js rfl XC)<|QF5 rfl<|QF4<|QS<|Xf (ι:=D0 s.length λi=>XT (s.take i)=true) (λi=>[(0,tx s),(5,.int .i64 s.length),(6,.int .i64 i.i)]) (λ_=>[]) (λ_ _=>True) (λi=>s.length-i.i) ⟨0,Nat.zero_le _,rfl⟩ wU QGJ w9 λi=>?_
 have hle:=i.le;refine wA 6 I ?_;refine QP I (λhc=>?_) λhc=>?_
 ·have hi:i.i<s.length:=by simp at hc;omega
  refine QHC 14 I<|QA (Y5 I I XC (hi))<|wB 2 I ?_
  refine Qe (t:=13) rfl (λhb13=>?_) λhb13=>?_
  ·refine QHB 7 I ?_;refine QP I (λhc=>?_) λhc=>?_
   ·refine wA 6 I ?_
    repeat first|refine Qw ?_|refine Qp ?_
    exact QO () I (wN I) (congrArg Value.bool (by unfold MD;rw[Mu hi (by have h1:=QGx hb13;cases hd:UH s[i.i]with | false=>rfl | true=>(have:=YH.1 hd;omega))];rfl)) w8
   refine QM<|Qi<|QD<|QB<|QA (Qm I I O)<|wB 2 I ?_
   cases hc
  refine wB 5 I<|QA (Y5 I I XC (hi))<|QHB 5 I ?_
  refine QP I (λhc=>?_) λhc=>?_
  ·refine wA 6 I ?_
   repeat first|refine Qw ?_|refine Qp ?_
   exact QO () I (wN I) (congrArg Value.bool (by unfold MD;rw[Mu hi (by have h1:=QGx hc;cases hd:UH s[i.i]with | false=>rfl | true=>(have:=YH.1 hd;omega))];rfl)) w8
  refine QM<|Qi<|QD<|QB<|QA (Qm I I O)<|wB 2 I ?_
  exact Qj (⟨i.i+1,O,qR hi i.h (YH.2 (by have h1:=QGy hb13;have h2:=QGy hc;constructor<;>omega))⟩:D0 s.length λi=>XT (s.take i)=true) (by show s.length-(i.i+1)<s.length-i.i;omega) wU QGJ w9
 refine Qv ?_
 repeat first|refine QV ?_|refine QQ wy ?_
 refine QW<|QD<|wR I<|QA (TL I I)<|wQ I<|QT ?_
 exact QO () I (wN I) (congrArg Value.bool (by have h1:=i.h;rw[List.take_of_length_le (by simp at hc;omega)]at h1;unfold MD;rw[h1];cases s<;>rfl)) w8
theorem head_ne(h:0<s.length):((s[0].toNat:Int) != 48)=!(s.head?==some 48):=by
 cases s with
 |nil=>simp at h
 |cons c s =>
  simp only[List.getElem_cons_zero,List.head?_cons];by_cases e:c=48
  ·subst e;rfl
  have e1:c.toNat≠48:=λh=>e (UInt8.toNat.inj (by rw[h];rfl));have e2:((c.toNat:Int) != 48)=true:=by simp only[bne_iff_ne,ne_eq];omega
  have e3:(some c==some 48)=false:=by simp[e]
  rw[e2,e3];rfl
def FD(h:MD s=true):0<s.length:=by
 cases s with
 |nil=>cases h
 |cons=>simp
theorem Pm(hF:Fits F w)(hl:s.length<=1000000000):Qb prog 203 [tx s] w F (.bool (J7 s)):=by
 refine QU.intro (G:=λ_=>True) func203 rfl wy rfl rfl hF w8<|QGi<|wQ rfl<|wR rfl<|QJ rfl (λ_ _ f _=>xO f hl) λ_=>QF5 rfl ?_
 refine Qe (t:=5) rfl (λhb5=>?_) λhb5=>?_
 ·refine wB 3 I<|QA (Y6 I I)<|wB 2 I ?_
  refine Qe (t:=8) rfl (λhb8=>?_) λhb8=>?_
  ·refine QHB 10 I ?_;exact QO () I (wN I) (congrArg Value.bool (by have h:=hb5;unfold MD at h;unfold J7;rw[h,hb8];rfl)) w8
  refine wB 3 I<|QA (Y5 (i:=0) rfl rfl XC (FD hb5))<|QHB 9 I ?_
  exact QO () I (wN I) (congrArg Value.bool (by have h:=hb5;unfold MD at h;unfold J7;rw[h,hb8,head_ne (FD hb5)];rfl)) w8
 refine wB 3 I<|Ja I I<|Ja I I<|Ja I I<|QHB 6 I ?_
 exact QO () I (wN I) (congrArg Value.bool (by have h:=hb5;unfold MD at h;unfold J7;rw[h];rfl)) w8
def FJ(size d:List UInt8)(neg fr:Bool):Bool:=!J7 size||(neg&&size==[48])||(fr&&(!J7 d||d==[48]||d==[49]))
def Wd(n d:List UInt8)(fr:Bool):Int :=
 if FJ (Lib.trimPrefix n [45]) d (Lib.hasPrefix n [45]) fr=true then 1
 else if(decide (600<(Lib.trimPrefix n [45]).length)||decide (600<d.length))=true then 4
 else if(fr&&!(Nat.gcd (JF (Lib.trimPrefix n [45])) (JF d)==1))=true then 1 else 0
def Jy(s:List UInt8):Int:=Wd (ZO 47 s).1 (ZO 47 s).2.1 (ZO 47 s).2.2
theorem xe(c:UInt8)(s:List UInt8):(ZO c s).1.length<=s.length/\(ZO c s).2.1.length<=s.length:=by
 have h:=Kc (· != c) s;have h1:=congrArg List.length h.1;have h2:=congrArg List.length h.2;simp at h1 h2;unfold ZO;split
 ·refine⟨?_,?_⟩
  ·show(s.takeWhile (· != c)).length<=_;exact(List.takeWhile_sublist _).length_le
  show((s.dropWhile (· != c)).drop 1).length<=_;rw[List.length_drop];have:=(List.dropWhile_sublist (l:=s) (· != c)).length_le;omega
 exact⟨Nat.le_refl _,wz⟩
def KP(h:J7 s=true):XT s=true:=by
 simp only[J7,Bool.and_eq_true]at h;exact h.1.1
def Nt(s p:List UInt8):(Lib.trimPrefix s p).length<=s.length:=by unfold Lib.trimPrefix;split<;>simp
theorem L2(hF:Fits F w)(hG:JG F)(hl:s.length<=1000000):Qb prog 90 [tx s] w F (.int .i64 (Jy s)):=by
 have hcl:=xe 47 s;unfold Jy;refine QU.intro (G:=λF=>JG F) func90 rfl wy rfl rfl hF (λF' hF'=>hG.le hF')<|QGi<|wQ rfl<|wR rfl<|QJ rfl (λ_ _ f k=>dM f k O) λ_=>?_
 rw[xZ];generalize ZO 47 s=cp at hcl ⊢;obtain⟨n,d,fr⟩:=cp;dsimp only at hcl ⊢;have htl:=Nt n [45];refine QHB 12 I<|QJ I (λ_ _ f k=>FH f ) λ_=>QHB 8 I ?_
 refine Hb 46 (.bool (FJ (Lib.trimPrefix n [45]) d (Lib.hasPrefix n [45]) fr)) ?_ ?_
 ·refine wA 2 I<|QJ I (λ_ _ f k=>Pm f O) λ_=>QA (Jw I)<|QF5 I ?_
  refine Qe (t:=24) rfl (λhb24=>?_) λhb24=>?_
  ·refine wB 2 I<|Ja I I<|Ja I I<|wB 5 I<|Ja I I<|Ja I I<|Ja I I<|Ja I I<|Ja I I<|Ja I I<|Ja I I<|Ja I I<|Ja I I<|Ja I I<|Ja I I<|wB 3 I ?_
   exact Xn (exd 27 rfl rfl) (congrArg (λb=>some (Value.bool b)) (by rw[Bool.eq_iff_iff];simp_all [FJ])) QGJ tA
  refine wB 4 I ?_;refine Qe (t:=26) rfl (λhb26=>?_) λhb26=>?_
  ·refine wB 3 I<|QA (Y6 I I)<|wB 4 I ?_
   refine Qe (t:=31) rfl (λhb31=>?_) λhb31=>?_
   ·refine wB 2 I<|Ja I I<|Ja I I<|Ja I I<|Ja I I<|Ja I I<|Ja I I<|Ja I I<|Ja I I<|Ja I I<|Ja I I<|Ja I I<|wB 3 I ?_
    exact Xn (exd 29 rfl rfl) (congrArg (λb=>some (Value.bool b)) (by rw[Bool.eq_iff_iff];simp_all [FJ])) QGJ tA
   refine wB 4 I ?_;refine Qe (t:=33) rfl (λhb33=>?_) λhb33=>?_
   ·refine wB 3 I<|QJ I (λ_ _ f k=>Pm f O) λ_=>QK I I<|QA (Jw I)<|wB 2 I ?_
    refine Qe (t:=37) rfl (λhb37=>?_) λhb37=>?_
    ·refine wB 14 I ?_;exact Xn (exd 31 rfl rfl) (congrArg (λb=>some (Value.bool b)) (by rw[Bool.eq_iff_iff];simp_all [FJ])) QGJ λ_ h=>h.1.1
    refine wB 3 I<|QA (Y6 I I)<|wB 4 I ?_
    refine Qe (t:=41) rfl (λhb41=>?_) λhb41=>?_
    ·refine wB 8 I ?_;exact Xn (exd 32 rfl rfl) (congrArg (λb=>some (Value.bool b)) (by rw[Bool.eq_iff_iff];simp_all [FJ])) QGJ λ_ h=>h.1.1
    refine wB 3 I<|QA (Y6 I I)<|wB 6 I ?_
    exact Xn (exd 32 rfl rfl) (congrArg (λb=>some (Value.bool b)) (by rw[Bool.eq_iff_iff];simp_all [FJ])) QGJ λ_ h=>h.1.1
   refine wB 4 I<|Ja I I<|Ja I I<|wB 2 I<|Ja I I<|Ja I I<|wB 5 I ?_
   exact Xn (exd 30 rfl rfl) (congrArg (λb=>some (Value.bool b)) (by rw[Bool.eq_iff_iff];simp_all [FJ])) QGJ tA
  refine wB 10 I ?_;refine Qe (t:=33) rfl (λhb33=>?_) λhb33=>?_
  ·refine wB 3 I<|QJ I (λ_ _ f k=>Pm f O) λ_=>QK I I<|QA (Jw I)<|wB 2 I ?_
   refine Qe (t:=37) rfl (λhb37=>?_) λhb37=>?_
   ·refine wB 14 I ?_;exact Xn (exd 30 rfl rfl) (congrArg (λb=>some (Value.bool b)) (by rw[Bool.eq_iff_iff];simp_all [FJ])) QGJ λ_ h=>h.1.1
   refine wB 3 I<|QA (Y6 I I)<|wB 4 I ?_
   refine Qe (t:=41) rfl (λhb41=>?_) λhb41=>?_
   ·refine wB 8 I ?_;exact Xn (exd 31 rfl rfl) (congrArg (λb=>some (Value.bool b)) (by rw[Bool.eq_iff_iff];simp_all [FJ])) QGJ λ_ h=>h.1.1
   refine wB 3 I<|QA (Y6 I I)<|wB 6 I ?_
   exact Xn (exd 31 rfl rfl) (congrArg (λb=>some (Value.bool b)) (by rw[Bool.eq_iff_iff];simp_all [FJ])) QGJ λ_ h=>h.1.1
  refine wB 4 I<|Ja I I<|Ja I I<|wB 2 I<|Ja I I<|Ja I I<|wB 5 I ?_
  exact Xn (exd 29 rfl rfl) (congrArg (λb=>some (Value.bool b)) (by rw[Bool.eq_iff_iff];simp_all [FJ])) QGJ tA
 refine QP I (λhc46=>?_) λhc46=>?_
 ·refine wA 6 I ?_;exact QO () I (wN I) (congrArg (Value.int .i64) (by unfold Wd;rw[if_pos hc46])) w8
 refine QHC 3 I ?_;refine Hb 54 (.bool (decide (600<(Lib.trimPrefix n [45]).length)||decide (600<d.length))) ?_ ?_
 ·refine wA 2 I<|QA (Js I XC)<|wB 2 I ?_
  refine Qe (t:=50) rfl (λhb50=>?_) λhb50=>?_
  ·refine wB 5 I ?_;exact Xn (exd 9 rfl rfl) (congrArg (λb=>some (Value.bool b)) (by simp at *;first | omega | (rw[Bool.eq_iff_iff];simp;omega))) QGJ w9
  refine wB 3 I<|QA (Js I XC)<|wB 4 I ?_
  exact Xn (exd 9 rfl rfl) (congrArg (λb=>some (Value.bool b)) (by simp at *;first | omega | (rw[Bool.eq_iff_iff];simp;omega))) QGJ w9
 refine QP I (λhc54=>?_) λhc54=>?_
 ·refine wA 6 I ?_;exact QO () I (wN I) (congrArg (Value.int .i64) (by unfold Wd;rw[if_neg (by rw[hc46];decide),if_pos hc54])) w8
 refine QHC 8 I ?_;refine QP I (λhc55=>?_) λhc55=>?_
 ·have hl54:(Lib.trimPrefix n [45]).length<=600/\d.length<=600:=by simp at hc54;omega
  have hwh:J7 (Lib.trimPrefix n [45])=true/\J7 d=true:=by
   subst hc55;simp only[FJ,Bool.or_eq_false_iff,Bool.true_and,Bool.not_eq_false']at hc46;exact⟨hc46.1.1,hc46.2.1.1⟩
  have hsa:=KP hwh.1;have hda:=KP hwh.2;have hz1:=DD hsa;have hz2:=DD hda;refine wR I<|QJ I (λ_ _ f k=>N7 f (by rw[Yo hsa];exact hsa) O) λg58=>QF5 I<|QJ I (λ_ _ f k=>N7 f (by rw[Yo hda];exact hda) O) λg60=>QJ I (λ_ _ f k=>dE f k.1.2 k.2 (by rw[ZE hsa];omega) (by rw[ZE hda];omega)) λg61=>QJ I (λw F hF ⟨⟨⟨⟨⟨hGl,_⟩,_⟩,h58⟩,h60⟩,h61⟩=>yW hF (by assumption)) λc62=>JN _ (λ_ _ f h=>h.2) λhsm=>?_
  rw[ZE hsa,ZE hda,Int.gcd_natCast_natCast]at hsm;refine QHB 7 I ?_;refine Hb 70 (.bool (!(Nat.gcd (JF (Lib.trimPrefix n [45])) (JF d)==1))) ?_ ?_
  ·refine wA 2 I<|QA (Jw I)<|QF5 I ?_
   refine Qe (t:=67) rfl (λhb67=>?_) λhb67=>?_
   ·refine wB 4 I ?_;exact Xn (exd 7 rfl rfl) (congrArg (λb=>some (Value.bool b)) (by rcases hsm with ⟨e1,e2,e3⟩ | ⟨e1,e2⟩<;>rw[Bool.eq_iff_iff]<;>simp_all<;>omega)) QGJ w9
   refine wB 6 I ?_;exact Xn (exd 7 rfl rfl) (congrArg (λb=>some (Value.bool b)) (by rcases hsm with ⟨e1,e2,e3⟩ | ⟨e1,e2⟩<;>rw[Bool.eq_iff_iff]<;>simp_all<;>omega)) QGJ w9
  refine QP I (λhc70=>?_) λhc70=>?_
  ·refine wA 6 I ?_;exact QO () I (wN I) (congrArg (Value.int .i64) (by unfold Wd;rw[if_neg (by rw[hc46];decide),if_neg (by rw[hc54];decide),if_pos (by rw[hc55,hc70];rfl)])) w8
  refine QHC 8 I ?_;exact QO () I (wN I) (congrArg (Value.int .i64) (by unfold Wd;rw[if_neg (by rw[hc46];decide),if_neg (by rw[hc54];decide),if_neg (by rw[hc55,hc70];decide)])) w8
 refine QHC 8 I ?_;exact QO () I (wN I) (congrArg (Value.int .i64) (by unfold Wd;rw[if_neg (by rw[hc46];decide),if_neg (by rw[hc54];decide),if_neg (by rw[hc55];simp)])) w8
def Yn(s:List UInt8):Rat:=if(ZO 47 s).2.2=true then mkRat (Zx (ZO 47 s).1) (JF (ZO 47 s).2.1)else((Zx (ZO 47 s).1:Int):Rat)
theorem BK(h:c∈s):∃r,s.dropWhile (· != c)=c::r:=by
 induction s with
 |nil=>cases h
 |cons b s ih =>
  simp only[List.dropWhile_cons];by_cases e:b=c
  ·subst e;exact⟨s,wz⟩
  have h1:(b != c)=true:=by simp[e]
  rw[if_pos h1];exact ih (by rcases List.mem_cons.1 h with h | h;exact absurd h.symm e;exact h)
theorem CJ(c:UInt8)(s:List UInt8):((ZO c s).2.2=true->s=(ZO c s).1++c::(ZO c s).2.1)/\((ZO c s).2.2=false->s=(ZO c s).1/\(ZO c s).2.1=[]):=by
 unfold ZO;by_cases h:s.contains c=true
 ·rw[if_pos h];refine⟨λ_=>?_,λe=>(by cases e)⟩;obtain⟨r,hr⟩:=BK (c:=c) (s:=s) (by simpa using h);have hh:s.dropWhile (· != c)=c::(s.dropWhile (· != c)).drop 1:=by rw[hr];rfl
  show s=s.takeWhile (· != c)++c::(s.dropWhile (· != c)).drop 1;rw[<-hh,List.takeWhile_append_dropWhile]
 rw[if_neg h];exact⟨λe=>(by cases e),λ_=>⟨rfl,rfl⟩⟩
def Rr(h:J7 l=true)(h0:l≠[48]):0<JF l:=by
 simp only[J7,Bool.and_eq_true,Bool.or_eq_true,beq_iff_eq,Bool.not_eq_true',List.isEmpty_eq_false_iff]at h;rcases h.2 with h1 | h1
 ·exact absurd h1 h0
 exact(Dm h.1.1 h.1.2 (by simpa using h1)).2
theorem OJ(h:J7 l=true)(h0:l≠[48])(h1:l≠[49]):2<=JF l:=by
 have hp:=Rr h h0;have hd:=Dp h;rcases Nat.lt_or_ge (JF l) 2 with g | g
 ·have:JF l=1:=O;rw[this]at hd;exact absurd (hd.symm.trans (by rw[Lib.decDigits];rfl)) h1
 exact g
theorem kB{n:List UInt8}(h:J7 (Lib.trimPrefix n [45])=true)(h0:(Lib.hasPrefix n [45]&&Lib.trimPrefix n [45]==[48])=false):XV (Zx n)=n/\(Zx n).natAbs=JF (Lib.trimPrefix n [45]):=by
 unfold Zx;by_cases hp:Lib.hasPrefix n [45]=true
 ·have hn:n=45::n.drop 1:=by
   cases n with
   |nil=>cases hp
   |cons c r =>
    have h45:(45==c)=true:=by simpa[Lib.hasPrefix,List.isPrefixOf]using hp
    have:45=c:=by simpa using h45
    rw[<-this];rfl
  have ht:Lib.trimPrefix n [45]=n.drop 1:=by unfold Lib.trimPrefix;rw[if_pos hp];rfl
  rw[ht]at h h0 ⊢;rw[hp,Bool.true_and]at h0;have hpos:=Rr h (by simpa using h0);rw[if_pos hp];refine⟨?_,O⟩;rw[ZT O,show(-(JF (n.drop 1):Int)).natAbs=JF (n.drop 1) by omega,Dp h,<-hn]
 have ht:Lib.trimPrefix n [45]=n:=by unfold Lib.trimPrefix;rw[if_neg hp]
 rw[ht]at h ⊢;rw[if_neg hp];refine⟨?_,O⟩;rw[Jh O,show((JF n:Nat):Int).natAbs=JF n by omega,Dp h]
theorem Ur(h:XT l=true)(hl:l.length<=600):JF l<lim:=by
 have h1:=VM h;have h2:10^l.length<=lim:=by have key:∀k,l.length<=k->10^l.length<=10^k:=λk h=>Nat.pow_le_pow_right wu h;unfold lim;exact key 600 hl
 omega
theorem Zb(h:Jy s=0):s=JO (Yn s)/\XQ (Yn s)=false:=by
 unfold Jy at h;have hj:=CJ 47 s;unfold Yn;generalize ZO 47 s=c at h hj ⊢;obtain⟨n,d,fr⟩:=c;dsimp only at h hj ⊢;unfold Wd at h;split at h
 ·cases h
 rename_i h1;split at h
 ·cases h
 rename_i h2;split at h
 ·cases h
 rename_i h3;have h1':=eq_false_of_ne_true h1;simp only[FJ,Bool.or_eq_false_iff,Bool.not_eq_false']at h1';obtain⟨⟨hw,hz⟩,hf⟩:=h1';have hsa:=KP hw;have hl:(Lib.trimPrefix n [45]).length<=600/\d.length<=600:=by simp at h2;omega
 obtain⟨hn1,hn2⟩:=kB hw hz;have hlim:=Ur hsa hl.1;cases fr with
 |false =>
  rw[if_neg wu];obtain⟨hs,_⟩:=hj.2 rfl;refine⟨?_,?_⟩
  ·unfold JO;rw[Rat.den_intCast,if_pos rfl,Rat.num_intCast,hn1];exact hs
  unfold XQ E2;rw[Rat.num_intCast,Rat.den_intCast,hn2];rw[decide_eq_false O,Bool.false_or];refine decide_eq_false ?_;have:((1:Nat):Int).natAbs<lim:=wv;omega
 |true =>
  rw[if_pos rfl];simp only[Bool.true_and,Bool.or_eq_false_iff,Bool.not_eq_false']at hf;obtain⟨⟨hwd,hd0⟩,hd1⟩:=hf;have hd2:=OJ hwd (by simpa using hd0) (by simpa using hd1);have hda:=KP hwd;have hg:Nat.gcd (JF (Lib.trimPrefix n [45])) (JF d)=1:=by simpa using h3
  have hco:Nat.Coprime (Zx n).natAbs (JF d):=by rw[hn2];exact hg
  have hmk:=Rat.mk_eq_mkRat (Zx n) (JF d) O hco;rw[<-hmk];refine⟨?_,?_⟩
  ·unfold JO;show s=if JF d=1 then _ else XV (Zx n)++47::Lib.decDigits (JF d)
   rw[if_neg O,hn1,Dp hwd];exact hj.1 I
  unfold XQ E2;show(decide (lim<=(Zx n).natAbs)||decide (lim<=((JF d:Nat):Int).natAbs))=false;have:=Ur hda hl.2;rw[hn2,decide_eq_false O,decide_eq_false O];rfl
theorem S7{r:Rat}(h:XQ r=false):Jn r<=2400:=by
 unfold XQ E2 at h;rw[Bool.or_eq_false_iff]at h;have h1:=QGy h.1;have h2:=QGy h.2;have e:lim<=2^2400:=by
  decide +kernel
 unfold Jn;have a:=(XF r.num 2400).2 (Nat.lt_of_lt_of_le (Nat.lt_of_not_le h1) e);have b:=(XF (r.den:Int) 2400).2 (Nat.lt_of_lt_of_le (Nat.lt_of_not_le h2) e);omega
def V7(h:Jy s=0):Jn (Yn s)<=2400:=S7 (Zb h).2
theorem Ym.all{l vs:List Value}(h:vs.length=l.length):Ym l 0 vs vs:=by
 induction vs generalizing l with
 |nil=>cases l with | nil=>exact .nil | cons=>simp at h
 |cons v vs ih =>
  cases l with
  |nil=>simp at h
  |cons x l=>exact .here (ih (by simpa using h))
def Bu.all:∀l:List Value,Bu l 0 l
 |[]=>.nil
 |_::l=>.here (Bu.all l)
theorem SG:∀ {l:List Value},(∀v∈l,v.oneCell'=true)->Bj l
 |[],_=>trivial
 |v::l,h=>⟨h v wz,SG λu hu=>h u (by simp[hu])⟩
theorem CC{c f:Nat}{vs:Nat->Value}{c1 c2:List Value}(hF:Fits F w)(hg:∀F F',Gs.le F F'->G0 F->G0 F')(h0:G0 F)(hR:Qy F q n 1 cs)(hn:es.length=n)(hb:n<=1000000000)
  (hv:∀i,i<n->cs[i*1]?=some (vs i)) (hc:∀i (hi:i<es.length) w F,Fits F w->G0 F->Qb prog f (c1++[vs i]++c2) w F (.int .i64 es[i])) :
  Qb prog 299 [.slice q n c,.func (.func f) c1.toArray c2.toArray] w F (.int .i64 (Qn es)):=by
 refine QU.intro (G:=λF=>G0 F/\Qy F q n 1 cs) func299 rfl wy rfl rfl hF (λF' hF'=>⟨hg F F' hF' h0,hR.le hF'⟩)<|QGi<|wQ rfl<|QG<|wR rfl<|QA (Qf rfl K3)<|QF5 rfl<|QF4<|QS<|Xf (ι:=D0 n λi=>Qn (es.drop i)=Qn es) (λi=>[(1,.func (.func f) c1.toArray c2.toArray),(8,.slice q n c),(9,.int .i64 n),(10,.int .i64 i.i)]) (λ_=>[]) (λ_ F=>G0 F/\Qy F q n 1 cs) (λi=>n-i.i) ⟨0,Nat.zero_le _,rfl⟩ wV QGJ w9 λi=>?_
 have hle:=i.le;refine wA 6 I ?_;refine QP I (λhc1=>?_) λhc1=>?_
 ·have hi:i.i<n:=by simp at hc1;omega
  have hil:i.i<es.length:=O;refine Xe _ (λ_ _ f h=>h.2.ptr O) (λhq=>?_);obtain⟨qb,qo,rfl⟩:=hq;refine QHC 6 I<|QA (Qx I I K3 Jk hi)<|QA (XY I Jk tB O (hv i.i hi))<|QHB 7 I<|KG I I (λw F f h=>hc i.i hil w F f h.1) λ_=>QHB 9 I ?_
  refine QP I (λhc1=>?_) λhc1=>?_
  ·refine wA 7 I ?_
   repeat first|refine Qw ?_|refine Qp ?_
   exact QO () I (wN I) (congrArg (Value.int .i64) (i.h.symm.trans (GK hil (by simpa using hc1)))) w8
  refine QM<|Qi<|QD<|QB<|QA (Qm I I O)<|wB 2 I ?_
  exact Qj (⟨i.i+1,O,by rw[<-Kr hil (by simpa using hc1)];exact i.h⟩:D0 n λi=>Qn (es.drop i)=Qn es) (by show n-(i.i+1)<n-i.i;omega) wV QGJ tA
 refine Qv ?_
 repeat first|refine QV ?_|refine QQ wy ?_
 refine QW<|QHD 7 I ?_
 exact QO () I (wN I) (by rw[<-i.h,List.drop_of_length_le (by simp at hc1;omega)];rfl) w8
theorem Ii{c f:Nat}{vs:Nat->List Value}{c1 c2:List Value}(hF:Fits F w)(hg:∀F F',Gs.le F F'->G0 F->G0 F')(h0:G0 F)(hR:Qy F q n 2 cs)(hn:es.length=n)(hb:n<=1000000000)
  (hv:∀i,i<n->(vs i).length=2/\∀j v,(vs i)[j]?=some v->cs[i*2+j]?=some v) (h1:∀i,i<n->∀v∈vs i,v.oneCell'=true) (hc:∀i (hi:i<es.length) w F,Fits F w->G0 F->Qb prog f (c1++[.agg (vs i).toArray]++c2) w F (.int .i64 es[i])) :
  Qb prog 173 [.slice q n c,.func (.func f) c1.toArray c2.toArray] w F (.int .i64 (Qn es)):=by
 refine QU.intro (G:=λF=>G0 F/\Qy F q n 2 cs) func173 rfl wy rfl rfl hF (λF' hF'=>⟨hg F F' hF' h0,hR.le hF'⟩)<|QGi<|wQ rfl<|QG<|wR rfl<|QA (Qf rfl YP)<|QF5 rfl<|QF4<|QS<|Xf (ι:=D0 n λi=>Qn (es.drop i)=Qn es) (λi=>[(1,.func (.func f) c1.toArray c2.toArray),(8,.slice q n c),(9,.int .i64 n),(10,.int .i64 i.i)]) (λ_=>[]) (λ_ F=>G0 F/\Qy F q n 2 cs) (λi=>n-i.i) ⟨0,Nat.zero_le _,rfl⟩ wV QGJ w9 λi=>?_
 have hle:=i.le;refine wA 6 I ?_;refine QP I (λhc1=>?_) λhc1=>?_
 ·have hi:i.i<n:=by simp at hc1;omega
  have hil:i.i<es.length:=O;refine Xe _ (λ_ _ f h=>h.2.ptr O) (λhq=>?_);obtain⟨qb,qo,rfl⟩:=hq;refine QHC 6 I<|QA (Qx I I YP Xx hi)<|QA (EJ I Xx tB O (hv i.i hi).1 (hv i.i hi).2)<|Qg EA λb6=>QZ (vs:=vs i.i) (l':=vs i.i) rfl rfl rfl Xx (hv i.i hi).1 .here (Ym.all (hv i.i hi).1) (SG (h1 i.i hi))<|QHB 5 I<|QA (QR (vs:=vs i.i) rfl Xx .here (Bu.all _) (hv i.i hi).1)<|KG I I (λw F f h=>hc i.i hil w F f h.1) λ_=>QHB 8 I ?_
  refine QD ?_;refine QP I (λhc1=>?_) λhc1=>?_
  ·refine wA 7 I ?_
   repeat first|refine Qw ?_|refine Qp ?_
   exact QO () I (wN I) (congrArg (Value.int .i64) (i.h.symm.trans (GK hil (by simpa using hc1)))) w8
  refine QM<|Qi<|QD<|QB<|QA (Qm I I O)<|wB 2 I ?_
  exact Qj (⟨i.i+1,O,by rw[<-Kr hil (by simpa using hc1)];exact i.h⟩:D0 n λi=>Qn (es.drop i)=Qn es) (by show n-(i.i+1)<n-i.i;omega) wV (List.sublist_cons_self _ _) tA
 refine Qv ?_
 repeat first|refine QV ?_|refine QQ wy ?_
 refine QW<|QHD 7 I ?_
 exact QO () I (wN I) (by rw[<-i.h,List.drop_of_length_le (by simp at hc1;omega)];rfl) w8
theorem xp{c:Nat}{l:List (List UInt8)}(hF:Fits F w)(hG:JG F)(hR:Qy F q n 1 (l.map tx))(hl:n<=1000000/\∀s∈l,s.length<=1000000):Qb prog 221 [.slice q n c] w F (.int .i64 (Qn (l.map Jy))):=by
 have hln:l.length=n:=by have:=hR.1;simpa using this
 refine QU.intro (G:=λF=>JG F/\Qy F q n 1 (l.map tx)) func221 rfl wy rfl rfl hF (λF' hF'=>⟨hG.le hF',hR.le hF'⟩)<|QGi<|wQ rfl<|QGi<|QF5 rfl ?_
 refine QJ I (λw F hF ⟨hGl,hR⟩=>CC (c1:=[]) (c2:=[]) (vs:=λi=>tx (l.getD i [])) (es:=l.map Jy) (G0:=JG) hF (λ_ _ h k=>k.le h) hGl hR (by simpa using hln) O (λi hi=>by
  have:i<l.length:=O;simp[this]) (λi hi w F hF hG=>by
  have hi':i<l.length:=by simpa using hi
  have e:l.getD i []=l[i]:=by simp[hi']
  have:=L2 hF hG (hl.2 l[i] (List.getElem_mem hi'));rw[List.getElem_map];show Qb _ _ [tx (l.getD i [])] _ _ _;rw[e];exact this)) λc4=>?_
 refine wQ I<|QT ?_
 exact QO () I (wN I) rfl w8
def ET{b:Int}(h:Qn [a,b]=0):a=0/\b=0:=by
 simp only[Qn]at h;by_cases h1:a=0
 ·rw[if_pos h1]at h;by_cases h2:b=0
  ·exact⟨h1,h2⟩
  rw[if_neg h2]at h;exact absurd h h2
 rw[if_neg h1]at h;exact absurd h h1
def ZJ(lo hi:List UInt8):Int:=if Qn [Jy lo,Jy hi]=0 then(if Wx (Yn lo) (Yn hi)>0 then 11 else 0)else Qn [Jy lo,Jy hi]
def Eb{lo hi:List UInt8}(h:ZJ lo hi=0):Jy lo=0/\Jy hi=0/\¬Wx (Yn lo) (Yn hi)>0:=by
 unfold ZJ at h;split at h
 ·rename_i h0;have:=ET h0;refine⟨this.1,this.2,?_⟩;split at h
  ·cases h
  assumption
 rename_i h0;exact absurd h h0
theorem MG{lo hi:List UInt8}(hF:Fits F w)(hG:JG F)(hl:lo.length<=1000000/\hi.length<=1000000):Qb prog 120 [.agg #[tx lo,tx hi]] w F (.int .i64 (ZJ lo hi)):=by
 refine QU.intro (G:=λF=>JG F) func120 rfl wy rfl rfl hF (λF' hF'=>hG.le hF')<|QGi<|JE rfl (vs:=[_,_]) rfl λb1=>wQ rfl<|QG<|QGi<|QA (QH rfl H4 Jk)<|QA (Qh rfl Jk .here .h1)<|QA (QH rfl Bo Jk)<|QA (Qh rfl Jk .here (.skip .h1))<|Qs rfl (JU K3) Jk pB rfl rfl λb8=>QJ rfl (λw F hF ⟨hGl,hs8⟩=>xp (l:=[lo,hi]) hF hGl (Qy.of (cs:=List.map tx [lo,hi]) hs8 rfl) ⟨wu,λs hs=>by simp at hs;rcases hs with rfl | rfl;exact hl.1;exact hl.2⟩) λ_=>QHB 9 I ?_
 refine QP I (λhc=>?_) λhc=>?_
 ·refine wA 7 I ?_;exact QO () I (wN I) (by unfold ZJ;rw[if_neg (by simpa using hc)];rfl) w8
 have h0:Qn [Jy lo,Jy hi]=0:=by simpa using hc
 have h1:=ET h0;have hz1:=V7 h1.1;have hz2:=V7 h1.2;refine QHC 3 I<|JL QGJ mixed wm<|QL (QH I H4 Jk)<|QL (Qh I Jk .here .h1)<|Qc I (λ_ _ f k=>Mc f k.1.1 (Zb h1.1).1 O) λx15=>QL (QH I Bo Jk)<|QL (Qh I Jk .here (.skip .h1))<|Qc I (λ_ _ f k=>Mc f k.1.1.1 (Zb h1.2).1 O) λx18=>Qc I (λ_ _ f k=>Ie (r:=Yn lo) (s:=Yn hi) f ⟨k.1.2.1,k.1.2.2⟩ ⟨k.2.1,k.2.2⟩ O O) λ_=>QL (QN I I I)<|Qc I (λ_ _ f k=>Wa f ) λ_=>QL (QF I)<|Q3<|QD<|QT ?_
 exact QO () I (wN I) (congrArg (Value.int .i64) (by unfold ZJ;rw[if_pos h0];simp)) w8
structure Sp where
 lo:Fr
 hi:Fr
@[reducible] def Sp.v (x:Sp):Value:=.agg #[.int .i64 x.lo.n.s,.slice x.lo.n.q x.lo.n.n x.lo.n.cap,.int .i64 x.lo.d.s,.slice x.lo.d.q x.lo.d.n x.lo.d.cap,.int .i64 x.hi.n.s,.slice x.hi.n.q x.hi.n.n x.hi.n.cap,.int .i64 x.hi.d.s,.slice x.hi.d.q x.hi.d.n x.hi.d.cap]
def Zp(F:Gs)(x:Sp)(r:Rat×Rat):Prop:=Jz F x.lo r.1/\Jz F x.hi r.2
def Zp.le{x:Sp}{r:Rat×Rat}(h:Zp F x r)(k:Gs.le F F'):Zp F' x r:=⟨h.1.le k,h.2.le k⟩
abbrev Wy(P:Program)(f:FuncId)(args:List Value)(w:World)(F:Gs)(r:Rat×Rat):Prop:=QU P f args w F Sp.v λx F=>Zp F x r
theorem p9{lo hi:List UInt8}(hF:Fits F w)(hG:JG F)(h1:Jy lo=0)(h2:Jy hi=0)(hl:lo.length<=1000000/\hi.length<=1000000):Wy prog 176 [.agg #[tx lo,tx hi]] w F (Yn lo,Yn hi):=by
 refine QU.intro (G:=λF=>JG F) func176 rfl wy rfl rfl hF (λF' hF'=>hG.le hF')<|QGi<|JE rfl (vs:=[_,_]) rfl λb1=>Qg VI λb2=>QF4<|QG<|JL (.cons _ tC) mixed wm<|QL (QH rfl H4 Jk)<|QL (Qh rfl Jk .here .h1)<|Qc rfl (λ_ _ f k=>Mc f k (Zb h1).1 O) λx5=>QL (QH rfl Bo Jk)<|QL (Qh rfl Jk .here (.skip .h1))<|Qc rfl (λ_ _ f k=>Mc f k.1 (Zb h2).1 O) λx8=>QL (XL rfl IH VI (.cons (vs:=[_,_,_,_]) rfl rfl rfl .h4 (.cons (vs:=[_,_,_,_]) rfl rfl rfl (.skip (.skip (.skip (.skip .h4)))) .nil)))<|Ji (vs:=[_,_,_,_,_,_,_,_]) rfl rfl rfl XM rfl .here tC (λ_ h=>h.1.1) .h8 wZ<|Q3<|QD<|QT ?_
 exact QO ((⟨x5,x8⟩:Sp)) I (.Jv (c:=[_,_,_,_,_,_,_,_]) I XM .here .nil) rfl λF h9=>⟨⟨h9.1.2.1,h9.1.2.2⟩,⟨h9.2.1,h9.2.2⟩⟩
def RM(r:Rat×Rat):(List UInt8×List UInt8)×Int:=if(XQ r.1||XQ r.2)=true then(([],[]),4)else((JO r.1,JO r.2),0)
theorem yZ{x:Sp}{r:Rat×Rat}(hF:Fits F w)(hG:JG F)(h:Zp F x r)(hz:Jn r.1<=100000000/\Jn r.2<=100000000):Qb prog 179 [x.v] w F (.tuple #[.agg #[tx (RM r).1.1,tx (RM r).1.2],.int .i64 (RM r).2]):=by
 refine QU.intro (G:=λF=>JG F/\Zp F x r) func179 rfl wy rfl rfl hF (λF' hF'=>⟨hG.le hF',h.le hF'⟩)<|QGi<|JE rfl (vs:=[_,_,_,_,_,_,_,_]) rfl λb1=>Qg EA λb2=>wQ rfl<|QG ?_
 refine Hb 11 (.bool (XQ r.1||XQ r.2)) ?_ ?_
 ·refine QB<|QA (QH I YI Ql)<|QA (wJ I Ql .u1)<|QJ I (λ_ _ f k=>MA (x:=x.lo) (r:=r.1) f k.1 ⟨k.2.1.1,k.2.1.2⟩ hz.1) λ_=>QF5 I ?_
  refine Qe (t:=7) rfl (λhb7=>?_) λhb7=>?_
  ·refine wB 5 I ?_;exact Xn (exd 9 rfl rfl) (congrArg (λb=>some (Value.bool b)) (by simp_all)) QGJ tA
  refine QK I I<|QA (QH I YZ Ql)<|QK I I<|QA (wL I Ql .u1)<|QK I I<|QJ I (λ_ _ f k=>MA (x:=x.hi) (r:=r.2) f k.1.1 ⟨k.1.2.2.1,k.1.2.2.2⟩ hz.2) λ_=>wB 2 I ?_
  exact Xn (exd 9 rfl rfl) (congrArg (λb=>some (Value.bool b)) (by simp_all)) QGJ λ_ h=>h.1.1
 refine QP I (λhc=>?_) λhc=>?_
 ·refine QGi<|QA (XL I UC EA .nil)<|QZ (vs:=[_,_]) I I I Xx I .here .h2 wT<|wQ I<|QT ?_
  exact J9 () I (.Jv (c:=[_,_]) I Xx .here (wN I)) (by unfold RM;rw[if_pos hc];rfl) w8
 refine QHC 3 I<|JL (.cons _ tC) mixed wm<|QL (QH I YI Ql)<|QL (wJ I Ql .here)<|Qc I (λ_ _ f k=>Mz (x:=x.lo) (r:=r.1) f k.1 ⟨k.2.1.1,k.2.1.2⟩ hz.1) λ_=>QL (QH I YZ Ql)<|QL (wL I Ql .here)<|Qc I (λ_ _ f k=>Mz (x:=x.hi) (r:=r.2) f k.1.1 ⟨k.1.2.2.1,k.1.2.2.2⟩ hz.2) λ_=>QL (XL I UC EA (wP I I I))<|Ji (vs:=[_,_]) I I I Xx I .here tC (λ_ h=>h.1.1) .h2 wT<|QL (QF I)<|Q3<|QD<|QT ?_
 exact J9 () I (.Jv (c:=[_,_]) I Xx .here (wN I)) (by unfold RM;rw[if_neg (by rw[hc];decide)]) w8
end Go.Proofs.YtpmehagnedbkhaaGreatDoor
