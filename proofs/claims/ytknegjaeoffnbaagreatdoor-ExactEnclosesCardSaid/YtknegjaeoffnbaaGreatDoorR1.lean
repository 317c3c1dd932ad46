/- Steps of the proof of the theorem in the last file. -/
import Derived.Test.YtknegjaeoffnbaaGreatDoorR0
import Derived.Laws.BitsAllLaws
import Derived.StillTailTactics
import Derived.BigRegion
import Derived.Deep.DeepCutAuto
import Derived.Deep.CutBlock
import Derived.Lib.AppendStr
import Derived.Lib.Builder
import Derived.Shelf.Strings.Builder1
import Derived.Test.YtknegjaeoffnbaaGreatDoorChecked
import Derived.Lib.Walk
import Derived.Lib.ItoaMem
import Derived.WalkKit
import Derived.BigCall
import Derived.BigGuard
import Derived.Lib.ItoaNum
import Derived.Lib.Atoi
import Derived.Lib.Repeat
import Derived.Lib.IndexMore
import Derived.Lib.IndexBytes
set_option linter.all false
set_option maxHeartbeats 4000000
open Go.Lib renaming hid → aa,decDigits → ae,trimPrefix → ah,run_eql_slice_nil → au,byteCells → az,hasPrefix → aE,nDigits → aM,decDigits_length → aT,bitLen → bD,zeros24 → eF,decDigits_one → eO,repeatL → eX,cut → fe,strCells → fC,itoa → fO,decFrom → fP,TabIs → ie,atoi → il,pow10Tab → iz
open Nat renaming le_trans → ab,lt_of_lt_of_le → aD,le_refl → aK,mul_le_mul_left → aQ,lt_or_ge → bg,zero_add → bB,pow_succ → bC,zero_le → bH,pow_le_pow_right → bI,strongRecOn → ep,pow_le_pow_left → eI,add_assoc → eJ,add_sub_cancel → eL,add_mul → eU,mul_assoc → fi,add_sub_cancel_left → fp,mul_comm → fy,le_of_ble_eq_true → fD,mul_le_mul_right → fH,eq_zero_or_pos → fT,lt_of_not_le → ia,le_max_right → ib,le_max_left → ij,zero_mul → im,sub_zero → iq,sub_self → ir,gcd → iu,ble → iv,pow_mul → iA,pow_add → iB,mul_one → iC,mul_add → iD
open Int renaming mul_le_mul_of_nonneg_left → af,mul_comm → aj,mul_le_mul_of_nonneg_right → ao,le_of_lt → aw,mul_ediv_add_emod → aC,mul_nonneg → aG,emod_nonneg → aH,emod_lt_of_pos → aI,pow_succ → aS,ediv_lt_of_lt_mul → aZ,toNat_natCast → ba,add_mul → bc,natAbs_ediv_le_natAbs → bh,ediv_nonneg → bn,eq_ofNat_of_zero_le → bw,neg_mul → bK,add_zero → bN,tmod_lt_of_pos → bQ,lt_trichotomy → bU,gcd → bV,mul_zero → eb,mul_ne_zero → eB,sub_mul → eE,pow_add → eV,one_mul → eW,natCast_pow → eY,natCast_mul → eZ,le_antisymm → e8,mul_ediv_cancel_left → fj,ediv_eq_zero_of_lt → fz,add_comm → fB,mul_add → fL,le_refl → fM,emod_eq_of_lt → hJ,pow_zero → iw,neg_tmod → ix,gcd_comm → iy,pow_pos → iE,mul_one → iF,mul_neg → iG
open Go renaming World → ag,Value → ai,TypeId → aB,Operand → aL,Program → bm
open Go.Value renaming bool → ak,int → aq,pointer → ay,ownBlock → e9
open List renaming take_of_length_le → ar,length_append → ax,replicate → aA,eq_nil_of_length_eq_zero → aN,append_assoc → aP,drop_zero → aR,take_succ_cons → aU,drop_succ_cons → aV,length_cons → aW,take_append_drop → aX,perm_append_comm_assoc → aY,length_drop → bf,take_zero → bA,flatten_append → bM,getElem?_append_left → bS,drop_eq_getElem_cons → bT,getD → bW,append_cons → bX,drop_of_length_le → bY,nil_append → bZ,isPrefixOf → cb,singleton_append → er,set_append_right → eu,perm_append_comm → ew,length_singleton → ey,getElem?_eq_none → ez,length_take → eR,cons_append → eS,length → eT,getLast?_eq_getElem? → ff,sublist_cons_self → fq,drop_eq_nil_of_le → fu,replicate_succ' → fF,getElem?_append → fG,takeWhile_cons → fI,replicate_zero → fJ,replicate_succ → fK,take_length → fW,getElem_mem → fX,drop → fY,all_eq_true → fZ,append_nil → ic,map_cons → ik
open Bool renaming eq_iff_iff → av,and_eq_true → aJ,or_eq_false_iff → bG,false_eq_true → bP,not_eq_false' → eK,true_and → fg,false_or → fh,not_eq_true' → fV,or_eq_true → ig
open Rat renaming divInt → aF,num_intCast → ej,den_intCast → ek,neg_divInt_neg → fR,lt_iff → fS
open Go.Builtin renaming zeroCells → aO,append_ → fQ
open Go.Value.slice renaming injEq → bj
open Go.IntWalk renaming i64_in → bt
open Go.Result renaming andThen_ok → bz
open Array renaming size_replicate → bE,ext' → bO,getElem?_eq_none → fm,getElem?_append → fv,replicate → hZ
open And renaming intro → bF
open List.Perm renaming refl → bJ
open Option.some renaming injEq → bL
open ByteArray renaming toList → bR,size → eP
open Go.Sem renaming run_pure → ee,run_bind → ef
open Go.Proofs renaming enters_of → ei
open Go.World renaming cell? → eC
open Go.Instr renaming sureAddr → eD,loadAt → eM
open Go.Obj renaming cells → eG
open UInt8.toNat renaming inj → eH
open Go.RowKit.Below renaming heap_alloc → eN,heap_setCell → fN
open UInt8 renaming ofNat → eQ
open Go.Addr.mk renaming injEq → fb
open Go.Region renaming wanted → fc
open Go.Sort renaming grow → fk
open Go.Ending renaming returned → fU
namespace Go.Proofs.YtknegjaeoffnbaaGreatDoor
open Go.RowKit Ig
def p2 (s:Nat):Int:=2^s
theorem Z3 (s:Nat):0<p2 s:=iE (by decide)
theorem Wb {s:Nat} (h:s<64):p2 (64 - s)*p2 s=W:=by
 unfold p2;rw [← eV,show 64 - s+s=64 from by omega];rfl
theorem R7:p2 0=1:=rfl
theorem xv {s:Nat} (h:s<64):2*p2 s≤W:=by
 have h1:=Wb h
 have h2:2≤p2 (64 - s):=by
  unfold p2;rw [show 64 - s=(63 - s)+1 from by omega,aS]
  have:=Z3 (63 - s);unfold p2 at this;omega
 have h3:2*p2 s≤p2 (64 - s)*p2 s:=ao h2 (aw (Z3 s))
 omega
theorem FO {x:Int} {s:Nat} (hs:s<64):x*p2 s%W=p2 s*(x%p2 (64 - s)):=by
 rw [← Wb hs,aj (p2 (64 - s)) (p2 s),aj x (p2 s),Int.mul_emod_mul_of_pos _ _ (Z3 s)]
theorem OC {x:Int} {s:Nat} (hs:s<64):x*p2 s / W=x / p2 (64 - s):=by
 rw [← Wb hs];exact Int.mul_ediv_mul_of_pos_left x _ (Z3 s)
theorem R8 {x h:Int} {s:Nat} (hs:s<64) (h0:0≤h) (h1:h<p2 s):bits .or .u64 h (x*p2 s%W)=h+x*p2 s%W∧h+x*p2 s%W<W:=by
 have e:=FO (x:=x) hs
 have k0:=Z3 (64 - s)
 have b0:0≤x%p2 (64 - s):=aH _ (by omega)
 have b1:x%p2 (64 - s)<p2 (64 - s):=aI _ k0
 have hb:p2 s*(x%p2 (64 - s))+h<W:=by
  have:p2 s*(x%p2 (64 - s)+1)≤p2 s*p2 (64 - s):=af (by omega) (aw (Z3 s))
  rw [aj (p2 s) (p2 (64 - s)),Wb hs,fL] at this;omega
 have hb0:0≤p2 s*(x%p2 (64 - s)):=aG (aw (Z3 s)) b0
 rw [e]
 refine⟨?_,by omega⟩
 obtain ⟨a,ha⟩:=bw b0
 obtain ⟨c,rfl⟩:=bw h0
 rw [ha] at *
 have e2:p2 s*(a:Int)=((2^s*a:Nat):Int):=by simp [p2]
 have h1':c<2^s:=by
  have:(c:Int)<((2^s:Nat):Int):=(by simpa [p2] using h1);omega
 rw [e2] at hb ⊢
 have hW:=Wl
 rw [u64_or_nat _ _ (by omega) (by omega),Nat.or_comm,← Nat.two_pow_add_eq_or_of_lt h1']
 omega
def Du (l:List Int) (s k:Nat) (ds:List Int) (h:Int):Prop :=
 ds.length=k∧DG W ds∧(0≤h∧h<p2 s)∧dv W ds+W^k*h=dv W (l.take k)*p2 s
theorem Du.step {l ds:List Int} {s k:Nat} {h:Int} (hi:Du l s k ds h) (hs:s<64) (hl:DG W l) :
  Du l s (k+1) (ds++[h+Qa l k*p2 s%W]) (Qa l k / p2 (64 - s)):=by
 obtain ⟨h1,h2,h3,h4⟩:=hi
 obtain ⟨_,b⟩:=R8 (x:=Qa l k) hs h3.1 h3.2
 have hd:=JZ hl k
 have l0:0≤Qa l k*p2 s%W:=aH _ (by decide)
 have q:=aC (Qa l k*p2 s) W
 have hk:0≤Qa l k / p2 (64 - s)∧Qa l k / p2 (64 - s)<p2 s:=by
  refine⟨bn hd.1 (aw (Z3 _)),?_⟩
  refine aZ (Z3 _) ?_
  rw [aj,Wb hs];exact hd.2
 refine⟨by simp [h1],h2.append (DG.cons (by omega) b (DG.nil _)),hk,?_⟩
 rw [XS,h1,J7,aS,← OC hs]
 generalize Qa l k*p2 s / W=a at *
 generalize Qa l k*p2 s%W=c at *
 have e:W^k*(W*a+c)=W^k*(Qa l k*p2 s):=by rw [q]
 grind
theorem Du.zero {l ds:List Int} {k:Nat} {h:Int} (hi:Du l 0 k ds h):h=0:=by
 have:=hi.2.2.1;rw [R7] at this;omega
theorem Mq (x:Int) (s:Nat):IntKind.u64.wrap (x*2^s)=x*p2 s%W:=by
 simp [IntKind.wrap,IntKind.signed,IntKind.bits,p2,Wl]
theorem WU {α:Type} (ds:List α) (x y:α) (r:List α) (k:Nat) (h:ds.length=k):(ds++x::r).set k y=ds++y::r:=by
 subst h;rw [eu _ _ (aK _),ir,List.set_cons_zero]
theorem OH {α:Type} (ds:List α) (x y z:α) (r:List α) (k:Nat) (h:ds.length=k):(ds++z::x::r).set (k+1) y=(ds++[z])++y::r:=by
 have:=WU (ds++[z]) x y r (k+1) (by simp [h])
 rw [aP] at this;exact this
set_option maxRecDepth 100000 in
theorem Ro (s:Nat) (q:Option Addr) (cap:Nat) (l:List Int) (w:ag) (hs:s<64) (hl:DG W l) (hc:Cells w q Jc l) (hlen:l.length≤100000000000) :
  Calls Tryz.prog 286 #[.slice q l.length cap,.int .i64 s] w fun e w' =>
   ZP w (fun v w'=>∃ l':List Int,v = .slice (some ⟨w.heap.size,0,none⟩) (l.length+1) (l.length+1)∧YO w' w.heap.size 248 Jc l'∧l'.length=l.length+1∧DG W l'∧dv W l'=dv W l*p2 s) e w':=by
 have HC:=aa hc;clear hc
 have hmk:=fun w=>YC (l.length+1) (by omega) w
 have ec:((l.length+1:Nat):Int)=(l.length:Int)+1:=by omega
 simp only [ec] at hmk
 clear ec
 go_enter Tryz.func286,Tryz.ntmps286
 go_wp2
 go_loopw [14] (fun i wr=>∃ (k:Nat) (ds:List Int) (h:Int),k≤l.length∧i = .int .i64 k∧Du l s k ds h∧YO wr w.heap.size 248 Jc (ds++h::aA (l.length - k) 0)∧Ext w wr)
  (fun i _=>l.length - (intOf i).toNat)
 case atStart=>exact⟨0,[],0,bH _,rfl,⟨rfl,DG.nil _,⟨fM _,Z3 _⟩,by simp⟩,YO.made w _ Jc 0 _ _ rfl,(Ext.refl _).alloc _⟩
 case round =>
  obtain ⟨k,ds,h,hk,rfl,hI,hB,hE⟩:=hrel
  clear hmk
  by_cases hlt:k<l.length
  ·obtain ⟨b,off,rfl,hb,hc⟩:=HC.out k hlt
   rw [Zo hlt] at hc
   have hc:=hE.cell hc
   simp only [Jc] at hc
   have hst:=hI.step hs hl
   obtain ⟨hd1,hd2,hd3,hd4⟩:=hI
   have hor:=(R8 (x:=Qa l k) hs hd3.1 hd3.2).1
   have HO:=aa hor;clear hor hd4
   have hlen1:k<(ds++h::aA (l.length - k) 0).length:=by simp [hd1]
   have hlen2:k+1<(ds++h::aA (l.length - k) 0).length:=by simp [hd1];omega
   have hcell:=hB.cell hlen1
   have hcell2:=hB.cell hlen2
   have hg:(ds++h::aA (l.length - k) 0).getD k default=h:=by subst hd1;simp [bW]
   rw [hg] at hcell
   simp only [Jc] at hcell hcell2
   have hfr:=hB.frozen k
   have hfr2:=hB.frozen (k+1)
   have hx0:(0:Int)≤(k:Int):=by omega
   have hx1:(k:Int)<(l.length:Int)+1:=by omega
   generalize (ds++h::aA (l.length - k) 0).getD (k+1) default=z at hcell2
   have HD1:=aa hd1
   have HB:=aa hB
   clear hg hd1 hB hlen1 hlen2
   by_cases hs0:0<s
   ·go_wp2
    go_still_tail 9,(by kernel_rfl)
    go_wp2
    go_roundw
    case rel =>
     refine⟨k+1,ds++[h+Qa l k*p2 s%W],Qa l k / p2 (64 - s),by omega,by go_num,hst,?_,((hE.Xn (by simp) _).Xn (by simp) _).drew⟩
     rw [Mq,HO.out]
     have h1:=HB.out.set k (h+Qa l k*p2 s%W)
     rw [WU _ _ _ _ _ HD1.out,show l.length - k=(l.length - (k+1))+1 from by omega,fK] at h1
     have h2:=h1.set (k+1) (Qa l k / p2 (64 - s))
     rw [OH _ _ _ _ _ _ HD1.out] at h2
     exact h2.drew
    case measure=>simp [intOf];omega
   ·have hz:Hid (Qa l k / p2 (64 - s)=0):=by
     have e:s=0:=by omega
     subst e;exact hst.zero
    go_wp2
    go_still_tail 9,(by kernel_rfl)
    go_wp2
    go_roundw
    case rel =>
     refine⟨k+1,ds++[h+Qa l k*p2 s%W],Qa l k / p2 (64 - s),by omega,by go_num,hst,?_,(hE.Xn (by simp) _).drew⟩
     rw [Mq,HO.out,hz.out]
     have h1:=HB.out.set k (h+Qa l k*p2 s%W)
     rw [WU _ _ _ _ _ HD1.out,show l.length - k=(l.length - (k+1))+1 from by omega,fK] at h1
     rw [aP]
     exact h1.drew
    case measure=>simp [intOf];omega
  ·have hk':k=l.length:=by omega
   subst hk'
   obtain ⟨hd1,hd2,hd3,hd4⟩:=hI
   have HF:Hid (dv W ds+W^l.length*h=dv W l*p2 s):=by rw [fW] at hd4;exact hd4
   have HD1:=aa hd1
   rw [ir,fJ] at hB
   have HB:=aa hB
   have hh:h<W:=by have:=xv hs;have:=Z3 s;omega
   clear hd1 hd4 hB
   go_wp2
   go_ret
   exact⟨_,rfl,⟨_,rfl,HB.out,by simp [HD1.out],hd2.append (DG.cons hd3.1 hh (DG.nil _)),by rw [XS,HD1.out,HF.out]⟩,hE⟩
theorem EA (s:Nat) (v:ai) (l:List Int) (w:ag) (hs:s<64) (hl:DG W l) (hv:SL w v Jc l) (hlen:l.length≤100000000000) :
  Calls Tryz.prog 286 #[v,.int .i64 s] w fun e w' =>
   ZP w (fun v w'=>∃ l':List Int,v = .slice (some ⟨w.heap.size,0,none⟩) (l.length+1) (l.length+1)∧YO w' w.heap.size 248 Jc l'∧l'.length=l.length+1∧DG W l'∧dv W l'=dv W l*p2 s) e w':=by
 obtain ⟨q,cap,rfl,_,_,hc⟩:=hv
 exact Ro s q cap l w hs hl hc hlen
def Z8 (u v:List Int) (n:Nat) (q r over:Int):Prop :=
 (0≤q∧q<W)∧(0≤r∧r<W)∧(0≤over∧over≤1)∧q*Qa v (n+1)+r+W*over=Qa u (n+2)*W+Qa u (n+1)∧dv W u<(q+1)*dv W v
abbrev Vs (u v:List Int) (n:Nat):Prop:=VY W u v n
theorem VY.Iw {u v:List Int} {n:Nat} (h:Vs u v n) (hge:Qa v (n+1)≤Qa u (n+2)) :
  Z8 u v n (W - 1) (XH (Qa u (n+1)) (Qa v (n+1)) 0) (Xf (Qa u (n+1)) (Qa v (n+1)) 0):=by
 have e:Qa u (n+2)=Qa v (n+1):=e8 (VY.top Ex h) hge
 obtain ⟨a,b,c⟩:=Wk (JZ h.hu (n+1)) (JZ h.hv (n+1)) (by decide:(0:Int)≤0∧(0:Int)≤1)
 refine⟨by decide,b,c,?_,?_⟩
 ·rw [e];grind
 ·have:=h.lt;rw [show W - 1+1=W from by omega];exact this
theorem VY.Ix {u v:List Int} {n:Nat} (h:Vs u v n) (hlt:Qa u (n+2)<Qa v (n+1)) :
  Z8 u v n (Ar (Qa u (n+2)) (Qa u (n+1)) (Qa v (n+1))) (I5 (Qa u (n+2)) (Qa u (n+1)) (Qa v (n+1))) 0:=by
 obtain ⟨a1,a2,a3⟩:=Z5 Ex h.hu h.lu
 obtain ⟨b1,b2,b3⟩:=KL Ex h.hv h.lv
 have d0:=JZ h.hu (n+2)
 have d1:=JZ h.hu n
 have d2:=JZ h.hu (n+1)
 have d3:=JZ h.hv n
 have d4:=JZ h.hv (n+1)
 have hp:=pow_pos Jn n
 have hz:=h.nz
 have hW:=Jn
 unfold Ar I5
 unfold Z8
 rw [a1,b1]
 generalize W^n=D at *
 generalize dv W (v.take n)=v' at *
 generalize dv W (u.take n)=u' at *
 generalize Qa u (n+2)=u0 at *
 generalize Qa u (n+1)=u1 at *
 generalize Qa u n=u2 at *
 generalize Qa v (n+1)=v1 at *
 generalize Qa v n=v2 at *
 have m0:0≤u0*W:=aG d0.1 (by omega)
 have m1:(u0+1)*W≤v1*W:=ao (by omega) (by omega)
 have q1:=aC (u0*W+u1) v1
 have q2:=aH (u0*W+u1) (by omega:v1≠0)
 have q3:=aI (u0*W+u1) hz
 have q4:0≤(u0*W+u1) / v1:=bn (by omega) (by omega)
 have q5:(u0*W+u1) / v1<W:=by
  refine aZ hz ?_
  rw [bc] at m1;rw [aj W v1];omega
 generalize (u0*W+u1) / v1=q at *
 generalize (u0*W+u1)%v1=r at *
 refine⟨⟨q4,q5⟩,⟨q2,by omega⟩,by omega,by rw [aj q v1];omega,?_⟩
 have k1:(u0*W+u1+1)≤(q+1)*v1:=by rw [bc,aj q v1];omega
 have k2:(u0*W+u1+1)*(W*D)≤(q+1)*v1*(W*D):=ao k1 (aG (by omega) (by omega))
 have k3:0≤(q+1)*(v2*D):=aG (by omega) (aG d3.1 (by omega))
 have k4:0≤(q+1)*v':=aG (by omega) b2
 have k5:(u2+1)*D≤W*D:=ao (by omega) (by omega)
 grind
theorem Z8.less {u v:List Int} {n:Nat} {q r:Int} (h:Vs u v n) (g:Z8 u v n q r 0) (hb:r*W+Qa u n<q*Qa v n) :
  Z8 u v n (q - 1) (XH r (Qa v (n+1)) 0) (Xf r (Qa v (n+1)) 0):=by
 obtain ⟨g1,g2,g3,g4,g5⟩:=g
 obtain ⟨a1,a2,a3⟩:=Z5 Ex h.hu h.lu
 obtain ⟨b1,b2,b3⟩:=KL Ex h.hv h.lv
 obtain ⟨a,b,c⟩:=Wk g2 (JZ h.hv (n+1)) (by decide:(0:Int)≤0∧(0:Int)≤1)
 have hp:=pow_pos Jn n
 have d1:=JZ h.hu n
 have d3:=JZ h.hv n
 have q1:1≤q:=by
  refine Int.not_lt.1 fun hc=>?_
  have:q=0:=by omega
  subst this
  have:0≤r*W:=aG g2.1 (by decide)
  omega
 refine⟨by omega,b,c,?_,?_⟩
 ·have:(q - 1)*Qa v (n+1)=q*Qa v (n+1) - Qa v (n+1):=by grind
  omega
 ·rw [show q - 1+1=q from by omega,a1,b1]
  refine NY b2 a3 hp (by omega) ?_
  generalize Qa u (n+2)=u0 at *
  generalize Qa u (n+1)=u1 at *
  generalize Qa u n=u2 at *
  generalize Qa v (n+1)=v1 at *
  generalize Qa v n=v2 at *
  have e:q*(v1*W+v2)=(q*v1+r)*W - r*W+q*v2:=by grind
  have e2:q*v1+r=u0*W+u1:=by omega
  rw [e,e2];omega
theorem Z8.fin {u v:List Int} {n:Nat} {q r over:Int} (h:Vs u v n) (g:Z8 u v n q r over) (hb:over=0→q*Qa v n≤r*W+Qa u n) :
  (q - 1)*dv W v≤dv W u∧dv W u<(q+1)*dv W v:=by
 obtain ⟨g1,g2,g3,g4,g5⟩:=g
 refine⟨?_,g5⟩
 obtain ⟨a1,a2,a3⟩:=Z5 Ex h.hu h.lu
 obtain ⟨b1,b2,b3⟩:=KL Ex h.hv h.lv
 have hp:=pow_pos Jn n
 have d1:=JZ h.hu n
 have d3:=JZ h.hv n
 have d4:=JZ h.hv (n+1)
 have hz:=h.nz
 rw [a1,b1]
 have hR:q*Qa v n≤(r+W*over)*W+Qa u n:=by
  have:over=0∨over=1:=by omega
  rcases this with rfl | rfl
  ·simpa using hb rfl
  ·have k1:q*Qa v n≤W*W:=Int.mul_le_mul (by omega) (by omega) d3.1 (by decide)
   have k2:0≤r*W:=aG g2.1 (by decide)
   have e:(r+W*1)*W=r*W+W*W:=by grind
   rw [e];omega
 refine T2 hp b3 a2 g1.1 ?_ ?_ b2
 ·generalize Qa u (n+2)=u0 at *
  generalize Qa u (n+1)=u1 at *
  generalize Qa u n=u2 at *
  generalize Qa v (n+1)=v1 at *
  generalize Qa v n=v2 at *
  rw [← g4]
  grind
 ·have k1:1*W≤Qa v (n+1)*W:=ao (by omega) (by decide)
  omega
def DL (u v:List Int) (q:Int) (k:Nat) (ds:List Int) (b c:Int):Prop :=
 ds.length=k∧DG W ds∧(0≤b∧b≤1)∧(0≤c∧c<W)∧dv W ds - W^k*(b+c)=dv W (u.take k) - q*dv W (v.take k)
theorem DL.start (u v:List Int) (q:Int):DL u v q 0 [] 0 0:=⟨rfl,DG.nil _,by decide,by decide,by simp⟩
theorem DL.step {u v ds:List Int} {q b c:Int} {k:Nat} (h:DL u v q k ds b c) (hu:DG W u) (hv:DG W v) (hq:0≤q∧q<W) :
  DL u v q (k+1) (ds++[ZN (Qa u k) (XH (J1 q (Qa v k)) c 0) b]) (K1 (Qa u k) (XH (J1 q (Qa v k)) c 0) b)
   (Xo q (Qa v k)+Xf (J1 q (Qa v k)) c 0):=by
 obtain ⟨h1,h2,h3,h4,h5⟩:=h
 obtain ⟨_,m1,m2,m3,m4,_,_⟩:=MD hq (JZ hv k) h4 (by decide:(0:Int)≤0∧(0:Int)<W)
 obtain ⟨a1,_,_⟩:=Wk m1 h4 (by decide:(0:Int)≤0∧(0:Int)≤1)
 obtain ⟨s1,s2,s3⟩:=Ba (JZ hu k) m2 h3
 have e1:J1 q (Qa v k)+W*Xo q (Qa v k)=q*Qa v k:=by unfold J1 Xo;rw [fB];exact aC _ _
 refine⟨by simp [h1],h2.append (DG.cons s2.1 s2.2 (DG.nil _)),s3,m3,?_⟩
 rw [XS,h1,J7,J7,aS]
 generalize J1 q (Qa v k)=lo at *
 generalize Xo q (Qa v k)=hi at *
 generalize Xf lo c 0=ch at *
 generalize XH lo c 0=cl at *
 generalize K1 (Qa u k) cl b=sh at *
 generalize ZN (Qa u k) cl b=sl at *
 generalize Qa u k=a at *
 generalize Qa v k=x at *
 have e2:W^k*(sl - W*sh)=W^k*(a - cl - b):=by rw [s1]
 have e3:W^k*(cl+W*ch)=W^k*(lo+c+0):=by rw [a1]
 have e4:W^k*(lo+W*hi)=W^k*(q*x):=by rw [e1]
 grind
theorem O9 {u v ds:List Int} {q b c:Int} {n:Nat} (h:Vs u v n) (m:DL u v q (n+2) ds b c) (hq:(q - 1)*dv W v≤dv W u∧dv W u<(q+1)*dv W v)
  (hb:K1 (Qa u (n+2)) c b=0) :
  DG W (ds++[ZN (Qa u (n+2)) c b])∧q=dv W u / dv W v∧dv W (ds++[ZN (Qa u (n+2)) c b])=dv W u%dv W v:=by
 obtain ⟨h1,h2,h3,h4,h5⟩:=m
 obtain ⟨s1,s2,s3⟩:=Ba (JZ h.hu (n+2)) h4 h3
 rw [ar (by have:=h.lv;omega:v.length≤n+2)] at h5
 have e:=J7 u (n+2)
 rw [ar (by have:=h.lu;omega:u.length≤n+2+1)] at e
 have hD:DG W (ds++[ZN (Qa u (n+2)) c b]):=h2.append (DG.cons s2.1 s2.2 (DG.nil _))
 have h0:=Qu Jn hD
 have hvp:0<dv W v:=by
  have:=h.lt;have:=Qu Jn h.hu
  refine Int.not_le.1 fun hc=>?_
  have:W*dv W v≤W*0:=af hc (by decide)
  omega
 have hv:dv W (ds++[ZN (Qa u (n+2)) c b])=dv W u - q*dv W v:=by
  rw [XS,h1,e];rw [hb] at s1
  generalize ZN (Qa u (n+2)) c b=sl at *
  have:W^(n+2)*(sl - W*0)=W^(n+2)*(Qa u (n+2) - c - b):=by rw [s1]
  grind
 rw [hv] at h0 ⊢
 refine⟨hD,(Xw hvp (by omega) hq.2).symm,(Zt (by omega) hq.2).symm⟩
theorem jN {u v ds es:List Int} {q b c k:Int} {n:Nat} (h:Vs u v n) (m:DL u v q (n+2) ds b c) (hq:(q - 1)*dv W v≤dv W u∧dv W u<(q+1)*dv W v)
  (hb:K1 (Qa u (n+2)) c b=1) (ha:D0 ds v (n+2) es k) :
  q - 1=dv W u / dv W v∧dv W es=dv W u%dv W v∧ZN (Qa u (n+2)) c b+k=W:=by
 obtain ⟨h1,h2,h3,h4,h5⟩:=m
 obtain ⟨a1,a2,a3,a4⟩:=ha
 obtain ⟨s1,s2,s3⟩:=Ba (JZ h.hu (n+2)) h4 h3
 rw [ar (by have:=h.lv;omega:v.length≤n+2)] at h5 a4
 rw [ar (by omega:ds.length≤n+2)] at a4
 have e:=J7 u (n+2)
 rw [ar (by have:=h.lu;omega:u.length≤n+2+1)] at e
 have hvp:0<dv W v:=by
  have:=h.lt;have:=Qu Jn h.hu
  refine Int.not_le.1 fun hc=>?_
  have:W*dv W v≤W*0:=af hc (by decide)
  omega
 have d1:=YB Jn a2
 have d0:=Qu Jn a2
 have dd0:=Qu Jn h2
 have dd1:=YB Jn h2
 have v1:=YB Jn h.hv
 rw [h.lv] at v1
 rw [a1] at d1
 rw [h1] at dd1
 rw [hb] at s1
 have hp:=pow_pos Jn (n+2)
 generalize ZN (Qa u (n+2)) c b=sl at *
 have key:dv W ds+W^(n+2)*(sl - W)=dv W u - q*dv W v:=by
  have s2:W^(n+2)*(sl - W)=W^(n+2)*Qa u (n+2) - W^(n+2)*(b+c):=by
   rw [← Int.mul_sub];congr 1;omega
  rw [e,s2];omega
 have hneg:dv W u<q*dv W v:=by
  have:W^(n+2)*(sl - W)≤W^(n+2)*(-1):=af (by omega) (by omega)
  omega
 have e1:(q - 1)*dv W v=q*dv W v - dv W v:=by rw [eE,eW]
 have e2:(q - 1+1)*dv W v=q*dv W v:=by rw [show q - 1+1=q from by omega]
 have hR:dv W u - (q - 1)*dv W v=dv W es+W^(n+2)*(sl+k - W):=by
  have e3:W^(n+2)*(sl+k - W)=W^(n+2)*(sl - W)+W^(n+2)*k:=by rw [← fL];congr 1;omega
  omega
 have hk:sl+k=W:=by
  have r0:0≤dv W u - (q - 1)*dv W v:=by omega
  have r1:dv W u - (q - 1)*dv W v<W^(n+2):=by omega
  rw [hR] at r0 r1
  rcases bU (sl+k) W with g | g | g
  ·have:W^(n+2)*(sl+k - W)≤W^(n+2)*(-1):=af (by omega) (by omega)
   omega
  ·exact g
  ·have:W^(n+2)*1≤W^(n+2)*(sl+k - W):=af (by omega) (by omega)
   omega
 refine⟨(Xw hvp (by omega) (by rw [e2];exact hneg)).symm,?_,hk⟩
 rw [Zt (q:=q - 1) (by omega) (by rw [e2];exact hneg),hR,hk];simp
structure Gj (B:Nat) (w w':ag):Prop where
 os:w'.os=w.os
 tape:w'.tape=w.tape
 output:w'.output=w.output
 size:w.heap.size≤w'.heap.size
 block:∀ k,k<w.heap.size→k≠B→w'.heap[k]?=w.heap[k]?
theorem Gj.refl (B:Nat) (w:ag):Gj B w w:=⟨rfl,rfl,rfl,aK _,fun _ _ _=>rfl⟩
theorem Gj.AU {w w':ag} (B:Nat) (h:Ext w w'):Gj B w w':=⟨h.os,h.tape,h.output,h.size,fun k hk _=>h.block k hk⟩
theorem Gj.trans {B:Nat} {a b c:ag} (h:Gj B a b) (k:Gj B b c):Gj B a c :=
 ⟨k.os.trans h.os,k.tape.trans h.tape,k.output.trans h.output,ab h.size k.size,fun i hi hn=>(k.block i (aD hi h.size) hn).trans (h.block i hi hn)⟩
theorem Gj.ext {B:Nat} {a b c:ag} (h:Gj B a b) (k:Ext b c):Gj B a c:=h.trans (Gj.AU B k)
theorem Gj.drew {B:Nat} {a b:ag} (h:Gj B a b):Gj B a b.drew:=⟨h.os,h.tape,h.output,h.size,h.block⟩
theorem Gj.drewN {B:Nat} {a b:ag} (h:Gj B a b) (n:Nat):Gj B a (b.drewN n):=⟨h.os,h.tape,h.output,h.size,h.block⟩
theorem Gj.setCell {B:Nat} {a b:ag} (h:Gj B a b) (off:Nat) (v:ai):Gj B a (b.setCell ⟨B,off,none⟩ v) :=
 h.trans ⟨rfl,rfl,rfl,by simp [World.setCell],fun k _ hn=>fN _ _ _ _ hn⟩
theorem Gj.yB {B:Nat} {a b c:ag} (h:Gj B b c) (k:Ext a b) (hB:a.heap.size≤B):Ext a c :=
 ⟨h.os.trans k.os,h.tape.trans k.tape,h.output.trans k.output,ab k.size h.size,fun i hi=>(h.block i (aD hi k.size) (by omega)).trans (k.block i hi)⟩
theorem Gj.cell {B:Nat} {w w':ag} (h:Gj B w w') {p:Addr} {v:ai} (hp:p.block≠B) (hv:w.cell? p=some v):w'.cell? p=some v:=by
 rw [World.cell?_of_block (w:=w) (h.block p.block (World.block_lt_of_cell? w p hv) hp)];exact hv
theorem Gj.cells {α:Type} [Inhabited α] {B:Nat} {w w':ag} (h:Gj B w w') {q:Option Addr} {enc:Hj α} {l:List α} (hq:∀ a,q=some a→a.block≠B) (hc:Cells w q enc l):Cells w' q enc l:=by
 intro i hi;obtain ⟨b,off,h1,h2,h3⟩:=hc i hi
 exact⟨b,off,h1,(by obtain ⟨c,fr,e⟩:=id h2;exact⟨c,fr,by rw [h.block b h2.lt (show b≠B from hq ⟨b,off,none⟩ h1)];exact e⟩),h.cell (p:=⟨b,off+i,none⟩) (show b≠B from hq ⟨b,off,none⟩ h1) h3⟩
theorem Gj.DF {α:Type} {B b E:Nat} {w w':ag} (h:Gj B w w') {enc:Hj α} {l:List α} (hb:b≠B) (k:YO w b E enc l):YO w' b E enc l:=by
 unfold YO;rw [h.block b k.lt hb];exact k
theorem AZ {pre ds post r:List Int} {x:Int} {j k:Nat} (hj:pre.length=j) (hk:ds.length=k):(pre++((ds++x::r)++post)).getD (j+k) default=x:=by
 subst hj hk;simp [bW]
theorem AY {pre ds post r:List Int} {x:Int} {j k:Nat} (hj:pre.length=j) (hk:ds.length=k):j+k<(pre++((ds++x::r)++post)).length:=by
 subst hj hk;simp
theorem ME {pre ds post r:List Int} {x:Int} {j k:Nat} (hj:pre.length=j) (hk:ds.length=k) (y:Int):(pre++((ds++x::r)++post)).set (j+k) y=pre++((ds++y::r)++post):=by
 subst hj;rw [eu _ _ (by omega),fp,aP,eS,WU _ _ _ _ _ hk,aP,eS]
theorem Ad {l:List Int} {n:Nat} (h:DG W l) (hn:NZ l) (h1:W^n≤dv W l) (h2:dv W l<W^(n+1)):l.length=n+1:=by
 have a:=YB Jn h
 have hl:l≠[]:=by rintro rfl;have:=pow_pos Jn n;simp at h1;omega
 have b:=B3 Jn h hn hl
 have hlen:0<l.length:=List.length_pos_iff.2 hl
 rcases Nat.lt_trichotomy l.length (n+1) with g | g | g
 ·have:=ZV (b:=W) (by decide) (m:=l.length) (n:=n) (by omega);omega
 ·exact g
 ·have:=ZV (b:=W) (by decide) (m:=n+1) (n:=l.length - 1) (by omega);omega
def xH (la:List Int) (y:Int) (k:Nat) (qs:List Int) (r:Int):Prop :=
 qs.length+k=la.length∧DG W qs∧(0≤r∧r<y)∧dv W (la.drop k)=y*dv W qs+r
theorem xH.step {la qs:List Int} {y r:Int} {k:Nat} (h:xH la y (k+1) qs r) (ha:DG W la) (hy:0<y∧y<W) :
  xH la y k (Ar r (Qa la k) y::qs) (I5 r (Qa la k) y):=by
 obtain ⟨h1,h2,h3,h4⟩:=h
 have hd:=JZ ha k
 have m0:0≤r*W:=aG h3.1 (by decide)
 have m1:(r+1)*W≤y*W:=ao (by omega) (by decide)
 have q1:=aC (r*W+Qa la k) y
 have q2:=aH (r*W+Qa la k) (by omega:y≠0)
 have q3:=aI (r*W+Qa la k) hy.1
 have q4:0≤(r*W+Qa la k) / y:=bn (by omega) (by omega)
 have q5:(r*W+Qa la k) / y<W:=by
  refine aZ hy.1 ?_
  rw [bc] at m1;rw [aj W y];omega
 refine⟨by simp;omega,DG.cons q4 q5 h2,⟨q2,q3⟩,?_⟩
 rw [XC (by omega),Ya,Ya,h4]
 unfold Ar I5
 generalize (r*W+Qa la k) / y=q at *
 generalize (r*W+Qa la k)%y=t at *
 grind
def Vb (U V:Int) (n k m:Nat) (o qs:List Int):Prop :=
 o.length=m+1∧DG W o∧qs.length+k=m - (n+2)+1∧DG W qs∧U=V*(W^k*dv W qs)+dv W o∧dv W o<W^k*V
theorem Vb.start {o:List Int} {n m s:Nat} {A B:Int} (ho:o.length=m+1) (hd:DG W o) (hv:dv W o=A*p2 s) (hs:s<64) (hA:A<W^m)
  (hB:W^(n+1)*9223372036854775808≤B*p2 s) (hm:n+2≤m):Vb (A*p2 s) (B*p2 s) n (m - (n+2)+1) m o []:=by
 refine⟨ho,hd,by simp,DG.nil _,by simp [hv],?_⟩
 rw [hv]
 have hp:=xv hs
 have hp0:=Z3 s
 have k1:A*p2 s<W^m*p2 s:=Int.mul_lt_mul_of_pos_right hA hp0
 have k2:W^m*p2 s≤W^m*9223372036854775808:=af (by have:=Wl;omega) (aw (pow_pos Jn m))
 have k3:W^(m - (n+2)+1)*(W^(n+1)*9223372036854775808)≤W^(m - (n+2)+1)*(B*p2 s):=af hB (aw (pow_pos Jn _))
 have e:W^(m - (n+2)+1)*(W^(n+1)*9223372036854775808)=W^m*9223372036854775808:=by
  rw [← Int.mul_assoc,← eV,show m - (n+2)+1+(n+1)=m from by omega]
 omega
theorem Vb.z7 {U V:Int} {n j m:Nat} {o qs v:List Int} (h:Vb U V n (j+1) m o qs) (hv:DG W v) (lv:v.length=n+2) (nz:0<Qa v (n+1)) (hV:dv W v=V) (_hm:n+2≤m) :
  ∃ pre u post,o=pre++(u++post)∧pre.length=j∧Vs u v n∧dv W post=0∧post.length=m - (j+n+2)∧j+n+2≤m:=by
 obtain ⟨h1,h2,h3,h4,h5,h6⟩:=h
 have hj:j+n+2≤m:=by omega
 have e1:o=o.take j++((o.drop j).take (n+3)++(o.drop j).drop (n+3)):=by rw [aX,aX]
 have l1:(o.take j).length=j:=by rw [eR];omega
 have l2:((o.drop j).take (n+3)).length=n+3:=by rw [eR,bf];omega
 have l3:((o.drop j).drop (n+3)).length=m - (j+n+2):=by rw [bf,bf];omega
 have d1:DG W (o.take j):=h2.take j
 have d2:DG W ((o.drop j).take (n+3)):=(h2.drop j).take _
 have d3:DG W ((o.drop j).drop (n+3)):=(h2.drop j).drop _
 have e2:dv W o=dv W (o.take j)+W^j*(dv W ((o.drop j).take (n+3))+W^(n+3)*dv W ((o.drop j).drop (n+3))):=by
  rw [KZ W o j (by omega),KZ W (o.drop j) (n+3) (by rw [bf];omega)]
 generalize o.take j=pre at *
 generalize (o.drop j).take (n+3)=u at *
 generalize (o.drop j).drop (n+3)=post at *
 have n1:=Qu Jn d1
 have n2:=Qu Jn d2
 have n3:=Qu Jn d3
 have hp:=pow_pos Jn j
 have vlt:=YB Jn hv
 rw [lv,hV] at vlt
 have e3:W^(j+1)*V=W^j*(W*V):=by rw [aS];grind
 have hU:dv W u+W^(n+3)*dv W post<W*V:=by
  refine Int.not_le.1 fun hc=>?_
  have:=af hc (aw hp)
  omega
 have hpost:dv W post=0:=by
  refine e8 (Int.not_lt.1 fun hc=>?_) n3
  have k1:W^(n+3)*1≤W^(n+3)*dv W post:=af (by omega) (aw (pow_pos Jn _))
  have k2:W*V≤W*W^(n+2):=af (by omega) (by decide)
  have k3:W^(n+3)=W*W^(n+2):=by rw [aS];grind
  omega
 refine⟨pre,u,post,e1,l1,⟨d2,hv,l2,lv,nz,?_⟩,hpost,l3,hj⟩
 rw [hpost] at hU;rw [hV];simpa using hU
theorem Vb.step {U V:Int} {n j m:Nat} {pre u post qs v u':List Int} (h:Vb U V n (j+1) m (pre++(u++post)) qs) (lj:pre.length=j) (lu:u.length=n+3)
  (hd':DG W u') (lu':u'.length=n+3) (hV:dv W v=V) (hVp:0<V) (hpost:dv W post=0) (hq:dv W u / dv W v<W) (hu0:0≤dv W u) (hval:dv W u'=dv W u%dv W v) :
  Vb U V n j m (pre++(u'++post)) (dv W u / dv W v::qs):=by
 obtain ⟨h1,h2,h3,h4,h5,h6⟩:=h
 rw [hV] at *
 have q0:0≤dv W u / V:=bn hu0 (by omega)
 have q1:=aC (dv W u) V
 have r0:=aH (dv W u) (by omega:V≠0)
 have r1:=aI (dv W u) hVp
 have dpre:DG W pre:=h2.left
 have dpost:DG W post:=h2.right.right
 have p1:=YB Jn dpre
 rw [lj] at p1
 have hp:=pow_pos Jn j
 rw [ZY,ZY,lj,hpost] at h5 h6
 refine⟨by simp at h1 ⊢;omega,dpre.append (hd'.append dpost),by simp;omega,DG.cons q0 hq h4,?_,?_⟩
 ·rw [ZY,ZY,lj,hpost,Ya,hval,h5,aS]
  generalize dv W u / V=q at *
  generalize dv W u%V=r at *
  have e:W^j*(V*q+r)=W^j*dv W u:=by rw [q1]
  grind
 ·rw [ZY,ZY,lj,hpost,hval]
  have k1:W^j*(dv W u%V+1)≤W^j*V:=af (by omega) (by omega)
  rw [fL] at k1
  simp only [eb,bN]
  omega
def Kx (o:List Int) (s k:Nat) (ds:List Int):Prop :=
 ds.length=k∧DG W ds∧dv W ds*p2 s+Qa o 0%p2 s=dv W (o.take k)+W^k*(Qa o k%p2 s)
theorem Kx.start (o:List Int) (s:Nat):Kx o s 0 []:=⟨rfl,DG.nil _,by simp⟩
theorem FN {x:Int} {s:Nat} (hs:s<64) (hx:0≤x∧x<W):0≤x / p2 s∧x / p2 s<p2 (64 - s):=by
 refine⟨bn hx.1 (aw (Z3 s)),aZ (Z3 s) ?_⟩
 rw [Wb hs];exact hx.2
theorem Kx.step {o ds:List Int} {s k:Nat} (h:Kx o s k ds) (ho:DG W o) (hs:s<64) (hs0:0<s) :
  Kx o s (k+1) (ds++[Qa o k / p2 s+Qa o (k+1)*p2 (64 - s)%W]):=by
 obtain ⟨h1,h2,h3⟩:=h
 have hx:=JZ ho k
 have b:=FN hs hx
 obtain ⟨_,c⟩:=R8 (x:=Qa o (k+1)) (s:=64 - s) (by omega) b.1 b.2
 have hy:0≤Qa o (k+1)*p2 (64 - s)%W:=aH _ (by decide)
 refine⟨by simp [h1],h2.append (DG.cons (by omega) c (DG.nil _)),?_⟩
 rw [XS,h1,J7,aS]
 have e1:Qa o (k+1)*p2 (64 - s)%W=p2 (64 - s)*(Qa o (k+1)%p2 s):=by
  have:=FO (x:=Qa o (k+1)) (s:=64 - s) (by omega)
  rw [show 64 - (64 - s)=s from by omega] at this;exact this
 rw [e1]
 have e2:=aC (Qa o k) (p2 s)
 have e3:=Wb hs
 generalize Qa o k / p2 s=a at *
 generalize Qa o k%p2 s=b' at *
 generalize Qa o (k+1)%p2 s=c' at *
 have e4:W^k*(p2 s*a+b')=W^k*Qa o k:=by rw [e2]
 have e5:W^k*(p2 (64 - s)*p2 s)*c'=W^k*W*c':=by rw [e3]
 grind
theorem Kx.OA {o ds:List Int} {k:Nat} (h:Kx o 0 k ds) (ho:DG W o):Kx o 0 (k+1) (ds++[Qa o k / p2 0]):=by
 obtain ⟨h1,h2,h3⟩:=h
 have hx:=JZ ho k
 simp only [R7,Int.emod_one,Int.ediv_one,iF,eb,bN] at *
 exact⟨by simp [h1],h2.append (DG.cons hx.1 hx.2 (DG.nil _)),by simp only [R7,Int.emod_one,iF,eb,bN];rw [XS,h1,h3,J7]⟩
theorem jt {o qs ds:List Int} {n m s:Nat} {A B:Int} (h:Vb (A*p2 s) (B*p2 s) n 0 m o qs) (hs:s<64) (hB:0<B) (hBn:B*p2 s<W^(n+2)) (hm:n+2≤m)
  (hr:Kx o s (n+2) ds):dv W qs=A / B∧dv W ds=A%B:=by
 obtain ⟨h1,h2,h3,h4,h5,h6⟩:=h
 obtain ⟨r1,r2,r3⟩:=hr
 simp only [iw,eW] at h5 h6
 have hp:=Z3 s
 have n0:=Qu Jn h2
 have e2:=KZ W o (n+2) (by omega)
 have t0:=Qu Jn (h2.take (n+2))
 have t1:=Qu Jn (h2.drop (n+2))
 have z:dv W (o.drop (n+2))=0:=by
  refine e8 (Int.not_lt.1 fun hc=>?_) t1
  have k1:W^(n+2)*1≤W^(n+2)*dv W (o.drop (n+2)):=af (by omega) (aw (pow_pos Jn _))
  omega
 have zd:Qa o (n+2)=0:=by
  have e3:=XC (l:=o) (k:=n+2) (by omega)
  rw [e3,Ya] at z
  have d0:=JZ h2 (n+2)
  have d1:=Qu Jn (h2.drop (n+2+1))
  have d2:0≤W*dv W (o.drop (n+2+1)):=aG (by decide) d1
  omega
 rw [zd,Int.zero_emod,eb,bN] at r3
 rw [z,eb,bN] at e2
 have hmod:Qa o 0%p2 s=0:=by
  have f1:dv W o=Qa o 0+W*dv W (o.drop 1):=by
   have:=XC (l:=o) (k:=0) (by omega)
   rw [aR] at this
   rw [congrArg (dv W) this,Ya]
  have f2:dv W o=p2 s*(A - B*dv W qs):=by grind
  have f3:Qa o 0=p2 s*(A - B*dv W qs - p2 (64 - s)*dv W (o.drop 1)):=by
   have:=Wb hs
   have e:Qa o 0=p2 s*(A - B*dv W qs) - W*dv W (o.drop 1):=by omega
   rw [e,← this];grind
  rw [f3];exact Int.mul_emod_right _ _
 rw [hmod,bN,← e2] at r3
 have key:A=B*dv W qs+dv W ds:=by
  have:p2 s*A=p2 s*(B*dv W qs+dv W ds):=by rw [aj,h5,← r3];grind
  exact Int.eq_of_mul_eq_mul_left (by omega) this
 have hlt:dv W ds<B:=by
  refine Int.not_le.1 fun hc=>?_
  have:=ao hc (aw hp)
  omega
 have hds:=Qu Jn r2
 have g1:dv W qs*B≤A:=by rw [aj];omega
 have g2:A<(dv W qs+1)*B:=by rw [bc,aj (dv W qs)];omega
 exact⟨(Xw hB g1 g2).symm,by rw [Zt g1 g2,aj (dv W qs)];omega⟩
def Sv (A B:Int) (r:ai) (w':ag):Prop :=
 ∃ p p' lq lr,r = .tuple #[p,p']∧SL w' p Jc lq∧SL w' p' Jc lr∧(DG W lq∧NZ lq)∧(DG W lr∧NZ lr)∧dv W lq=A / B∧dv W lr=A%B
theorem Gh {x y:Int} (h:y≤x):0≤Zd x y:=by unfold Zd;split<;>(try split)<;>omega
theorem UI (v v':ai) (la lb:List Int) (w:ag) (ha:DG W la) (hb:DG W lb) (na:NZ la) (nb:NZ lb) (hs:SL w v Jc la) (hs':SL w v' Jc lb) (hlt:dv W la<dv W lb) :
  Calls Tryz.prog 247 #[v,v'] w fun e w'=>ZP w (Sv (dv W la) (dv W lb)) e w':=by
 have H3:=aa (Vr hlt)
 have H0:=aa (Qu Jn ha)
 have HL:=aa hlt
 clear hlt
 go_enter Tryz.func247,Tryz.ntmps247
 go_wp2_with (go_at_call 255;refine(ZZ _ _ _ _ _ ha hb na nb hs hs').mono ?_;rw [H3.out];rintro e w' ⟨rfl,hx⟩)
 go_ret2
 exact⟨_,rfl,⟨_,_,[],la,rfl,SL.nil _ _,hs.ext hx,⟨DG.nil _,by simp [NZ]⟩,⟨ha,na⟩,(fz H0.out HL.out).symm,(hJ H0.out HL.out).symm⟩,hx⟩
theorem TH {α:Type} (x z:α) (k:Nat) (qs:List α):(aA (k+1) z++qs).set k x=aA k z++x::qs:=by
 rw [fF,aP,eu _ _ (by simp)];simp
set_option maxRecDepth 100000 in
set_option maxHeartbeats 800000 in
theorem Ap (v:ai) (q':Option Addr) (cap':Nat) (la:List Int) (y:Int) (w:ag) (ha:DG W la) (hy:0<y∧y<W) (na:NZ la) (hs:SL w v Jc la) (hs':SL w (.slice q' 1 cap') Jc [y]) (hge:y≤dv W la) (h1:la.length≤100000000000) :
  Calls Tryz.prog 247 #[v,.slice q' 1 cap'] w fun e w'=>ZP w (Sv (dv W la) y) e w':=by
 have H3:0≤Zd (dv W la) y:=Gh hge
 have hb:DG W [y]:=DG.cons (by omega) hy.2 (DG.nil _)
 have nb:NZ [y]:=by simp [NZ];omega
 have HS:=aa hs
 obtain ⟨q,cap,rfl,hcap,hmax,hca⟩:=hs
 have HA:=aa hca
 have HS':=aa hs'
 obtain ⟨q2,cap2,e2,hcap2,hmax2,hcb⟩:=hs'
 obtain ⟨by1,oy,hq,hby,hcy⟩:=hcb 0 (by simp)
 simp only [aW,List.length_nil,bj] at e2
 obtain ⟨rfl,_,rfl⟩:=e2
 subst hq
 have hcy:w.cell? ⟨by1,oy,none⟩=some (.int .u64 y):=by simpa [Jc] using hcy
 have hmk:=fun w=>YC la.length (by omega) w
 clear hca hcb
 go_enter Tryz.func247,Tryz.ntmps247
 go_wp2_with (go_at_call 255;refine(ZZ _ _ _ _ _ ha hb na nb HS.out HS'.out).mono ?_;rintro e w1 ⟨rfl,hx1⟩)
 go_loopw [8,7] (fun i r wr=>∃ (k:Nat) (qs:List Int) (rr:Int),k≤la.length∧i = .int .i64 ((k:Int) - 1)∧r = .int .u64 rr∧xH la y k qs rr∧YO wr w1.heap.size 248 Jc (aA k 0++qs)∧Ext w1 wr)
  (fun i _ _=>(intOf i+1).toNat)
 case atStart=>exact⟨la.length,[],0,aK _,rfl,rfl,⟨by simp,DG.nil _,⟨fM _,hy.1⟩,by simp⟩,by rw [ic];exact YO.made w1 _ Jc 0 _ _ rfl,(Ext.refl _).alloc _⟩
 case round =>
  obtain ⟨k,qs,rr,hk,rfl,rfl,hI,hB,hE⟩:=hrel
  clear hmk
  cases k with
  |zero =>
   obtain ⟨i1,i2,i3,i4⟩:=hI
   have hW:=Wl
   have hdr:DG W [rr]:=DG.cons i3.1 (by omega) (DG.nil _)
   simp only [fJ,bZ] at hB
   have hSL:=SL.Ga hB la.length (by omega) (by omega)
   rw [ar (by omega),show qs.length=la.length from by omega] at hSL
   have HSL:=aa hSL
   have HB:=aa hB
   have HF:Hid (dv W qs=dv W la / y∧rr=dv W la%y):=by
    rw [aR] at i4
    have g1:dv W qs*y≤dv W la:=by rw [aj];omega
    have g2:dv W la<(dv W qs+1)*y:=by rw [bc,aj (dv W qs)];omega
    exact⟨(Xw hy.1 g1 g2).symm,by rw [Zt g1 g2,aj (dv W qs)];omega⟩
   clear hSL hB i1 i4 hW
   go_wp2_with fail
   refine(KT _ _ _ HSL.out).mono ?_
   rintro e w' ⟨⟨v1,rfl,hv1⟩,rfl⟩
   go_wp2_with fail
   refine(KT _ [rr] _ ⟨_,1,rfl,aK _,by decide,(YO.new _ 248 Jc [rr] _ rfl).row.cells (YO.new _ 248 Jc [rr] _ rfl).Nb⟩).mono ?_
   rintro e w' ⟨⟨v2,rfl,hv2⟩,rfl⟩
   go_wp2
   go_ret2
   refine⟨_,rfl,⟨_,_,_,_,rfl,hv1.ext ((Ext.refl _).alloc _),hv2,⟨i2.Q4,Xi _⟩,⟨hdr.Q4,Xi _⟩,by rw [XG];exact HF.out.1,by rw [XG];simpa using HF.out.2⟩,(hx1.trans hE).alloc _⟩
  |succ k =>
   have hlt:k<la.length:=by omega
   have hst:=hI.step ha hy
   obtain ⟨i1,i2,i3,i4⟩:=hI
   obtain ⟨b,off,rfl,hba,hc⟩:=HA.out k hlt
   rw [Zo hlt] at hc
   simp only [Jc] at hc
   have hx2:=hx1.trans hE
   have hc:=hx2.cell hc
   have hcy2:=hx2.cell hcy
   have hx:=JZ ha k
   have hlen:k<(aA (k+1) 0++qs).length:=by simp;omega
   have hcell:=hB.cell hlen
   have hz:(aA (k+1) (0:Int)++qs).getD k default=0:=by simp [bW,bS]
   rw [hz] at hcell
   simp only [Jc] at hcell
   have hfr:=hB.frozen k
   have HB:=aa hB
   have HST:=aa hst
   have e1:((k+1:Nat):Int) - 1=(k:Int):=by omega
   have hk0:(0:Int)≤(k:Int):=by omega
   have hk1:(k:Int)<(la.length:Int):=by omega
   have hbne:b≠w1.heap.size:=by have:=aD hba.lt hx1.size;omega
   have hyne:by1≠w1.heap.size:=by have:=aD hby.lt hx1.size;omega
   clear hB hlen hz hst i4 i1
   rw [e1]
   clear e1
   go_wp2
   go_region_held3 (fun w'=>w'.cell? ⟨b,off+k,none⟩=some (.int .u64 (Qa la k))∧w'.cell? ⟨by1,oy,none⟩=some (.int .u64 y))
    (first | exact⟨hdx.cell hc,hdx.cell hcy2⟩ | exact⟨Xe hbne (hdx.cell hc),Xe hyne (hdx.cell hcy2)⟩ | go_keep)
    (first | (go_at_call 284;refine(RL _ _ _ _ i3 hx hy.2).mono ?_;rintro e w' ⟨rfl,hdx⟩;have hcell':=hdx.cell hcell;have hfr':=(HB.out.ext (((Ext.refl _).drewN _).trans hdx)).frozen k))
   have hBs:=(HB.out.ext (((Ext.refl _).drewN _).trans hdx)).set k (Ar rr (Qa la k) y)
   rw [TH] at hBs
   have HBs:=aa hBs
   clear hBs
   go_wp2
   go_roundw
   case rel=>exact⟨k,_,_,by omega,by go_num,rfl,HST.out,HBs.out,(hE.trans (((Ext.refl _).drewN _).trans hdx)).Xn (aK _) _⟩
   case measure=>simp [intOf]
structure Vt (w:ag) (u v pre post:List Int) (n j B bv ov:Nat):Prop where
 hB:YO w B 248 Jc (pre++(u++post))
 hv:Cells w (some ⟨bv,ov,none⟩) Jc v
theorem Vt.ext {w w':ag} {u v pre post:List Int} {n j B bv ov:Nat} (h:Vt w u v pre post n j B bv ov) (k:Ext w w'):Vt w' u v pre post n j B bv ov :=
 ⟨h.hB.ext k,h.hv.ext k⟩
theorem Vt.atu {w:ag} {u v pre post:List Int} {n j B bv ov:Nat} (h:Vt w u v pre post n j B bv ov) (hj:pre.length=j) (i:Nat) (hi:i<u.length) :
  w.cell? ⟨B,j+i,none⟩=some (.int .u64 (Qa u i)):=by
 have h1:=h.hB.cell (i:=j+i) (by simp;omega)
 have e:(pre++(u++post)).getD (j+i) default=Qa u i:=by
  rw [Xx hi];subst hj;simp only [bW];rw [List.getElem?_append_right (by omega),fp,bS hi,List.getElem?_eq_getElem hi];rfl
 rw [e] at h1;exact h1
theorem Vt.pI {w:ag} {u v pre post:List Int} {n j B bv ov:Nat} (h:Vt w u v pre post n j B bv ov) (i:Nat) (hi:i<v.length) :
  w.cell? ⟨bv,ov+i,none⟩=some (.int .u64 (Qa v i)):=by
 obtain ⟨b,o,e,_,hc⟩:=h.hv i hi
 cases e;rw [Zo hi] at hc;exact hc
set_option maxRecDepth 100000 in
set_option maxHeartbeats 4000000 in
theorem IJ (u v pre post:List Int) (n j B capu capv bv ov:Nat) (w:ag) (h:Vs u v n) (hj:pre.length=j) (hmax:n≤100000000000)
  (hM:Vt w u v pre post n j B bv ov) (hne:bv≠B) :
  Calls Tryz.prog 287 #[.slice (some ⟨B,j,none⟩) (n+3) capu,.slice (some ⟨bv,ov,none⟩) (n+2) capv] w fun e w' =>
   (e = .returned (.int .u64 (dv W u / dv W v))∧∃ u',YO w' B 248 Jc (pre++(u'++post))∧u'.length=n+3∧DG W u'∧dv W u'=dv W u%dv W v)∧Gj B w w':=by
 have hlu:=aa h.lu
 have hlv:=aa h.lv
 have HJ:=aa hj
 clear hj
 have hw1:IntKind.i64.wrap ((n:Int)+2 - 1)=(n:Int)+1:=by rw [show(n:Int)+2 - 1=(n:Int)+1 from by omega];exact bt _ (by omega)
 have ht1:((n:Int)+1).toNat=n+1:=by omega
 have h01:0≤(n:Int)+1:=by omega
 have h02:(n:Int)+1<(n:Int)+2:=by omega
 have ht2:((n:Int)+2).toNat=n+2:=by omega
 have h03:0≤(n:Int)+2:=by omega
 have h04:(n:Int)+2<(n:Int)+3:=by omega
 have h05:(n:Int)+1<(n:Int)+3:=by omega
 have hu2:=hM.atu HJ.out (n+2) (by have:=hlu.out;omega)
 have hu1:=hM.atu HJ.out (n+1) (by have:=hlu.out;omega)
 have hv1:=hM.pI (n+1) (by have:=hlv.out;omega)
 have du1:=JZ h.hu (n+1)
 have du2:=JZ h.hu (n+2)
 have dv1:=JZ h.hv (n+1)
 go_enter Tryz.func287,Tryz.ntmps287
 go_wp2_with fail
 go_quiet (fail)
 go_upto_if 30 with (fail)
 go_cut [6,7,8] (fun q r o wx=>∃ qq rr oo,q = .int .u64 qq∧r = .int .u64 rr∧o = .int .u64 oo∧Z8 u v n qq rr oo∧Ext w wx)
 case first =>
  by_cases hge:Qa v (n+1)≤Qa u (n+2)
  ·have HG:=aa (VY.Iw h hge)
   have ha:=fun w=>Yk (Qa u (n+1)) (Qa v (n+1)) 0 du1.1 dv1.1 (by decide) (by decide) w
   go_wp2
   go_quiet (fail)
   go_wp2
   go_meet
   exact⟨_,_,_,rfl,rfl,rfl,HG.out,(((Ext.refl w).drewN _).drewN _)⟩
  ·have HG:=aa (VY.Ix h (by omega))
   have hdy:Qa v (n+1)<W:=dv1.2
   have hdh:0≤Qa u (n+2)∧Qa u (n+2)<Qa v (n+1):=⟨du2.1,by omega⟩
   go_wp2
   go_region_held3 (fun w'=>w'.cell? ⟨B,j+(n+2),none⟩=some (.int .u64 (Qa u (n+2)))∧w'.cell? ⟨B,j+(n+1),none⟩=some (.int .u64 (Qa u (n+1)))∧w'.cell? ⟨bv,ov+(n+1),none⟩=some (.int .u64 (Qa v (n+1))))
    (first | go_keep | exact⟨hx.cell hu2,hx.cell hu1,hx.cell hv1⟩)
    (first | (go_at_call 284;refine(RL _ _ _ _ hdh du1 hdy).mono ?_;rintro e w' ⟨rfl,hx⟩))
   go_wp2
   go_meet
   exact⟨_,_,_,rfl,rfl,rfl,HG.out,((Ext.refl w).drewN _).trans hx⟩
 case rest =>
  obtain ⟨q1,r1,o1,rfl,rfl,rfl,hG,hE⟩:=hcut
  have HM0:=aa hM
  clear hu2 hu1 hv1 du1 du2 hM
  go_upto_block 0 with (fail)
  go_cut [6] (fun q wx=>∃ qq,q = .int .u64 qq∧(0≤qq∧qq<W)∧((qq - 1)*dv W v≤dv W u∧dv W u<(qq+1)*dv W v)∧Ext w wx)
  case first =>
   have hw2:IntKind.i64.wrap ((n:Int)+2 - 2)=(n:Int):=by rw [show(n:Int)+2 - 2=(n:Int) from by omega];exact bt _ (by omega)
   have hn0:(0:Int)≤(n:Int):=by omega
   go_wp2_with fail
   go_loopw [6,7,8] (fun q r o wr=>∃ qq rr oo,q = .int .u64 qq∧r = .int .u64 rr∧o = .int .u64 oo∧Z8 u v n qq rr oo∧Ext w wr) (fun _ r o _=>(2*W - (intOf r+W*intOf o)).toNat)
   case atStart=>exact⟨_,_,_,rfl,rfl,rfl,hG,hE⟩
   case round =>
    clear hG hE
    obtain ⟨qq,rr,oo,rfl,rfl,rfl,hG,hE⟩:=hrel
    obtain ⟨g1,g2,g3,g4,g5⟩:=id hG
    have HG:=aa hG
    clear hG g4 g5
    by_cases ho:oo=0
    ·subst ho
     have hM:=HM0.out.ext hE
     have hv0:=hM.pI n (by have:=hlv.out;omega)
     have hv1:=hM.pI (n+1) (by have:=hlv.out;omega)
     have hu0:=hM.atu HJ.out n (by have:=hlu.out;omega)
     have dv0:=JZ h.hv n
     have du0:=JZ h.hu n
     have e1:J1 qq (Qa v n)+W*Xo qq (Qa v n)=qq*Qa v n:=by unfold J1 Xo;rw [fB];exact aC _ _
     have l0:0≤J1 qq (Qa v n)∧J1 qq (Qa v n)<W:=⟨aH _ (by decide),aI _ Jn⟩
     have HY:Hid (qq*Qa v n≤rr*W+Qa u n→(qq - 1)*dv W v≤dv W u∧dv W u<(qq+1)*dv W v):=fun hy=>HG.out.fin h (fun _=>hy)
     have HN:Hid (rr*W+Qa u n<qq*Qa v n→Z8 u v n (qq - 1) (XH rr (Qa v (n+1)) 0) (Xf rr (Qa v (n+1)) 0)):=fun hy=>HG.out.less h hy
     have hq1:Hid (rr*W+Qa u n<qq*Qa v n→1≤qq):=fun hy=>by
      have:=(HN.out hy).1;omega
     have hnz:=h.nz
     have hq2:qq≤18446744073709551615:=by have:=g1.2;simp only [Wl] at this;omega
     have hme:Hid (2*W - (XH rr (Qa v (n+1)) 0+W*Xf rr (Qa v (n+1)) 0)<2*W - (rr+W*0)):=by
      have:=(Wk g2 dv1 (by decide:(0:Int)≤0∧(0:Int)≤1)).1;show _<_;omega
     have hme2:Hid (0<2*W - (rr+W*0)):=by show _<_;omega
     have ha:=fun w=>Yk rr (Qa v (n+1)) 0 g2.1 dv1.1 (by decide) (by decide) w
     generalize hmy:Xo qq (Qa v n)=mh at *
     generalize hml:J1 qq (Qa v n)=ml at *
     have HMH:=aa hmy
     have HML:=aa hml
     have E1:Hid (qq*Qa v n=ml+W*mh):=e1.symm
     clear hmy hml e1
     have cmpY:Hid (mh<rr→qq*Qa v n≤rr*W+Qa u n):=fun hh=>by
      have:W*(mh+1)≤W*rr:=af (by omega) (by decide)
      rw [E1.out];grind
     have cmpY2:Hid (mh=rr→ml≤Qa u n→qq*Qa v n≤rr*W+Qa u n):=fun hh hl=>by
      rw [E1.out,hh];grind
     have cmpN:Hid (rr<mh→rr*W+Qa u n<qq*Qa v n):=fun hh=>by
      have:W*(rr+1)≤W*mh:=af (by omega) (by decide)
      rw [E1.out];grind
     have cmpN2:Hid (mh=rr→Qa u n<ml→rr*W+Qa u n<qq*Qa v n):=fun hh hl=>by
      rw [E1.out,hh];grind
     rcases bU mh rr with g | g | g
     ·have HF:=aa (HY.out (cmpY.out g))
      go_wp2_with (go_at_call 244;refine(Yn _ _ _ g1 dv0).mono ?_;rw [HMH.out,HML.out];rintro e w' ⟨rfl,rfl⟩)
      go_meet
      exact⟨_,rfl,HG.out.1,HF.out,hE⟩
     ·have gb:(mh==rr)=true:=by simpa using g
      have gl:rr≤mh:=by omega
      have G:=aa g
      clear g
      by_cases hl:ml≤Qa u n
      ·have HF:=aa (HY.out (cmpY2.out G.out hl))
       go_wp2_with (go_at_call 244;refine(Yn _ _ _ g1 dv0).mono ?_;rw [HMH.out,HML.out];rintro e w' ⟨rfl,rfl⟩)
       go_meet
       exact⟨_,rfl,HG.out.1,HF.out,hE⟩
      ·have hl':Qa u n<ml:=by omega
       have HF:=aa (HN.out (cmpN2.out G.out hl'))
       have hq1:=hq1.out (cmpN2.out G.out hl')
       clear hl
       go_wp2_with (go_at_call 244;refine(Yn _ _ _ g1 dv0).mono ?_;rw [HMH.out,HML.out];rintro e w' ⟨rfl,rfl⟩)
       go_roundw
       case rel=>exact⟨_,_,_,rfl,rfl,rfl,HF.out,hE⟩
       case measure=>have:=hme.out;have:=hme2.out;simp only [intOf];omega
     ·have HF:=aa (HN.out (cmpN.out g))
      have hq1:=hq1.out (cmpN.out g)
      have gb:(mh==rr)=false:=by simp;omega
      go_wp2_with (go_at_call 244;refine(Yn _ _ _ g1 dv0).mono ?_;rw [HMH.out,HML.out];rintro e w' ⟨rfl,rfl⟩)
      go_roundw
      case rel=>exact⟨_,_,_,rfl,rfl,rfl,HF.out,hE⟩
      case measure=>have:=hme.out;have:=hme2.out;simp only [intOf];omega
    ·have ho1:(oo==0)=false:=by simpa using ho
     have HF:=aa (HG.out.fin h (fun e=>absurd e ho))
     go_wp2
     go_meet
     exact⟨_,rfl,HG.out.1,HF.out,hE⟩
  case rest =>
   clear hG hE
   obtain ⟨qq,rfl,hq,hF,hE⟩:=hcut
   have HF:=aa hF
   have HB0:=aa (HM0.out.ext hE).hB
   have HU0:Hid (Gj B w _):=(Gj.refl B w).ext hE
   clear hF hE dv1 h05 h02 h04
   go_wp2
   go_loopw [105,11,12] (fun i b c wr=>∃ (k:Nat) (ds:List Int) (bb cc:Int),k≤n+2∧i = .int .i64 k∧b = .int .u64 bb∧c = .int .u64 cc∧DL u v qq k ds bb cc∧YO wr B 248 Jc (pre++((ds++u.drop k)++post))∧Gj B w wr)
    (fun i _ _ _=>n+2 - (intOf i).toNat)
   case atStart=>exact⟨0,[],0,0,by omega,rfl,rfl,rfl,DL.start u v qq,HB0.out,HU0.out⟩
   case round =>
    clear HB0 HU0
    obtain ⟨k,ds,bb,cc,hk,rfl,rfl,rfl,hI,hB,hU⟩:=hrel
    by_cases hlt:k<n+2
    ·have hst:=hI.step h.hu h.hv hq
     obtain ⟨hd1,hd2,hd3,hd4,hd5⟩:=hI
     have HD1:=aa hd1
     have hvk:=hU.cell (p:=⟨bv,ov+k,none⟩) hne (HM0.out.pI k (by have:=hlv.out;omega))
     rw [XC (by have:=hlu.out;omega)] at hB
     have hcell:=hB.cell (AY HJ.out HD1.out)
     rw [AZ HJ.out HD1.out] at hcell
     simp only [Jc] at hcell
     have hfr:=hB.frozen (j+k)
     have hBs:=hB.set (j+k) (ZN (Qa u k) (XH (J1 qq (Qa v k)) cc 0) bb)
     rw [ME HJ.out HD1.out,bX ds] at hBs
     have HBs:=aa hBs
     have HS:=aa hst
     have hy:=JZ h.hv k
     have hx:=JZ h.hu k
     obtain ⟨_,g2,g3,g4,g5,_,_⟩:=MD hq hy hd4 (by decide:(0:Int)≤0∧(0:Int)<W)
     clear hd1 hd5 hB hBs hst
     generalize hmy:Xo qq (Qa v k)=mh at *
     generalize hml:J1 qq (Qa v k)=ml at *
     have HMH:=aa hmy
     have HML:=aa hml
     clear hmy hml
     have ha1:=fun w=>Yk ml cc 0 g2.1 hd4.1 (by decide) (by decide) w
     have ha2:=fun w=>Gv (Qa u k) (XH ml cc 0) bb hx g3 hd3 w
     have b1:0≤mh+Xf ml cc 0:=g4.1
     have b2:mh+Xf ml cc 0≤18446744073709551615:=by have:=g4.2;simp only [Wl] at this;omega
     go_wp2_with (go_at_call 244;refine(Yn _ _ _ hq hy).mono ?_;rw [HMH.out,HML.out];rintro e w' ⟨rfl,rfl⟩)
     go_roundw
     case rel=>exact⟨k+1,_,_,_,by omega,by go_num,rfl,rfl,HS.out,HBs.out,hU.setCell _ _⟩
     case measure=>simp [intOf];omega
    ·have hk':k=n+2:=by omega
     subst hk'
     have HI:=aa hI
     obtain ⟨hd1,hd2,hd3,hd4,hd5⟩:=hI
     have HD1:=aa hd1
     rw [XC (by have:=hlu.out;omega)] at hB
     have hcell:=hB.cell (AY HJ.out HD1.out)
     rw [AZ HJ.out HD1.out] at hcell
     simp only [Jc] at hcell
     have hfr:=hB.frozen (j+(n+2))
     have hBs:=hB.set (j+(n+2)) (ZN (Qa u (n+2)) cc bb)
     rw [ME HJ.out HD1.out,fu (by have:=hlu.out;omega)] at hBs
     have HBs:=aa hBs
     have hx:=JZ h.hu (n+2)
     have hs:=(Ba hx hd4 hd3).2
     have ha2:=fun w=>Gv (Qa u (n+2)) cc bb hx hd4 hd3 w
     clear hd1 hd5 hB hBs
     have hs3:=hs.2
     have hs2:=hs.1
     clear hs
     by_cases hb0:K1 (Qa u (n+2)) cc bb=0
     ·have hR:=O9 h HI.out HF.out hb0
      have HR:=aa hR
      have hbb:(K1 (Qa u (n+2)) cc bb==0)=true:=by simpa using hb0
      clear hR hb0
      go_wp2
      go_ret
      exact⟨⟨congrArg (fun x=>fU (.int .u64 x)) HR.out.2.1,_,HBs.out,by simp [HD1.out],HR.out.1,HR.out.2.2⟩,hU.setCell _ _⟩
     ·have hb1:K1 (Qa u (n+2)) cc bb=1:=by omega
      have hbb:(K1 (Qa u (n+2)) cc bb==0)=false:=by simpa using hb0
      have HB1:=aa hb1
      clear hb0 hb1
      have HU1:Hid (Gj B w _):=hU.setCell (j+(n+2)) (Jc (ZN (Qa u (n+2)) cc bb))
      have hdL:DG W (ds++[ZN (Qa u (n+2)) cc bb]):=hd2.append (DG.cons hs2.1 hs2.2 (DG.nil _))
      go_wp2
      go_loopw [157,17] (fun i c wr=>∃ (k:Nat) (es:List Int) (c2:Int),k≤n+2∧i = .int .i64 k∧c = .int .u64 c2∧D0 ds v k es c2∧YO wr B 248 Jc (pre++((es++(ds++[ZN (Qa u (n+2)) cc bb]).drop k)++post))∧Gj B w wr)
       (fun i _ _=>n+2 - (intOf i).toNat)
      case atStart=>exact⟨0,[],0,by omega,rfl,rfl,⟨rfl,DG.nil _,by decide,by simp⟩,HBs.out,HU1.out⟩
      case round =>
       clear HU1 HBs hcell hfr hU ha2
       obtain ⟨k,es,c2,hk,rfl,rfl,hA,hB,hU⟩:=hrel
       have HA:=aa hA
       obtain ⟨he1,he2,he3,he4⟩:=hA
       have HE1:=aa he1
       clear he1 he4
       have hll:(ds++[ZN (Qa u (n+2)) cc bb]).length=n+3:=by simp [HD1.out]
       rw [XC (by omega)] at hB
       have HLL:=aa hll
       clear hll
       have hcell:=hB.cell (AY HJ.out HE1.out)
       rw [AZ HJ.out HE1.out] at hcell
       simp only [Jc] at hcell
       have hfr:=hB.frozen (j+k)
       by_cases hlt:k<n+2
       ·have hvk:=hU.cell (p:=⟨bv,ov+k,none⟩) hne (HM0.out.pI k (by have:=hlv.out;omega))
        have hek:Hid (Qa (ds++[ZN (Qa u (n+2)) cc bb]) k=Qa ds k):=by
         have h1:k<ds.length:=by have:=HD1.out;omega
         show _=_
         rw [Xx (by have:=HLL.out;omega),Xx h1,List.getElem_append_left h1]
        rw [hek.out] at hcell hB
        have hBs:=hB.set (j+k) (XH (Qa ds k) (Qa v k) c2)
        rw [ME HJ.out HE1.out,bX es] at hBs
        have HBs:=aa hBs
        have HS:=aa (HA.out.step hd2 h.hv)
        have hx:=JZ hd2 k
        have hy:=JZ h.hv k
        have ha1:=fun w=>Yk (Qa ds k) (Qa v k) c2 hx.1 hy.1 he3.1 he3.2 w
        have hk0:(0:Int)≤(k:Int):=by omega
        have hk1:(k:Int)<(n:Int)+2:=by omega
        have hk2:(k:Int)<(n:Int)+3:=by omega
        clear hBs hB
        go_wp2
        go_region
        go_wp2
        go_roundw
        case rel=>exact⟨k+1,_,_,by omega,by go_num,rfl,HS.out,HBs.out.drew,(hU.setCell _ _).drew⟩
        case measure=>simp [intOf];omega
       ·have hk':k=n+2:=by omega
        subst hk'
        have hR:=jN h HI.out HF.out HB1.out HA.out
        have HR:=aa hR
        clear hR
        have hek:Hid (Qa (ds++[ZN (Qa u (n+2)) cc bb]) (n+2)=ZN (Qa u (n+2)) cc bb):=by
         show _=_
         rw [Xx (by have:=HLL.out;omega)];simp [HD1.out]
        rw [hek.out,fu (by have:=HLL.out;omega)] at hB
        rw [hek.out] at hcell
        have hBs:=hB.set (j+(n+2)) 0
        rw [ME HJ.out HE1.out] at hBs
        have HBs:=aa hBs
        have hq1:1≤qq:=by
         have h0:=Qu Jn h.hu
         have h1:=Qu Jn h.hv
         have:=bn h0 h1
         rw [← HR.out.1] at this;omega
        have hq2:qq≤18446744073709551615:=by have:=hq.2;simp only [Wl] at this;omega
        have hwr:IntKind.u64.wrap (ZN (Qa u (n+2)) cc bb+c2)=0:=by
         rw [HR.out.2.2];decide
        clear hB hBs
        go_wp2
        go_ret
        exact⟨⟨congrArg (fun x=>fU (.int .u64 x)) HR.out.1,_,HBs.out,by simp [HE1.out],he2.append (DG.cons (fM _) Jn (DG.nil _)),by rw [XS,HR.out.2.1];simp⟩,hU.setCell _ _⟩
theorem Cells.H7 {w:ag} {q:Option Addr} {l:List Int} {b o:Nat} {v:ai} (h:Cells w q Jc l) (hb:∀ a,q=some a→a.block≠b):Cells (w.setCell ⟨b,o,none⟩ v) q Jc l:=by
 intro i hi;obtain ⟨b',off,h1,h2,h3⟩:=h i hi
 exact⟨b',off,h1,h2.set _ _ _,Xe (hb _ h1) h3⟩
theorem Cells.old {w:ag} {q:Option Addr} {l:List Int} (h:Cells w q Jc l) (hl:l≠[]) (b:Nat) (hb:w.heap.size≤b):∀ a,q=some a→a.block≠b:=by
 intro a ha
 obtain ⟨b',off,h1,h2,_⟩:=h 0 (List.length_pos_iff.2 hl)
 rw [h1] at ha;cases ha;show b'≠b;have:=h2.lt;omega
theorem YO.H7 {α:Type} {w:ag} {b E b' o:Nat} {enc:Hj α} {l:List α} {v:ai} (h:YO w b E enc l) (hb:b≠b'):YO (w.setCell ⟨b',o,none⟩ v) b E enc l:=by
 unfold YO;rw [fN _ _ _ _ hb];exact h
theorem AW {lb:List Int} {n s:Nat} (hb:DG W lb) (hl:lb.length=n+2) (hs:s<64) (h1:Qa lb (n+1)*p2 s<W) (h2:9223372036854775808≤Qa lb (n+1)*p2 s) :
  W^(n+1)*9223372036854775808≤dv W lb*p2 s∧dv W lb*p2 s<W^(n+2):=by
 have e:=J7 lb (n+1)
 rw [ar (by omega:lb.length≤n+1+1)] at e
 have t0:=Qu Jn (hb.take (n+1))
 have t1:=YB Jn (hb.take (n+1))
 rw [eR,Nat.min_eq_left (by omega)] at t1
 have hp:=pow_pos Jn (n+1)
 have hp0:=Z3 s
 have top:(Qa lb (n+1)+1)*p2 s≤W:=by
  have e3:=Wb hs
  have:Qa lb (n+1)<p2 (64 - s):=by
   refine Int.not_le.1 fun hc=>?_
   have:=ao hc (aw hp0)
   omega
  have:=ao (show Qa lb (n+1)+1≤p2 (64 - s) by omega) (aw hp0)
  omega
 constructor
 ·have k1:W^(n+1)*9223372036854775808≤W^(n+1)*(Qa lb (n+1)*p2 s):=af h2 (aw hp)
  have k2:0≤dv W (lb.take (n+1))*p2 s:=aG t0 (aw hp0)
  have e2:dv W lb*p2 s=dv W (lb.take (n+1))*p2 s+W^(n+1)*(Qa lb (n+1)*p2 s):=by rw [e];grind
  omega
 ·have k1:(dv W (lb.take (n+1))+1)*p2 s≤W^(n+1)*p2 s:=ao (by omega) (aw hp0)
  have k2:W^(n+1)*((Qa lb (n+1)+1)*p2 s)≤W^(n+1)*W:=af top (aw hp)
  have e2:dv W lb*p2 s=dv W (lb.take (n+1))*p2 s+W^(n+1)*(Qa lb (n+1)*p2 s):=by rw [e];grind
  rw [aS W (n+1)]
  have e3:W^(n+1)*((Qa lb (n+1)+1)*p2 s)=W^(n+1)*(Qa lb (n+1)*p2 s)+W^(n+1)*p2 s:=by grind
  rw [bc] at k1
  omega
set_option maxRecDepth 100000 in
set_option maxHeartbeats 2000000 in
theorem UH (v v':ai) (la lb:List Int) (n:Nat) (w:ag) (ha:DG W la) (hb:DG W lb) (na:NZ la) (nb:NZ lb) (hs:SL w v Jc la) (hs':SL w v' Jc lb) (hge:dv W lb≤dv W la)
  (hn:lb.length=n+2) (h1:la.length≤10000000000) (h2:lb.length≤10000000000) :
  Calls Tryz.prog 247 #[v,v'] w fun e w'=>ZP w (Sv (dv W la) (dv W lb)) e w':=by
 have H3:0≤Zd (dv W la) (dv W lb):=Gh hge
 have hm:n+2≤la.length:=by
  refine Nat.not_lt.1 fun hc=>?_
  have:=Xa Ex ha hb nb (by omega);omega
 have HS:=aa hs
 obtain ⟨q,cap,rfl,hcap,hmax,hca⟩:=hs
 have HA:=aa hca
 have HS':=aa hs'
 obtain ⟨q2,cap2,rfl,hcap2,hmax2,hcb⟩:=hs'
 have HB:=aa hcb
 obtain ⟨bb,ob,rfl,hbb,hcy⟩:=hcb (n+1) (by omega)
 rw [Zo (by omega)] at hcy
 simp only [Jc] at hcy
 clear hca hcb
 have hL:=aa hn
 rw [hn] at HS' hcap2 ⊢
 have hyp:0<Qa lb (n+1)∧Qa lb (n+1)<W:=by
  have:=JZ hb (n+1)
  have hz:Qa lb (n+1)≠0:=by
   intro e;apply nb;rw [ff,hn]
   rw [Xx (by omega)] at e;simp [hn,e]
  omega
 clear hn
 have hb1:((n:Int)+2==1)=false:=by simp;omega
 have e57:(n:Int)+2 - 1=(n:Int)+1:=by omega
 go_enter Tryz.func247,Tryz.ntmps247
 go_wp2_with (first | (go_at_call 255;refine(ZZ _ _ _ _ _ ha hb na nb HS.out HS'.out).mono ?_;rintro e w1 ⟨rfl,hx1⟩;have hcy:=hx1.cell hcy) | (go_at_call 285;fail))
 go_wp2_with fail
 refine(CF _ _ hyp).mono ?_
 rintro e w' ⟨⟨s,rfl,hs,hs1,hs2⟩,rfl⟩
 have hbv:=AW hb hL.out hs hs1 hs2
 have HBV:=aa hbv
 clear hs1 hs2 hcy hbv
 go_wp2_with fail
 refine(EA s _ lb _ hs hb (HS'.out.ext hx1) (by omega)).mono ?_
 rintro e w2 ⟨_,rfl,⟨l1,rfl,hB1,hl1,hd1,hv1⟩,hx2⟩
 rw [hL.out] at hl1
 have hSL1:=SL.Ga hB1 (n+3) (by omega) (by omega)
 rw [ar (by omega),hl1] at hSL1
 have HSL1:=aa hSL1
 rw [hL.out]
 clear hSL1 hB1 hl1
 go_wp2_with fail
 refine(KT _ _ _ HSL1.out).mono ?_
 rintro e w' ⟨⟨_,rfl,qv,capv,rfl,hcv1,hcv2,hcv⟩,rfl⟩
 have hlv:(Q4 l1).length=n+2:=Ad hd1.Q4 (Xi _) (by rw [XG,hv1];have:=HBV.out.1;have:=af (show(1:Int)≤9223372036854775808 by decide) (aw (pow_pos Jn (n+1)));omega) (by rw [XG,hv1];exact HBV.out.2)
 have hdv:DG W (Q4 l1):=hd1.Q4
 have hnv:NZ (Q4 l1):=Xi _
 have HVV:Hid (dv W (Q4 l1)=dv W lb*p2 s):=by show _=_;rw [XG,hv1]
 generalize Q4 l1=lv at *
 rw [hlv] at hcv1 ⊢
 have HLV:=aa hlv
 have HCV:=aa hcv
 clear hv1 hd1 hcv hlv
 go_wp2_with fail
 refine(EA s _ la _ hs ha ((HS.out.ext hx1).ext hx2) (by omega)).mono ?_
 rintro e w3 ⟨_,rfl,⟨o0,rfl,hB3,hl3,hd3,hv3⟩,hx3⟩
 have hmk:=fun w=>YC (la.length - (n+2)+1) (by omega) w
 have ec:((la.length - (n+2)+1:Nat):Int)=(la.length:Int) - ((n:Int)+2)+1:=by omega
 simp only [ec] at hmk
 clear ec
 have hvne:lv≠[]:=by intro e;have:=HLV.out;rw [e] at this;simp at this
 have hne1:=HCV.out.old hvne w2.heap.size (aK _)
 have hne2:=HCV.out.old hvne w3.heap.size hx3.size
 have HSTART:Hid (Vb (dv W la*p2 s) (dv W lb*p2 s) n (la.length - (n+2)+1) la.length o0 []) :=
  Vb.start hl3 hd3 hv3 hs (YB Jn ha) HBV.out.1 hm
 have HB3:=aa hB3
 have HX2:Hid (Ext w w2):=hx1.trans hx2
 have HXB:=aa hx3
 have hsz:w2.heap.size<w3.heap.size:=hB3.lt
 have HN1:=aa hne1
 have HN2:=aa hne2
 clear hB3 hl3 hd3 hv3 hx1 hx2 hx3 hge H3 hne1 hne2
 go_wp2
 go_loopw [14] (fun i wr=>∃ (k:Nat) (o qs:List Int),k≤la.length - (n+2)+1∧i = .int .i64 ((k:Int) - 1)∧Vb (dv W la*p2 s) (dv W lb*p2 s) n k la.length o qs ∧
   YO wr w2.heap.size 248 Jc o∧YO wr w3.heap.size 248 Jc (aA k 0++qs)∧Cells wr qv Jc lv∧Ext w2 wr)
  (fun i _=>(intOf i+1).toNat)
 case atStart=>exact⟨la.length - (n+2)+1,o0,[],aK _,by go_num,HSTART.out,HB3.out.ext ((Ext.refl _).alloc _),by rw [ic];exact YO.made w3 _ Jc 0 _ _ rfl,(HCV.out.ext HXB.out).ext ((Ext.refl _).alloc _),HXB.out.alloc _⟩
 case round =>
  clear HSTART hmk HB3 HCV HXB
  obtain ⟨k,o,qs,hk,rfl,hI,hBU,hBQ,hCV,hE⟩:=hrel
  cases k with
  |zero =>
   have HI:=aa hI
   obtain ⟨i1,i2,i3,i4,i5,i6⟩:=hI
   have HI1:=aa i1
   have HI3:=aa i3
   have HBU:=aa hBU
   have HBQ:Hid (YO _ w3.heap.size 248 Jc qs):=hBQ
   clear i1 i3 i5 i6 hBU hBQ hCV
   rw [show((0:Nat):Int) - 1 = -1 from rfl]
   go_wp2
   go_loopw [97] (fun i wx=>∃ (k:Nat) (ds:List Int),k≤n+2∧i = .int .i64 k∧Kx o s k ds∧YO wx w2.heap.size 248 Jc (ds++o.drop k)∧YO wx w3.heap.size 248 Jc qs∧Ext w2 wx)
    (fun i _=>n+2 - (intOf i).toNat)
   case atStart=>exact⟨0,[],by omega,rfl,Kx.start o s,HBU.out,HBQ.out,hE⟩
   case round =>
    clear HBU HBQ hE
    obtain ⟨k,ds,hk,rfl,hS,hBU,hBQ,hE⟩:=hrel
    have HBQ:=aa hBQ
    by_cases hlt:k<n+2
    ·have HS:=aa hS
     obtain ⟨hd1,hd2,hd3⟩:=hS
     have HD1:=aa hd1
     have hkl:k+1<o.length:=by have:=HI1.out;omega
     rw [XC (by omega),XC hkl] at hBU
     have hx:=JZ i2 k
     have hx1:=JZ i2 (k+1)
     have hcell:=hBU.cell (i:=k) (by simp;omega)
     have hcell1:=hBU.cell (i:=k+1) (by simp;omega)
     have g0:(ds++Qa o k::Qa o (k+1)::fY (k+1+1) o).getD k default=Qa o k:=by rw [← HD1.out];simp [bW]
     have g1:(ds++Qa o k::Qa o (k+1)::fY (k+1+1) o).getD (k+1) default=Qa o (k+1):=by rw [← HD1.out];simp [bW]
     rw [g0] at hcell
     rw [g1] at hcell1
     simp only [Jc] at hcell hcell1
     have hfr:=hBU.frozen k
     have HBU:=aa hBU
     clear hd1 hd3 hBU hBQ g0 g1
     have hk0:(0:Int)≤(k:Int):=by omega
     have hk1:(k:Int)<(la.length:Int)+1:=by omega
     have hk2:(k:Int)+1<(la.length:Int)+1:=by omega
     have hk3:(0:Int)≤(k:Int)+1:=by omega
     have hk4:IntKind.i64.wrap ((k:Int)+1)=(k:Int)+1:=bt _ (by omega)
     have hk5:((k:Int)+1).toNat=k+1:=by omega
     have hk6:IntKind.i64.wrap (64 - (s:Int))=64 - (s:Int):=bt _ (by omega)
     have hk7:(64 - (s:Int)).toNat=64 - s:=by omega
     have hk8:¬ (64 - (s:Int)<0):=by omega
     by_cases hs0:0<s
     ·have hs1:(0:Int)<(s:Int):=by omega
      go_wp2
      go_region
      go_wp2
      go_roundw
      case rel =>
       refine⟨k+1,ds++[Qa o k / p2 s+Qa o (k+1)*p2 (64 - s)%W],by omega,by go_num,HS.out.step i2 hs hs0,?_,(HBQ.out.H7 (by omega)).H7 (by omega),((hE.Xn (by simp) _).Xn (by simp) _).drew⟩
       have b:=FN hs hx
       obtain ⟨b1,_⟩:=R8 (x:=Qa o (k+1)) (s:=64 - s) (by omega) b.1 b.2
       rw [Mq,show Qa o k / 2^s=Qa o k / p2 s from rfl,b1]
       have h1:=HBU.out.set k (Qa o k / p2 s)
       rw [WU _ _ _ _ _ HD1.out] at h1
       have h2:=h1.set k (Qa o k / p2 s+Qa o (k+1)*p2 (64 - s)%W)
       rw [WU _ _ _ _ _ HD1.out,bX ds,← XC hkl] at h2
       exact h2.drew
      case measure=>simp [intOf];omega
     ·have hs9:s=0:=by omega
      have HS0:Hid (Kx o s (k+1) (ds++[Qa o k / p2 s])):=by subst hs9;exact HS.out.OA i2
      clear hs9
      go_wp2
      go_roundw
      case rel =>
       refine⟨k+1,ds++[Qa o k / p2 s],by omega,by go_num,HS0.out,?_,HBQ.out.H7 (by omega),hE.Xn (by simp) _⟩
       have h1:=HBU.out.set k (Qa o k / p2 s)
       rw [WU _ _ _ _ _ HD1.out,bX ds,← XC hkl] at h1
       exact h1
      case measure=>simp [intOf];omega
    ·have hk':k=n+2:=by omega
     subst hk'
     have hvp:0<dv W lb:=by
      have h7:=HBV.out.1
      have h8:=pow_pos Jn (n+1)
      refine Int.not_le.1 fun hc=>?_
      have:=ao hc (aw (Z3 s))
      omega
     have HF:=aa (jt HI.out hs hvp HBV.out.2 hm hS)
     obtain ⟨hd1,hd2,hd3⟩:=hS
     have hq1:qs.length=la.length - (n+2)+1:=by have:=HI3.out;omega
     have hSq:=SL.Ga HBQ.out (la.length - (n+2)+1) (by omega) (by omega)
     have hSr:=SL.Ga hBU (n+2) (by simp;omega) (by simp;have:=HI1.out;omega)
     rw [ar (by omega),hq1] at hSq
     rw [List.take_append_of_le_length (by omega),ar (by omega)] at hSr
     have hol:(ds++fY (n+2) o).length=la.length+1:=by simp;have:=HI1.out;omega
     rw [hol] at hSr
     have HSq:=aa hSq
     have HSr:=aa hSr
     have hn0:(0:Int)≤(n:Int)+2:=by omega
     have hn1:(n:Int)+2≤(la.length:Int)+1:=by omega
     have hn2:((n:Int)+2).toNat=n+2:=by omega
     clear hd1 hd3 hBU hBQ hSq hSr hq1 hol
     go_wp2
     go_region_held3 (fun _=>True) (trivial) (first | (go_at_call 283;(with_reducible refine(KT _ _ _ (HSq.out.ext (Ext.refl _).drew)).mono ?_);rintro e w' ⟨⟨v1,rfl,hv1⟩,rfl⟩) | (go_at_call 283;(with_reducible refine(KT _ _ _ (HSr.out.ext (Ext.refl _).drew)).mono ?_);rintro e w' ⟨⟨v2,rfl,hv2⟩,rfl⟩))
     go_wp2
     go_ret2
     exact⟨_,rfl,⟨v1,v2,_,_,rfl,hv1,hv2,⟨i4.Q4,Xi _⟩,⟨hd2.Q4,Xi _⟩,by rw [XG];exact HF.out.1,by rw [XG];exact HF.out.2⟩,(HX2.out.trans hE).drew⟩
  |succ k =>
   obtain ⟨pre,u,post,rfl,lj,hst,hpost,lpost,hjm⟩:=hI.z7 hdv HLV.out (by
    have:=JZ hdv (n+1)
    have hz:Qa lv (n+1)≠0:=by
     intro e;apply hnv;rw [ff,HLV.out]
     rw [Xx (by have:=HLV.out;omega)] at e;simp [HLV.out,e]
    omega) HVV.out hm
   have HI:=aa hI
   have LJ:=aa lj
   have HBQ:=aa hBQ
   have e1:((k+1:Nat):Int) - 1=(k:Int):=by omega
   have hwin:Hid (k+n+2≤la.length):=hjm
   have hk3:(k:Int)+((n:Int)+2)+1≤(la.length:Int)+1:=by omega
   obtain ⟨bq,oq,rfl,_,_⟩:=hCV 0 (by have:=HLV.out;omega)
   have HCV:=aa hCV
   have HBU:=aa hBU
   clear hI lj hBQ hjm lpost hCV hBU
   rw [e1]
   clear e1
   go_wp2_with fail
   rw [show k+(n+2)+1 - k=n+3 from by omega]
   refine(IJ u lv pre post n k _ _ _ bq oq _ hst LJ.out (by omega) ⟨HBU.out,HCV.out⟩ (HN1.out _ rfl)).mono ?_
   rintro e w4 ⟨⟨rfl,u',hB',lu',du',vu'⟩,hU⟩
   have hBQ4:=hU.DF (by omega) HBQ.out
   have hlen:k<(aA (k+1) (0:Int)++qs).length:=by simp;omega
   have hcell:=hBQ4.cell hlen
   have hz:(aA (k+1) (0:Int)++qs).getD k default=0:=by simp [bW,bS]
   rw [hz] at hcell
   simp only [Jc] at hcell
   have hfr:=hBQ4.frozen k
   have hBs:=hBQ4.set k (dv W u / dv W lv)
   rw [TH] at hBs
   have HBs:=aa hBs
   have hvp:0<dv W lb*p2 s:=by have:=HBV.out.1;have:=pow_pos Jn (n+1);omega
   have HQL:Hid (dv W u / dv W lv<W):=by
    refine aZ (by rw [HVV.out];exact hvp) ?_
    exact hst.lt
   have HST:=aa (HI.out.step LJ.out hst.lu du' lu' HVV.out hvp hpost HQL.out (Qu Jn hst.hu) vu')
   have HB':=aa hB'
   have HU:=aa hU
   clear hBs hBQ4 hB' hU hz hlen vu'
   go_wp2
   go_roundw
   case rel=>exact⟨k,_,_,by omega,by go_num,HST.out,HB'.out.H7 (by omega),HBs.out,(HU.out.cells HN1.out HCV.out).H7 HN2.out,(HU.out.yB hE (aK _)).Xn (by simp;omega) _⟩
   case measure=>simp [intOf]
theorem Aq (v v':ai) (la lb:List Int) (w:ag) (ha:DG W la) (hb:DG W lb) (na:NZ la) (nb:NZ lb) (hs:SL w v Jc la) (hs':SL w v' Jc lb) (hb0:lb≠[])
  (h1:la.length≤10000000000) (h2:lb.length≤10000000000) :
  Calls Tryz.prog 247 #[v,v'] w fun e w'=>ZP w (Sv (dv W la) (dv W lb)) e w':=by
 by_cases hlt:dv W la<dv W lb
 ·exact UI v v' la lb w ha hb na nb hs hs' hlt
 ·match lb,hb,nb,hs',hb0,hlt,h2 with
  |[y],hb,nb,hs',_,hlt,_ =>
   have e:dv W [y]=y:=by simp
   rw [e] at hlt ⊢
   have hy:=hb.head
   have hy0:y≠0:=by intro e;subst e;exact nb rfl
   obtain ⟨q',cap',e',_⟩:=id hs'
   subst e'
   exact Ap v q' cap' la y w ha ⟨by omega,hy.2⟩ na hs hs' (by omega) (by omega)
  |x::y::l,hb,nb,hs',_,hlt,h2=>exact UH v v' la (x::y::l) l.length w ha hb na nb hs hs' (by omega) rfl h1 h2
theorem Yh.sign {w:ag} {s:Int} {q:Option Addr} {n cap:Nat} {z:Int} (h:Yh w s q n cap z):s<0↔z<0:=by
 rcases h with ⟨_,_,_,rfl,_⟩ | ⟨b,off,l,_,_,_,_,_,_,_,_,h,hz,hb⟩
 ·exact Iff.rfl
 ·rcases h with rfl | rfl<;>omega
theorem Bx.zI (w:ag) (o:Obj) (T:aB) (c:Array ai):Bx ((w.alloc o).alloc (.cells c T)) (w.heap.size+1) T c.toList:=by
 have:=Bx.new (w.alloc o) T c;simpa using this
theorem Bx.CB (w:ag) (o o':Obj) (T:aB) (c:Array ai):Bx (((w.alloc o).alloc (.cells c T)).alloc o') (w.heap.size+1) T c.toList:=(Bx.zI w o T c).alloc o'
theorem Bx.Fi (w:ag) (o o':Obj) (T:aB) (c:Array ai):Bx (((w.alloc o).alloc o').alloc (.cells c T)) (w.heap.size+1+1) T c.toList:=by
 have:=Bx.new ((w.alloc o).alloc o') T c;simpa using this
theorem Bx.Aj (w:ag) (o o':Obj) (T:aB) (c:Array ai):Bx (((w.alloc (.cells c T)).alloc o).alloc o') w.heap.size T c.toList:=((Bx.new w T c).alloc o).alloc o'
theorem Ext.He {a w:ag} (h:Ext a w) {R:Nat} (hR:a.heap.size≤R) (v0 v1:ai):Ext a ((w.setCell ⟨R,0,none⟩ v0).setCell ⟨R,1,none⟩ v1):=(h.Xn hR v0).Xn hR v1
theorem xA (v:ai) (z:Int) (w:ag) (hv:XQ w v z) :
  Calls Tryz.prog 228 #[v] w fun e w'=>ZP w (fun v w'=>XQ w' v (Jk z)) e w':=by
 have HV:=aa hv
 obtain ⟨s,q,n,cap,rfl,hp⟩:=hv
 have HP:=aa hp
 by_cases hs:s<0
 ·have HI:=aa (Bv (hp.sign.1 hs))
  have HB:=aa (Bx.zI w (.cells #[.int .i64 s,.slice q n cap] 128) 128 IZ)
  clear hp
  go_enter Tryz.func228,Tryz.ntmps228
  go_wp2_with fail
  refine(SC _ z _ (HV.out.ext (((Ext.refl _).alloc _).alloc _))).mono ?_
  rintro e w1 ⟨_,rfl,⟨s',q',n',cap',rfl,hp'⟩,hx⟩
  obtain ⟨c0,c1,f0,f1⟩:=(HB.out.ext hx).two
  have HB2:=aa (HB.out.ext hx)
  go_wp2
  refine bodyPost_ret (v:=.agg #[.int .i64 s',.slice q' n' cap']) (by simp [results,Tryz.results228,go_sem,c0,c1]) rfl ⟨_,rfl,?_,?_⟩
  ·rw [HI.out];exact⟨_,_,_,_,rfl,hp'.kp ((Kp.refl _).He HB2.out.Nb Tf _ _)⟩
  ·exact(((((Ext.refl w).alloc _).alloc _).trans hx).Xn (by simp) _).Xn (by simp) _
 ·have HI:=aa (WJ (z:=z) (by have:=hp.sign;omega))
  clear hp
  go_enter Tryz.func228,Tryz.ntmps228
  go_wp2
  refine bodyPost_ret (v:=.agg #[.int .i64 s,.slice q n cap]) (by simp [results,Tryz.results228,go_sem]) rfl ⟨_,rfl,?_,((Ext.refl _).alloc _).alloc _⟩
  rw [HI.out];exact⟨_,_,_,_,rfl,HP.out.ext (((Ext.refl _).alloc _).alloc _)⟩
def QBY:Nat:=1000000000
theorem Xu {l:List Int} {z:Int} (hd:DG W l) (hn:NZ l) (h:dv W l=Jk z) (hz:sz z≤1000000000):l.length≤1000000000:=by
 have:=yr hd hn;rw [h,E6] at this;omega
theorem TG {a b:Int} (h:decide (a<0)=decide (b<0)):sg (decide (a<0)) (Jk a+Jk b)=a+b:=by
 unfold sg Jk
 by_cases ha:a<0<;>by_cases hb:b<0<;>simp [ha,hb] at h ⊢<;>omega
theorem TF {a b:Int} (h:decide (a<0)≠decide (b<0)):sg (decide (a<0)) (Jk a - Jk b)=a+b:=by
 unfold sg Jk
 by_cases ha:a<0<;>by_cases hb:b<0<;>simp [ha,hb] at h ⊢<;>omega
theorem Rq {a b:Int} (h:decide (a<0)≠decide (b<0)):sg (decide (b<0)) (Jk b - Jk a)=a+b:=by
 unfold sg Jk
 by_cases ha:a<0<;>by_cases hb:b<0<;>simp [ha,hb] at h ⊢<;>omega
theorem Ds (s s':Int) (q q':Option Addr) (n n' cap cap':Nat) (a b:Int) (w:ag) (hv:Yh w s q n cap a) (hv':Yh w s' q' n' cap' b)
  (hc:q.isNone=false∨(q.isNone=true∧q'.isNone=false)∨(q.isNone=true∧q'.isNone=true∧(decide (s<wrap64 (s+s'))==decide (0<s'))=false))
  (ha:sz a≤1000000000) (hb:sz b≤1000000000) :
  Calls Tryz.prog 212 #[.agg #[.int .i64 s,.slice q n cap],.agg #[.int .i64 s',.slice q' n' cap']] w fun e w'=>ZP w (fun v w'=>XQ w' v (a+b)) e w':=by
 have hn:=fun w=>au (P:=Tryz.prog) w 126 248 q n cap 0 0 Tryz.underlying126
 have hn':=fun w=>au (P:=Tryz.prog) w 126 248 q' n' cap' 0 0 Tryz.underlying126
 have HV:Hid (XQ w (.agg #[.int .i64 s,.slice q n cap]) a):=⟨_,_,_,_,rfl,hv⟩
 have HV':Hid (XQ w (.agg #[.int .i64 s',.slice q' n' cap']) b):=⟨_,_,_,_,rfl,hv'⟩
 have HBb:=aa (Bx.CB w (.cells #[.int .i64 s,.slice q n cap] 128) (.cells IZ 128) 128 #[.int .i64 s',.slice q' n' cap'])
 have HBr:=aa (Bx.Fi w (.cells #[.int .i64 s,.slice q n cap] 128) (.cells #[.int .i64 s',.slice q' n' cap'] 128) 128 IZ)
 clear hv hv'
 rcases hc with h1 | ⟨h1,h2⟩ | ⟨h1,h2,h3⟩
 all_goals
  rw [h1] at hn
  try rw [h2] at hn'
  go_enter Tryz.func212,Tryz.ntmps212
  go_wp2_with fail
  refine(Yl _ a _ (HV.out.ext ((((Ext.refl _).alloc _).alloc _).alloc _))).mono ?_
  rintro e w1 ⟨_,rfl,⟨p,la,rfl,hsa,hda,hna,hva⟩,hx⟩
  have HB1:=aa (HBb.out.ext hx)
  have HR1:=aa (HBr.out.ext hx)
  obtain ⟨c0,c1,f0,f1⟩:=HB1.out.two
  have hlea:=Xu hda hna hva ha
  have HVA:=aa hva
  clear hva
  go_wp2_with fail
  refine(Yl _ b _ (HV'.out.ext (((((Ext.refl _).alloc _).alloc _).alloc _).trans hx))).mono ?_
  rintro e w2 ⟨_,rfl,⟨p',lb,rfl,hsb,hdb,hnb,hvb⟩,hx2⟩
  have HR2:=aa (HR1.out.ext hx2)
  have hleb:=Xu hdb hnb hvb hb
  have HVB:=aa hvb
  clear hvb c0 c1 f0 f1
  have hsa2:=hsa.ext hx2
  by_cases hsg:decide (a<0)=decide (b<0)
  ·have hgg:(decide (a<0)==decide (b<0))=true:=by simpa using hsg
   have HSG:Hid (sg (decide (a<0)) (dv W la+dv W lb)=a+b):=by
    show sg _ _=_
    rw [HVA.out,HVB.out];exact TG hsg
   clear hsg
   go_wp2_with fail
   refine(Sj _ _ la lb _ hda hdb hsa2 hsb (by omega) (by omega)).mono ?_
   rintro e w3 ⟨_,rfl,⟨l3,hs3,hd3,hn3,hv3⟩,hx3⟩
   have HV3:=aa hv3
   clear hv3
   go_wp2_with fail
   refine(VS _ _ l3 _ hs3 hd3 hn3).mono ?_
   rw [HV3.out,HSG.out]
   rintro e w4 ⟨_,rfl,⟨s4,q4,n4,cap4,rfl,hp4⟩,hx4⟩
   have HR4:=aa ((HR2.out.ext hx3).ext hx4)
   obtain ⟨c0,c1,f0,f1⟩:=HR4.out.two
   go_wp2
   refine bodyPost_ret (v:=.agg #[.int .i64 s4,.slice q4 n4 cap4]) (by simp [results,Tryz.results212,go_sem,c0,c1]) rfl ⟨_,rfl,⟨_,_,_,_,rfl,hp4.kp ((Kp.refl _).He HR4.out.Nb Tf _ _)⟩,?_⟩
   exact(((((((Ext.refl w).alloc _).alloc _).alloc _).trans hx).trans hx2).trans hx3 |>.trans hx4).He (by omega) _ _
  ·have hgg:(decide (a<0)==decide (b<0))=false:=by simpa using hsg
   have hcl:=Gh (x:=dv W la) (y:=dv W lb)
   have hcg:=Vr (x:=dv W la) (y:=dv W lb)
   by_cases hge:dv W lb≤dv W la
   ·have HSG:Hid (sg (decide (a<0)) (dv W la - dv W lb)=a+b):=by
     show sg _ _=_
     rw [HVA.out,HVB.out];exact TF hsg
    have hc3:=hcl hge
    have hll:lb.length≤la.length:=by
     refine Nat.not_lt.1 fun hlt=>?_
     have:=Xa Ex hda hdb hnb hlt;omega
    have HGE:=aa hge
    clear hsg hcl hcg hge
    go_wp2_with fail
    refine(ZZ _ _ la lb _ hda hdb hna hnb hsa2 hsb).mono ?_
    rintro e w3 ⟨rfl,hx3⟩
    have hsa3:=hsa2.ext hx3
    have hsb3:=hsb.ext hx3
    go_wp2_with fail
    refine(Bb _ _ la lb _ hda hdb hsa3 hsb3 (by omega) hll HGE.out).mono ?_
    rintro e w4 ⟨_,rfl,⟨l3,hs3,hd3,hn3,hv3⟩,hx4⟩
    have HV3:=aa hv3
    clear hv3
    go_wp2_with fail
    refine(VS _ _ l3 _ hs3 hd3 hn3).mono ?_
    rw [HV3.out,HSG.out]
    rintro e w5 ⟨_,rfl,⟨s4,q4,n4,cap4,rfl,hp4⟩,hx5⟩
    have HR4:=aa (((HR2.out.ext hx3).ext hx4).ext hx5)
    obtain ⟨c0,c1,f0,f1⟩:=HR4.out.two
    go_wp2
    refine bodyPost_ret (v:=.agg #[.int .i64 s4,.slice q4 n4 cap4]) (by simp [results,Tryz.results212,go_sem,c0,c1]) rfl ⟨_,rfl,⟨_,_,_,_,rfl,hp4.kp ((Kp.refl _).He HR4.out.Nb Tf _ _)⟩,?_⟩
    exact(((((((Ext.refl w).alloc _).alloc _).alloc _).trans hx).trans hx2).trans hx3 |>.trans hx4 |>.trans hx5).He (by omega) _ _
   ·have HSG:Hid (sg (decide (b<0)) (dv W lb - dv W la)=a+b):=by
     show sg _ _=_
     rw [HVA.out,HVB.out];exact Rq hsg
    have HC3:=aa (hcg (by omega))
    have hll:la.length≤lb.length:=by
     refine Nat.not_lt.1 fun hlt=>?_
     have:=Xa Ex hdb hda hna hlt;omega
    have HGE:Hid (dv W la≤dv W lb):=by show _≤_;omega
    clear hsg hcl hcg hge
    go_wp2_with fail
    refine(ZZ _ _ la lb _ hda hdb hna hnb hsa2 hsb).mono ?_
    rw [HC3.out]
    rintro e w3 ⟨rfl,hx3⟩
    have hsa3:=hsa2.ext hx3
    have hsb3:=hsb.ext hx3
    go_wp2_with fail
    refine(Bb _ _ lb la _ hdb hda hsb3 hsa3 (by omega) hll HGE.out).mono ?_
    rintro e w4 ⟨_,rfl,⟨l3,hs3,hd3,hn3,hv3⟩,hx4⟩
    have HV3:=aa hv3
    clear hv3
    go_wp2_with fail
    refine(VS _ _ l3 _ hs3 hd3 hn3).mono ?_
    rw [HV3.out,HSG.out]
    rintro e w5 ⟨_,rfl,⟨s4,q4,n4,cap4,rfl,hp4⟩,hx5⟩
    have HR4:=aa (((HR2.out.ext hx3).ext hx4).ext hx5)
    obtain ⟨c0,c1,f0,f1⟩:=HR4.out.two
    go_wp2
    refine bodyPost_ret (v:=.agg #[.int .i64 s4,.slice q4 n4 cap4]) (by simp [results,Tryz.results212,go_sem,c0,c1]) rfl ⟨_,rfl,⟨_,_,_,_,rfl,hp4.kp ((Kp.refl _).He HR4.out.Nb Tf _ _)⟩,?_⟩
    exact(((((((Ext.refl w).alloc _).alloc _).alloc _).trans hx).trans hx2).trans hx3 |>.trans hx4 |>.trans hx5).He (by omega) _ _
set_option maxRecDepth 100000 in
set_option maxHeartbeats 800000 in
theorem LN (s s':Int) (w:ag) (h0 : -9223372036854775808≤s) (h1:s≤9223372036854775807) (h0' : -9223372036854775808≤s') (h1':s'≤9223372036854775807)
  (hl : -9223372036854775808≤s+s') (hh:s+s'≤9223372036854775807) :
  Calls Tryz.prog 212 #[.agg #[.int .i64 s,.slice none 0 0],.agg #[.int .i64 s',.slice none 0 0]] w fun e w'=>ZP w (fun v w'=>XQ w' v (s+s')) e w':=by
 have hn:=fun w=>au (P:=Tryz.prog) w 126 248 none 0 0 0 0 Tryz.underlying126
 have hb1:(decide (s<s+s')==decide (0<s'))=true:=beq_iff_eq.2 (decide_eq_decide.2 (by omega))
 have hb2:(decide (0<s')==decide (0<s'))=true:=by simp
 go_enter Tryz.func212,Tryz.ntmps212
 go_wp2_with fail
 exact bodyPost_ret (v:=.agg #[.int .i64 (s+s'),.slice none 0 0]) (by simp [results,Tryz.results212,go_sem]) rfl ⟨_,rfl,XQ.small _ hl hh,((((Ext.refl _).alloc _).alloc _).alloc _)⟩
theorem Fz (v v':ai) (a b:Int) (w:ag) (hv:XQ w v a) (hv':XQ w v' b) (ha:sz a≤1000000000) (hb:sz b≤1000000000) :
  Calls Tryz.prog 212 #[v,v'] w fun e w'=>ZP w (fun v w'=>XQ w' v (a+b)) e w':=by
 obtain ⟨s,q,n,cap,rfl,hp⟩:=hv
 obtain ⟨s',q',n',cap',rfl,hp'⟩:=hv'
 rcases hp.isNone with ⟨rfl,rfl,rfl,rfl,h0,h1⟩ | ⟨_,_,rfl⟩
 ·rcases hp'.isNone with ⟨rfl,rfl,rfl,rfl,h0',h1'⟩ | ⟨_,_,rfl⟩
  ·by_cases hl : -9223372036854775808≤s+s'∧s+s'≤9223372036854775807
   ·exact LN s s' w h0 h1 h0' h1' hl.1 hl.2
   ·refine Ds _ _ _ _ _ _ _ _ _ _ w hp hp' (.inr (.inr ⟨rfl,rfl,?_⟩)) ha hb
    simp only [wrap64,beq_eq_false_iff_ne,ne_eq,decide_eq_decide]
    omega
  ·exact Ds _ _ _ _ _ _ _ _ _ _ w hp hp' (.inr (.inl ⟨rfl,rfl⟩)) ha hb
 ·exact Ds _ _ _ _ _ _ _ _ _ _ w hp hp' (.inl rfl) ha hb
def B2 (w:ag) (R:Nat) (s:Int) (q:Option Addr) (n cap:Nat):Prop:=w.cell? ⟨R,0,none⟩=some (.int .i64 s)∧w.cell? ⟨R,1,none⟩=some (.slice q n cap)
theorem FK (v v':ai) (a b:Int) (w:ag) (hv:XQ w v a) (hv':XQ w v' b) (ha:sz a≤1000000000) (hb:sz b≤1000000000) :
  Calls Tryz.prog 248 #[v,v'] w fun e w'=>ZP w (fun v w'=>XQ w' v (a - b)) e w':=by
 have HV:=aa hv
 have HV':=aa hv'
 obtain ⟨s,q,n,cap,rfl,hp⟩:=hv
 obtain ⟨s',q',n',cap',rfl,hp'⟩:=hv'
 have HBa:=aa (Bx.Aj w (.cells #[.int .i64 s',.slice q' n' cap'] 128) (.cells IZ 128) 128 #[.int .i64 s,.slice q n cap])
 have HBb:=aa (Bx.CB w (.cells #[.int .i64 s,.slice q n cap] 128) (.cells IZ 128) 128 #[.int .i64 s',.slice q' n' cap'])
 have HBr:=aa (Bx.Fi w (.cells #[.int .i64 s,.slice q n cap] 128) (.cells #[.int .i64 s',.slice q' n' cap'] 128) 128 IZ)
 have hnb:sz (-b)≤1000000000:=by rw [Yd];exact hb
 have HE:Hid (a + -b=a - b):=(Int.sub_eq_add_neg).symm
 clear hp hp'
 go_enter Tryz.func248,Tryz.ntmps248
 go_wp2_with fail
 have hEW:Ext w (((w.alloc (.cells #[.int .i64 s,.slice q n cap] 128)).alloc (.cells #[.int .i64 s',.slice q' n' cap'] 128)).alloc (.cells IZ 128)):=(((Ext.refl w).alloc _).alloc _).alloc _
 generalize hW:(((w.alloc (.cells #[.int .i64 s,.slice q n cap] 128)).alloc (.cells #[.int .i64 s',.slice q' n' cap'] 128)).alloc (.cells IZ 128))=W0 at *
 have HW:=aa hW
 clear hW
 obtain ⟨ca0,ca1,fa0,fa1⟩:=HBa.out.two
 obtain ⟨cb0,cb1,fb0,fb1⟩:=HBb.out.two
 clear fa0 fa1 fb0 fb1
 go_region_held3 (fun w'=>w'.cell? ⟨w.heap.size,0,none⟩=some (.int .i64 s)∧w'.cell? ⟨w.heap.size,1,none⟩=some (.slice q n cap)∧w'.cell? ⟨w.heap.size+1,0,none⟩=some (.int .i64 s')∧w'.cell? ⟨w.heap.size+1,1,none⟩=some (.slice q' n' cap'))
  (first | exact⟨hx1.cell ca0,hx1.cell ca1,hx1.cell cb0,hx1.cell cb1⟩ | exact⟨hx2.cell (hx1.cell ca0),hx2.cell (hx1.cell ca1),hx2.cell (hx1.cell cb0),hx2.cell (hx1.cell cb1)⟩ | exact⟨Xe (by omega) (Xe (by omega) (hx2.cell (hx1.cell ca0))),Xe (by omega) (Xe (by omega) (hx2.cell (hx1.cell ca1))),Xe (by omega) (Xe (by omega) (hx2.cell (hx1.cell cb0))),Xe (by omega) (Xe (by omega) (hx2.cell (hx1.cell cb1)))⟩ | go_keep)
  (first
   |(go_at_call 172;refine(SC _ b _ (HV'.out.ext (hEW.drew))).mono ?_;rintro e w1 ⟨_,rfl,⟨s1,q1,n1,cap1,rfl,hp1⟩,hx1⟩)
   |(go_at_call 212;refine(Fz _ _ a (-b) _ (HV.out.ext ((hEW.drew).trans hx1)) ⟨_,_,_,_,rfl,hp1⟩ ha hnb).mono ?_;rw [HE.out];rintro e w2 ⟨_,rfl,⟨s2,q2,n2,cap2,rfl,hp2⟩,hx2⟩;obtain ⟨c0,c1,f0,f1⟩:=((HBr.out.drew.ext hx1).ext hx2).two))
 go_wp2
 refine bodyPost_ret (v:=.agg #[.int .i64 s2,.slice q2 n2 cap2]) (by simp [results,Tryz.results248,go_sem,c0,c1]) rfl ⟨_,rfl,⟨_,_,_,_,rfl,hp2.kp ((Kp.refl _).He ((HBr.out.drew.ext hx1).ext hx2).Nb Tf _ _)⟩,?_⟩
 exact((hEW.drew.trans hx1).trans hx2).He (by omega) _ _
theorem UP (a b:Int):E7 (a - b)=Zd a b:=(Ce a b).symm
theorem LB (s s':Int) (w:ag) :
  Calls Tryz.prog 203 #[.agg #[.int .i64 s,.slice none 0 0],.agg #[.int .i64 s',.slice none 0 0]] w fun e w'=>e = .returned (.int .i64 (Zd s s'))∧Ext w w':=by
 have hn:=fun w=>au (P:=Tryz.prog) w 126 248 none 0 0 0 0 Tryz.underlying126
 rcases bU s s' with g | g | g
 ·have HC:=aa (Vr g)
  go_enter Tryz.func203,Tryz.ntmps203
  go_wp2
  go_ret
  exact⟨by rw [HC.out];rfl,((Ext.refl _).alloc _).alloc _⟩
 ·subst g
  have HC:=aa (ML s)
  go_enter Tryz.func203,Tryz.ntmps203
  go_wp2
  go_ret
  exact⟨by rw [HC.out];rfl,((Ext.refl _).alloc _).alloc _⟩
 ·have HC:=aa (HH g)
  have g2:¬ s<s':=by omega
  go_enter Tryz.func203,Tryz.ntmps203
  go_wp2
  go_ret
  exact⟨by rw [HC.out];rfl,((Ext.refl _).alloc _).alloc _⟩
theorem Fu (v v':ai) (a b:Int) (w:ag) (s s':Int) (q q':Option Addr) (n n' cap cap':Nat) (hv:Yh w s q n cap a) (hv':Yh w s' q' n' cap' b) (e1:v = .agg #[.int .i64 s,.slice q n cap]) (e2:v' = .agg #[.int .i64 s',.slice q' n' cap'])
  (hc:q.isNone=false∨(q.isNone=true∧q'.isNone=false)) (ha:sz a≤1000000000) (hb:sz b≤1000000000) :
  Calls Tryz.prog 203 #[v,v'] w fun e w'=>e = .returned (.int .i64 (Zd a b))∧Ext w w':=by
 subst e1 e2
 have hn:=fun w=>au (P:=Tryz.prog) w 126 248 q n cap 0 0 Tryz.underlying126
 have hn':=fun w=>au (P:=Tryz.prog) w 126 248 q' n' cap' 0 0 Tryz.underlying126
 have HV:Hid (XQ w (.agg #[.int .i64 s,.slice q n cap]) a):=⟨_,_,_,_,rfl,hv⟩
 have HV':Hid (XQ w (.agg #[.int .i64 s',.slice q' n' cap']) b):=⟨_,_,_,_,rfl,hv'⟩
 have HC:=aa (UP a b)
 clear hv hv'
 rcases hc with h1 | ⟨h1,h2⟩
 all_goals
  rw [h1] at hn
  try rw [h2] at hn'
  go_enter Tryz.func203,Tryz.ntmps203
  go_wp2_with fail
  refine(FK _ _ a b _ (HV.out.ext (((Ext.refl _).alloc _).alloc _)) (HV'.out.ext (((Ext.refl _).alloc _).alloc _)) ha hb).mono ?_
  rintro e w1 ⟨_,rfl,⟨s1,q1,n1,cap1,rfl,hp1⟩,hx1⟩
  have HP1:=aa hp1
  clear hp1
  go_wp2_with fail
  refine(TE _ (a - b) _ ⟨_,_,_,_,rfl,HP1.out⟩).mono ?_
  rw [HC.out]
  rintro e w2 ⟨rfl,hx2⟩
  go_wp2
  go_ret
  exact⟨rfl,((((Ext.refl _).alloc _).alloc _).trans hx1).trans hx2⟩
theorem jz (v v':ai) (a b:Int) (w:ag) (hv:XQ w v a) (hv':XQ w v' b) (ha:sz a≤1000000000) (hb:sz b≤1000000000) :
  Calls Tryz.prog 203 #[v,v'] w fun e w'=>e = .returned (.int .i64 (Zd a b))∧Ext w w':=by
 obtain ⟨s,q,n,cap,e1,hp⟩:=hv
 obtain ⟨s',q',n',cap',e2,hp'⟩:=hv'
 rcases hp.isNone with ⟨rfl,rfl,rfl,rfl,h0,h1⟩ | ⟨_,_,rfl⟩
 ·rcases hp'.isNone with ⟨rfl,rfl,rfl,rfl,h0',h1'⟩ | ⟨_,_,rfl⟩
  ·subst e1 e2;exact LB s s' w
  ·exact Fu _ _ _ _ w _ _ _ _ _ _ _ _ hp hp' e1 e2 (.inr ⟨rfl,rfl⟩) ha hb
 ·exact Fu _ _ _ _ w _ _ _ _ _ _ _ _ hp hp' e1 e2 (.inl rfl) ha hb
theorem MF {s:Int} (h0 : -9223372036854775808≤s) (h1:s≤9223372036854775807):0≤Jk s∧Jk s<W:=by
 rw [KR];have:=Wl;omega
theorem O8 {x y:Int}:J1 x y+W*Xo x y=x*y:=by unfold J1 Xo;rw [fB];exact aC _ _
theorem O5 {s t:Int}:(if(decide (s<0)==decide (t<0)) then Jk s*Jk t else -(Jk s*Jk t))=s*t:=by
 unfold Jk
 by_cases h1:s<0<;>by_cases h2:t<0<;>simp [h1,h2,bK,iG]
theorem OG {s t:Int}:sg (!(decide (s<0)==decide (t<0))) (Jk s*Jk t)=s*t:=by
 rw [← O5 (s:=s) (t:=t)];unfold sg
 cases (decide (s<0)==decide (t<0))<;>simp
set_option maxRecDepth 100000 in
set_option maxHeartbeats 2000000 in
theorem Ij (s s':Int) (w:ag) (h0 : -9223372036854775808≤s) (h1:s≤9223372036854775807) (h0' : -9223372036854775808≤s') (h1':s'≤9223372036854775807)
  (hl:Jk s*Jk s'≤9223372036854775807) :
  Calls Tryz.prog 198 #[.agg #[.int .i64 s,.slice none 0 0],.agg #[.int .i64 s',.slice none 0 0]] w fun e w'=>ZP w (fun v w'=>XQ w' v (s*s')) e w':=by
 have hn:=fun w=>au (P:=Tryz.prog) w 126 248 none 0 0 0 0 Tryz.underlying126
 have b1:=MF h0 h1
 have b2:=MF h0' h1'
 have hp0:0≤Jk s*Jk s':=aG b1.1 b2.1
 have hhi:Xo (Jk s) (Jk s')=0:=fz hp0 (by have:=Wl;omega)
 have hlo:J1 (Jk s) (Jk s')=Jk s*Jk s':=hJ hp0 (by have:=Wl;omega)
 have HHI:=aa hhi
 have HLO:=aa hlo
 have HSG:=aa (O5 (s:=s) (t:=s'))
 have HBa:=aa (Bx.Aj w (.cells #[.int .i64 s',.slice none 0 0] 128) (.cells IZ 128) 128 #[.int .i64 s,.slice none 0 0])
 have HBb:=aa (Bx.CB w (.cells #[.int .i64 s,.slice none 0 0] 128) (.cells IZ 128) 128 #[.int .i64 s',.slice none 0 0])
 generalize Jk s*Jk s'=p at *
 clear hhi hlo
 by_cases hsg:(decide (s<0)==decide (s'<0))=true
 all_goals
  have hs2:=HSG.out
  first | rw [if_pos hsg] at hs2 | rw [if_neg hsg] at hs2
  have HS2:=aa hs2
  try have hsg3:(decide (s<0)==decide (s'<0))=false:=by simpa using hsg
  clear hs2
  go_enter Tryz.func198,Tryz.ntmps198
  go_wp2_with fail
  go_region_held3 (fun w'=>w'.cell? ⟨w.heap.size,0,none⟩=some (.int .i64 s)∧w'.cell? ⟨w.heap.size+1,0,none⟩=some (.int .i64 s'))
   (first | go_keep)
   (first
    |(go_at_call 245;(with_reducible refine(GS s _ h0 h1).mono ?_);rintro e w1 ⟨rfl,rfl⟩)
    |(go_at_call 245;(with_reducible refine(GS s' _ h0' h1').mono ?_);rintro e w1 ⟨rfl,rfl⟩)
    |(go_at_call 244;refine(Yn _ _ _ b1 b2).mono ?_;rw [HHI.out,HLO.out];rintro e w1 ⟨rfl,rfl⟩))
  go_wp2
  first
   |exact bodyPost_ret (v:=.agg #[.int .i64 (-p),.slice none 0 0]) (by simp [results,Tryz.results198,go_sem]) rfl ⟨_,rfl,by rw [← HS2.out];exact XQ.small _ (by omega) (by omega),(((Ext.refl w).alloc _).alloc _).alloc _ |>.drewN 1⟩
   |exact bodyPost_ret (v:=.agg #[.int .i64 p,.slice none 0 0]) (by simp [results,Tryz.results198,go_sem]) rfl ⟨_,rfl,by rw [← HS2.out];exact XQ.small _ (by omega) (by omega),(((Ext.refl w).alloc _).alloc _).alloc _ |>.drewN 1⟩
set_option maxRecDepth 100000 in
set_option maxHeartbeats 4000000 in
theorem P6 (s s':Int) (q q':Option Addr) (n n' cap cap':Nat) (a b:Int) (w:ag) (hv:Yh w s q n cap a) (hv':Yh w s' q' n' cap' b)
  (hc:q.isNone=false∨(q.isNone=true∧q'.isNone=false)) (ha:sz a≤1000000000) (hb:sz b≤1000000000) :
  Calls Tryz.prog 198 #[.agg #[.int .i64 s,.slice q n cap],.agg #[.int .i64 s',.slice q' n' cap']] w fun e w'=>ZP w (fun v w'=>XQ w' v (a*b)) e w':=by
 have hn:=fun w=>au (P:=Tryz.prog) w 126 248 q n cap 0 0 Tryz.underlying126
 have hn':=fun w=>au (P:=Tryz.prog) w 126 248 q' n' cap' 0 0 Tryz.underlying126
 have HV:Hid (XQ w (.agg #[.int .i64 s,.slice q n cap]) a):=⟨_,_,_,_,rfl,hv⟩
 have HV':Hid (XQ w (.agg #[.int .i64 s',.slice q' n' cap']) b):=⟨_,_,_,_,rfl,hv'⟩
 have HBb:=aa (Bx.CB w (.cells #[.int .i64 s,.slice q n cap] 128) (.cells IZ 128) 128 #[.int .i64 s',.slice q' n' cap'])
 have HBr:=aa (Bx.Fi w (.cells #[.int .i64 s,.slice q n cap] 128) (.cells #[.int .i64 s',.slice q' n' cap'] 128) 128 IZ)
 clear hv hv'
 rcases hc with h1 | ⟨h1,h2⟩
 all_goals
  rw [h1] at hn
  try rw [h2] at hn'
  go_enter Tryz.func198,Tryz.ntmps198
  go_wp2_with fail
  refine(Yl _ a _ (HV.out.ext ((((Ext.refl _).alloc _).alloc _).alloc _))).mono ?_
  rintro e w1 ⟨_,rfl,⟨p,la,rfl,hsa,hda,hna,hva⟩,hx⟩
  have HB1:=aa (HBb.out.ext hx)
  have HR1:=aa (HBr.out.ext hx)
  obtain ⟨c0,c1,f0,f1⟩:=HB1.out.two
  have hlea:=Xu hda hna hva ha
  have HVA:=aa hva
  clear hva
  go_wp2_with fail
  refine(Yl _ b _ (HV'.out.ext (((((Ext.refl _).alloc _).alloc _).alloc _).trans hx))).mono ?_
  rintro e w2 ⟨_,rfl,⟨p',lb,rfl,hsb,hdb,hnb,hvb⟩,hx2⟩
  have HR2:=aa (HR1.out.ext hx2)
  have hleb:=Xu hdb hnb hvb hb
  have HVB:=aa hvb
  clear hvb c0 c1 f0 f1
  have hsa2:=hsa.ext hx2
  have HSG:Hid (sg (!(decide (a<0)==decide (b<0))) (dv W la*dv W lb)=a*b):=by
   show sg _ _=_
   rw [HVA.out,HVB.out];exact OG
  go_wp2_with fail
  refine(Bm _ _ la lb _ hda hdb hsa2 hsb (by omega) (by omega)).mono ?_
  rintro e w3 ⟨_,rfl,⟨l3,hs3,hd3,hn3,hv3⟩,hx3⟩
  have HV3:=aa hv3
  clear hv3
  go_wp2_with fail
  refine(VS _ _ l3 _ hs3 hd3 hn3).mono ?_
  rw [HV3.out,HSG.out]
  rintro e w4 ⟨_,rfl,⟨s4,q4,n4,cap4,rfl,hp4⟩,hx4⟩
  have HR4:=aa ((HR2.out.ext hx3).ext hx4)
  obtain ⟨c0,c1,f0,f1⟩:=HR4.out.two
  go_wp2
  refine bodyPost_ret (v:=.agg #[.int .i64 s4,.slice q4 n4 cap4]) (by simp [results,Tryz.results198,go_sem,c0,c1]) rfl ⟨_,rfl,⟨_,_,_,_,rfl,hp4.kp ((Kp.refl _).He HR4.out.Nb Tf _ _)⟩,?_⟩
  exact(((((((Ext.refl w).alloc _).alloc _).alloc _).trans hx).trans hx2).trans hx3 |>.trans hx4).He (by omega) _ _
set_option maxRecDepth 100000 in
set_option maxHeartbeats 4000000 in
theorem O6 (s s':Int) (w:ag) (h0 : -9223372036854775808≤s) (h1:s≤9223372036854775807) (h0' : -9223372036854775808≤s') (h1':s'≤9223372036854775807)
  (hl:9223372036854775808≤Jk s*Jk s') (ha:sz s≤1000000000) (hb:sz s'≤1000000000) :
  Calls Tryz.prog 198 #[.agg #[.int .i64 s,.slice none 0 0],.agg #[.int .i64 s',.slice none 0 0]] w fun e w'=>ZP w (fun v w'=>XQ w' v (s*s')) e w':=by
 have hn:=fun w=>au (P:=Tryz.prog) w 126 248 none 0 0 0 0 Tryz.underlying126
 have b1:=MF h0 h1
 have b2:=MF h0' h1'
 have HV:=aa (XQ.small w h0 h1)
 have HV':=aa (XQ.small w h0' h1')
 have HBa:=aa (Bx.Aj w (.cells #[.int .i64 s',.slice none 0 0] 128) (.cells IZ 128) 128 #[.int .i64 s,.slice none 0 0])
 have HBb:=aa (Bx.CB w (.cells #[.int .i64 s,.slice none 0 0] 128) (.cells IZ 128) 128 #[.int .i64 s',.slice none 0 0])
 have HBr:=aa (Bx.Fi w (.cells #[.int .i64 s,.slice none 0 0] 128) (.cells #[.int .i64 s',.slice none 0 0] 128) 128 IZ)
 have hhl:=O8 (x:=Jk s) (y:=Jk s')
 have hor:Xo (Jk s) (Jk s')≠0∨9223372036854775808≤J1 (Jk s) (Jk s'):=by
  by_cases h:Xo (Jk s) (Jk s')=0
  ·right;rw [h] at hhl;omega
  ·exact .inl h
 have hcase:(Xo (Jk s) (Jk s')==0)=false∨((Xo (Jk s) (Jk s')==0)=true∧9223372036854775808≤J1 (Jk s) (Jk s')):=by
  by_cases h:Xo (Jk s) (Jk s')=0
  ·exact .inr ⟨by simpa using h,by rcases hor with g | g;exact absurd h g;exact g⟩
  ·exact .inl (by simpa using h)
 clear hor hhl hl
 generalize hmh:Xo (Jk s) (Jk s')=mh at *
 generalize hml:J1 (Jk s) (Jk s')=ml at *
 have HMH:=aa hmh
 have HML:=aa hml
 clear hmh hml
 rcases hcase with g1 | ⟨g1,g2⟩
 all_goals
  go_enter Tryz.func198,Tryz.ntmps198
  go_wp2_with fail
  go_region_held3 (fun w'=>w'.cell? ⟨w.heap.size,0,none⟩=some (.int .i64 s)∧w'.cell? ⟨w.heap.size+1,0,none⟩=some (.int .i64 s'))
   (first | go_keep)
   (first
    |(go_at_call 245;(with_reducible refine(GS s _ h0 h1).mono ?_);rintro e w1 ⟨rfl,rfl⟩)
    |(go_at_call 245;(with_reducible refine(GS s' _ h0' h1').mono ?_);rintro e w1 ⟨rfl,rfl⟩)
    |(go_at_call 244;refine(Yn _ _ _ b1 b2).mono ?_;rw [HMH.out,HML.out];rintro e w1 ⟨rfl,rfl⟩))
  go_wp2_with fail
  refine(Yl _ s _ (HV.out.ext (((((Ext.refl _).alloc _).alloc _).alloc _).drew))).mono ?_
  rintro e w1 ⟨_,rfl,⟨p,la,rfl,hsa,hda,hna,hva⟩,hx⟩
  have HB1:=aa (HBb.out.drew.ext hx)
  have HR1:=aa (HBr.out.drew.ext hx)
  obtain ⟨c0,c1,f0,f1⟩:=HB1.out.two
  have hlea:=Xu hda hna hva ha
  have HVA:=aa hva
  clear hva
  go_wp2_with fail
  refine(Yl _ s' _ (HV'.out.ext ((((((Ext.refl _).alloc _).alloc _).alloc _).drew).trans hx))).mono ?_
  rintro e w2 ⟨_,rfl,⟨p',lb,rfl,hsb,hdb,hnb,hvb⟩,hx2⟩
  have HR2:=aa (HR1.out.ext hx2)
  have hleb:=Xu hdb hnb hvb hb
  have HVB:=aa hvb
  clear hvb c0 c1 f0 f1
  have hsa2:=hsa.ext hx2
  have HSG:Hid (sg (!(decide (s<0)==decide (s'<0))) (dv W la*dv W lb)=s*s'):=by
   show sg _ _=_
   rw [HVA.out,HVB.out];exact OG
  go_wp2_with fail
  refine(Bm _ _ la lb _ hda hdb hsa2 hsb (by omega) (by omega)).mono ?_
  rintro e w3 ⟨_,rfl,⟨l3,hs3,hd3,hn3,hv3⟩,hx3⟩
  have HV3:=aa hv3
  clear hv3
  go_wp2_with fail
  refine(VS _ _ l3 _ hs3 hd3 hn3).mono ?_
  rw [HV3.out,HSG.out]
  rintro e w4 ⟨_,rfl,⟨s4,q4,n4,cap4,rfl,hp4⟩,hx4⟩
  have HR4:=aa ((HR2.out.ext hx3).ext hx4)
  obtain ⟨c0,c1,f0,f1⟩:=HR4.out.two
  go_wp2
  refine bodyPost_ret (v:=.agg #[.int .i64 s4,.slice q4 n4 cap4]) (by simp [results,Tryz.results198,go_sem,c0,c1]) rfl ⟨_,rfl,⟨_,_,_,_,rfl,hp4.kp ((Kp.refl _).He HR4.out.Nb Tf _ _)⟩,?_⟩
  exact((((((((Ext.refl w).alloc _).alloc _).alloc _).drew).trans hx).trans hx2).trans hx3 |>.trans hx4).He (by omega) _ _
theorem jM (v v':ai) (a b:Int) (w:ag) (hv:XQ w v a) (hv':XQ w v' b) (ha:sz a≤1000000000) (hb:sz b≤1000000000) :
  Calls Tryz.prog 198 #[v,v'] w fun e w'=>ZP w (fun v w'=>XQ w' v (a*b)) e w':=by
 obtain ⟨s,q,n,cap,rfl,hp⟩:=hv
 obtain ⟨s',q',n',cap',rfl,hp'⟩:=hv'
 rcases hp.isNone with ⟨rfl,rfl,rfl,rfl,h0,h1⟩ | ⟨_,_,rfl⟩
 ·rcases hp'.isNone with ⟨rfl,rfl,rfl,rfl,h0',h1'⟩ | ⟨_,_,rfl⟩
  ·by_cases hl:Jk s*Jk s'≤9223372036854775807
   ·exact Ij s s' w h0 h1 h0' h1' hl
   ·exact O6 s s' w h0 h1 h0' h1' (by omega) ha hb
  ·exact P6 _ _ _ _ _ _ _ _ _ _ w hp hp' (.inr ⟨rfl,rfl⟩) ha hb
 ·exact P6 _ _ _ _ _ _ _ _ _ _ w hp hp' (.inl rfl) ha hb
theorem yf (n:Int) (w:ag) (h0 : -9223372036854775808≤n) (h1:n≤9223372036854775807) :
  Calls Tryz.prog 169 #[.int .i64 n] w fun e w'=>ZP w (fun v w'=>XQ w' v n) e w':=by
 go_enter Tryz.func169,Tryz.ntmps169
 go_wp2
 exact bodyPost_ret (v:=.agg #[.int .i64 n,.slice none 0 0]) (by simp [results,Tryz.results169,go_sem]) rfl ⟨_,rfl,XQ.small _ h0 h1,(Ext.refl _).alloc _⟩
theorem U6 {a b:Int} (hb:0<b):(0≤a.tmod b→a.tdiv b=a / b∧a.tmod b=a%b)∧(a.tmod b<0→a.tdiv b - 1=a / b∧a.tmod b+b=a%b):=by
 have h1:=Int.mul_tdiv_add_tmod a b
 have h3:a.tmod b<b∧-b<a.tmod b:=by
  have:=bQ a hb
  refine⟨this,?_⟩
  have h:=bQ (-a) hb
  rw [ix] at h;omega
 generalize a.tdiv b=q at *
 generalize a.tmod b=r at *
 constructor
 ·intro hr
  have g1:q*b≤a:=by rw [aj];omega
  have g2:a<(q+1)*b:=by rw [bc,aj q];omega
  exact⟨(Xw hb g1 g2).symm,by rw [Zt g1 g2,aj q];omega⟩
 ·intro hr
  have g1:(q - 1)*b≤a:=by rw [eE,aj q];omega
  have g2:a<(q - 1+1)*b:=by rw [show q - 1+1=q from by omega,aj];omega
  exact⟨(Xw hb g1 g2).symm,by rw [Zt g1 g2,eE,aj q];omega⟩
def ph (a b:Int) (r:ai) (w':ag):Prop:=∃ v v',r = .tuple #[v,v']∧XQ w' v (a / b)∧XQ w' v' (a%b)
set_option maxRecDepth 100000 in
set_option maxHeartbeats 400000 in
theorem Sa (s s':Int) (w:ag) (h0 : -9223372036854775807≤s) (h1:s≤9223372036854775807) (hb0:0<s') (hb1:s'≤9223372036854775807) :
  Calls Tryz.prog 199 #[.agg #[.int .i64 s,.slice none 0 0],.agg #[.int .i64 s',.slice none 0 0]] w fun e w'=>ZP w (ph s s') e w':=by
 have hn:=fun w=>au (P:=Tryz.prog) w 126 248 none 0 0 0 0 Tryz.underlying126
 have hm:(s != -9223372036854775808)=true:=by simp;omega
 have hz:(s'==0)=false:=by simp;omega
 have hT:=U6 (a:=s) hb0
 have HT:=aa hT
 have hbd : -9223372036854775807≤s.tdiv s'∧s.tdiv s'≤9223372036854775807:=by
  have h:=Int.natAbs_tdiv_le_natAbs s s';omega
 have hrd : -9223372036854775807≤s.tmod s'∧s.tmod s'≤9223372036854775807:=by
  have:=bQ s hb0
  have h:=bQ (-s) hb0
  rw [ix] at h;omega
 clear hT
 have hqr:Hid (-9223372036854775808≤s / s'∧s / s'≤9223372036854775807∧0≤s%s'∧s%s'≤9223372036854775807):=by
  have r0:=aH s (by omega:s'≠0)
  have r1:=aI s hb0
  by_cases hr:0≤s.tmod s'
  ·have:=HT.out.1 hr;exact⟨by omega,by omega,r0,by omega⟩
  ·have:=HT.out.2 (by omega);exact⟨by omega,by omega,r0,by omega⟩
 by_cases hr:0≤s.tmod s'
 ·have HR:=aa (HT.out.1 hr)
  go_enter Tryz.func199,Tryz.ntmps199
  go_wp2_with fail
  go_quiet (fail)
  go_wp2
  refine bodyPost_ret (v:=.tuple #[.agg #[.int .i64 (s.tdiv s'),.slice none 0 0],.agg #[.int .i64 (s.tmod s'),.slice none 0 0]]) (by simp [results,Tryz.results199,go_sem]) rfl ⟨_,rfl,⟨_,_,rfl,?_,?_⟩,?_⟩
  ·rw [HR.out.1];exact XQ.small _ hqr.out.1 hqr.out.2.1
  ·rw [HR.out.2];exact XQ.small _ (by have:=hqr.out;omega) hqr.out.2.2.2
  ·repeat (first | (with_reducible exact Ext.refl _) | (with_reducible refine Ext.drewN ?_ _) | (with_reducible refine Ext.drew ?_) | (with_reducible refine Ext.alloc ?_ _) | (with_reducible refine Ext.Xn ?_ (by dsimp only;omega) _))
 ·have HR:=aa (HT.out.2 (by omega))
  have hw1:IntKind.i64.wrap (s.tdiv s' - 1)=s.tdiv s' - 1:=bt _ (by have:=HR.out;have:=hqr.out;omega)
  have hw2:IntKind.i64.wrap (s.tmod s'+s')=s.tmod s'+s':=bt _ (by omega)
  have hr:s.tmod s'<0:=by omega
  go_enter Tryz.func199,Tryz.ntmps199
  go_wp2_with fail
  go_quiet (fail)
  go_wp2
  go_quiet (fail)
  go_wp2
  refine bodyPost_ret (v:=.tuple #[.agg #[.int .i64 (s.tdiv s' - 1),.slice none 0 0],.agg #[.int .i64 (s.tmod s'+s'),.slice none 0 0]]) (by simp [results,Tryz.results199,go_sem]) rfl ⟨_,rfl,⟨_,_,rfl,?_,?_⟩,?_⟩
  ·rw [HR.out.1];exact XQ.small _ hqr.out.1 hqr.out.2.1
  ·rw [HR.out.2];exact XQ.small _ (by have:=hqr.out;omega) hqr.out.2.2.2
  ·repeat (first | (with_reducible exact Ext.refl _) | (with_reducible refine Ext.drewN ?_ _) | (with_reducible refine Ext.drew ?_) | (with_reducible refine Ext.alloc ?_ _) | (with_reducible refine Ext.Xn ?_ (by dsimp only;omega) _))
def N4 (F:Gs) (w:ag):Prop:=∀ b c T,F b=some (c,T)→∃ fr,w.heap[b]?=some (.cells c T fr)
theorem Fits.r {F:Gs} {w:ag} (h:Fits F w):N4 F w:=h.row
theorem N4.le {F F':Gs} {w:ag} (h:N4 F' w) (k:Gs.le F F'):N4 F w:=fun b c T e=>h b c T (k b _ e)
def UU (w w':ag):Prop:=∀ (b:Nat) (c:Array ai) (fr:Nat×Nat),w.heap[b]?=some (.cells c 248 fr)→∃ fr',w'.heap[b]?=some (.cells c 248 fr')
theorem Kg.Wn {w w':ag} (h:UU w w') {b:Nat} (hb:Kg w b 248):Kg w' b 248:=by
 obtain ⟨c,fr,e⟩:=hb;obtain ⟨fr',e'⟩:=h b c fr e;exact⟨c,fr',e'⟩
theorem Cells.Wn {w w':ag} (h:UU w w') {q:Option Addr} {l:List Int} (hc:Cells w q Jc l):Cells w' q Jc l:=by
 intro i hi
 obtain ⟨b,off,e,ht,hcell⟩:=hc i hi
 refine⟨b,off,e,Kg.Wn h ht,?_⟩
 obtain ⟨c,fr,hb⟩:=ht
 obtain ⟨fr',hb'⟩:=h b c fr hb
 have e1:w.cell? ⟨b,off+i,none⟩=c[off+i]?:=by simp [eC,hb]
 have e2:w'.cell? ⟨b,off+i,none⟩=c[off+i]?:=by simp [eC,hb']
 rw [e2,← e1];exact hcell
theorem SL.Wn {w w':ag} (h:UU w w') {v:ai} {l:List Int} (hs:SL w v Jc l):SL w' v Jc l:=by
 obtain ⟨q,cap,h1,h2,h3,h4⟩:=hs
 exact⟨q,cap,h1,h2,h3,h4.Wn h⟩
theorem Yh.Wn {w w':ag} (h:UU w w') {s:Int} {q:Option Addr} {n cap:Nat} {z:Int} (hv:Yh w s q n cap z):Yh w' s q n cap z:=by
 rcases hv with hv | ⟨b,off,l,h1,h2,h3,h4,h5,h6⟩
 ·exact .inl hv
 ·exact .inr ⟨b,off,l,h1,h2,h3,h4,h5.Wn h,h6⟩
theorem QT.lift {P:bm} {f:FuncId} {args:List ai} {w:ag} {F:Gs} {γ:Type} {val:γ→ai} {R:γ→ag→Prop} (pr:γ→Prop) (he:Enters P f) (hF:Fits F w)
  (h:Calls P f args.toArray w fun e w'=>∃ c,e = .returned (val c)∧R c w'∧pr c∧Ext w w') (hR:∀ c w' w'',UU w' w''→R c w'→R c w''):QT P f args w F val (fun c F=>(∀ w,N4 F w→R c w)∧pr c):=by
 refine⟨he,h.mono ?_⟩
 rintro e w' ⟨c,rfl,hr,hpr,hx⟩
 refine⟨c,fun b=>if b<w.heap.size then F b else match w'.heap[b]? with | some (.cells c T _)=>if T=248 then some (c,248) else none | _=>none,rfl,.of hx,?_,?_,⟨?_,?_⟩,?_⟩
 ·intro b x hb
  show(if b<w.heap.size then _ else _)=_
  rw [if_pos (hF.lt hb)];exact hb
 ·intro b hb
  show(if b<w.heap.size then _ else _)=_
  rw [if_pos hb]
 ·intro b c T hb
  by_cases hlt:b<w.heap.size
  ·rw [if_pos hlt] at hb
   obtain ⟨fr,e⟩:=hF.row b c T hb
   exact⟨fr,by rw [hx.block b hlt];exact e⟩
  ·rw [if_neg hlt] at hb
   split at hb
   ·rename_i c' T' fr heq
    split at hb
    ·rename_i hT;cases hb;exact⟨fr,by rw [heq,hT]⟩
    ·cases hb
   ·cases hb
 ·intro b c fr hb
  show(if b<w.heap.size then _ else _)=_
  by_cases hlt:b<w.heap.size
  ·rw [if_pos hlt]
   rw [hx.block b hlt] at hb
   exact hF.all b c fr hb
  ·rw [if_neg hlt,hb];simp
 ·intro F'' hle
  refine⟨fun w'' hw''=>?_,hpr⟩
  refine hR c w' w'' (fun b c fr hb=>?_) hr
  refine hw'' b c _ (hle b _ ?_)
  show(if b<w.heap.size then _ else _)=_
  by_cases hlt:b<w.heap.size
  ·rw [if_pos hlt];rw [hx.block b hlt] at hb;exact hF.all b c fr hb
  ·rw [if_neg hlt,hb];simp
structure Bg where
 s:Int
 q:Option Addr
 n:Nat
 cap:Nat
@[reducible] def Bg.v (g:Bg):ai:=.agg #[.int .i64 g.s,.slice g.q g.n g.cap]
def Jv (F:Gs) (g:Bg) (z:Int):Prop:=∀ w,N4 F w→Yh w g.s g.q g.n g.cap z
theorem Jv.le {F F':Gs} {g:Bg} {z:Int} (h:Jv F g z) (k:Gs.le F F'):Jv F' g z:=fun w hw=>h w (hw.le k)
theorem Jv.at {F:Gs} {g:Bg} {z:Int} (h:Jv F g z) {w:ag} (hw:Fits F w):XQ w g.v z:=⟨_,_,_,_,rfl,h w hw.r⟩
theorem Jv.small (F:Gs) {z:Int} (h0 : -9223372036854775808≤z) (h1:z≤9223372036854775807):Jv F ⟨z,none,0,0⟩ z:=fun _ _=>.inl ⟨rfl,rfl,rfl,rfl,h0,h1⟩
abbrev Xh (P:bm) (f:FuncId) (args:List ai) (w:ag) (F:Gs) (z:Int):Prop:=QT P f args w F Bg.v (fun g F=>Jv F g z)
theorem Xh.of {P:bm} {f:FuncId} {args:List ai} {w:ag} {F:Gs} {z:Int} (he:Enters P f) (hF:Fits F w) (h:Calls P f args.toArray w fun e w'=>ZP w (fun v w'=>XQ w' v z) e w'):Xh P f args w F z:=by
 refine(QT.lift (fun _=>True) he hF (val:=Bg.v) (R:=fun(g:Bg) w=>Yh w g.s g.q g.n g.cap z) (h.mono ?_) (fun c w' w'' hs hr=>hr.Wn hs)).imp fun c F' hf=>⟨c,rfl,fun F'' hle=>Jv.le hf.1 hle⟩
 rintro e w' ⟨v,rfl,⟨s,q,n,cap,rfl,hp⟩,hx⟩
 exact⟨⟨s,q,n,cap⟩,rfl,hp,trivial,hx⟩
abbrev QZ [Dr] (P:bm) (f:FuncId) (args:List ai) (w:ag) (F:Gs) (v:ai):Prop:=QT P f args w F (fun(_:Unit)=>v) (fun _ _=>True)
theorem QZ.of {P:bm} {f:FuncId} {args:List ai} {w:ag} {F:Gs} {v:ai} (he:Enters P f) (hF:Fits F w) (h:Calls P f args.toArray w fun e w'=>e = .returned v∧Ext w w'):QZ P f args w F v:=by
 have:=QT.lift (γ:=Unit) (val:=fun _=>v) (R:=fun _ _=>True) (fun _=>True) he hF (h.mono fun e w' ⟨h1,h2⟩=>⟨(),h1,trivial,trivial,h2⟩) (fun _ _ _ _ h=>h)
 exact this.imp fun c F' _=>⟨(),rfl,fun _ _=>trivial⟩
section
variable {w:ag} {F:Gs} {g g':Bg} {a b:Int}
theorem DX (hF:Fits F w) (h:Jv F g a):QZ Tryz.prog 171 [g.v] w F (.int .i64 (E7 a)) :=
 .of (enters_of Tryz.func171 (by rfl) rfl) hF (TE _ a w (h.at hF))
theorem EK (hF:Fits F w) (h:Jv F g a):Xh Tryz.prog 172 [g.v] w F (-a) :=
 .of (enters_of Tryz.func172 (by rfl) rfl) hF (SC _ a w (h.at hF))
theorem zi (hF:Fits F w) (h:Jv F g a):Xh Tryz.prog 228 [g.v] w F (Jk a) :=
 .of (enters_of Tryz.func228 (by rfl) rfl) hF (xA _ a w (h.at hF))
theorem Fy (hF:Fits F w) (h:Jv F g a) (h':Jv F g' b) (ha:sz a≤1000000000) (hb:sz b≤1000000000):Xh Tryz.prog 212 [g.v,g'.v] w F (a+b) :=
 .of (enters_of Tryz.func212 (by rfl) rfl) hF (Fz _ _ a b w (h.at hF) (h'.at hF) ha hb)
theorem gm (hF:Fits F w) (h:Jv F g a) (h':Jv F g' b) (ha:sz a≤1000000000) (hb:sz b≤1000000000):Xh Tryz.prog 248 [g.v,g'.v] w F (a - b) :=
 .of (enters_of Tryz.func248 (by rfl) rfl) hF (FK _ _ a b w (h.at hF) (h'.at hF) ha hb)
theorem Hr (hF:Fits F w) (h:Jv F g a) (h':Jv F g' b) (ha:sz a≤1000000000) (hb:sz b≤1000000000):Xh Tryz.prog 198 [g.v,g'.v] w F (a*b) :=
 .of (enters_of Tryz.func198 (by rfl) rfl) hF (jM _ _ a b w (h.at hF) (h'.at hF) ha hb)
theorem pF (hF:Fits F w) (h:Jv F g a) (h':Jv F g' b) (ha:sz a≤1000000000) (hb:sz b≤1000000000):QZ Tryz.prog 203 [g.v,g'.v] w F (.int .i64 (Zd a b)) :=
 .of (enters_of Tryz.func203 (by rfl) rfl) hF (jz _ _ a b w (h.at hF) (h'.at hF) ha hb)
theorem NL {n:Int} (hF:Fits F w) (h0 : -9223372036854775808≤n) (h1:n≤9223372036854775807):Xh Tryz.prog 169 [.int .i64 n] w F n :=
 .of (enters_of Tryz.func169 (by rfl) rfl) hF (yf n w h0 h1)
end
structure Sr where
 q:Option Addr
 n:Nat
 cap:Nat
@[reducible] def Sr.v (r:Sr):ai:=.slice r.q r.n r.cap
def Kh (F:Gs) (r:Sr) (l:List Int):Prop:=(∀ w,N4 F w→SL w r.v Jc l)∧DG W l∧NZ l
theorem Kh.le {F F':Gs} {r:Sr} {l:List Int} (h:Kh F r l) (k:Gs.le F F'):Kh F' r l:=⟨fun w hw=>h.1 w (hw.le k),h.2⟩
section
variable {w:ag} {F:Gs} {g g':Bg} {a b:Int}
theorem MC (hF:Fits F w) (h:Jv F g a):QT Tryz.prog 234 [g.v] w F (fun(c:Sr×List Int)=>.tuple #[.bool (decide (a<0)),.slice c.1.q c.1.n c.1.cap]) (fun c F=>Kh F c.1 c.2∧dv W c.2=Jk a):=by
 refine(QT.lift (val:=fun(c:Sr×List Int)=>.tuple #[.bool (decide (a<0)),.slice c.1.q c.1.n c.1.cap]) (R:=fun c w=>SL w c.1.v Jc c.2) (fun c=>DG W c.2∧NZ c.2∧dv W c.2=Jk a)
  (enters_of Tryz.func234 (by rfl) rfl) hF ((Yl _ a w (h.at hF)).mono ?_) (fun c w' w'' hs hr=>hr.Wn hs)).imp fun c F' hf=>⟨c,rfl,fun F'' hle=>⟨Kh.le ⟨hf.1,hf.2.1,hf.2.2.1⟩ hle,hf.2.2.2⟩⟩
 rintro e w' ⟨_,rfl,⟨p,l,rfl,hs,h1,h2,h3⟩,hx⟩
 obtain ⟨q,cap,rfl,hq⟩:=hs
 exact⟨(⟨q,l.length,cap⟩,l),rfl,⟨q,cap,rfl,hq⟩,⟨h1,h2,h3⟩,hx⟩
theorem CE {neg:Bool} {r:Sr} {l:List Int} (hF:Fits F w) (h:Kh F r l):Xh Tryz.prog 235 [.bool neg,r.v] w F (sg neg (dv W l)) :=
 .of (enters_of Tryz.func235 (by rfl) rfl) hF (VS neg _ l w (h.1 w hF.r) h.2.1 h.2.2)
theorem UJ {r r':Sr} {la lb:List Int} (hF:Fits F w) (h:Kh F r la) (h':Kh F r' lb) (hb0:lb≠[]) (h1:la.length≤10000000000) (h2:lb.length≤10000000000) :
  QT Tryz.prog 247 [r.v,r'.v] w F (fun(c:(Sr×List Int)×(Sr×List Int))=>.tuple #[.slice c.1.1.q c.1.1.n c.1.1.cap,.slice c.2.1.q c.2.1.n c.2.1.cap])
   (fun c F=>(Kh F c.1.1 c.1.2∧Kh F c.2.1 c.2.2)∧dv W c.1.2=dv W la / dv W lb∧dv W c.2.2=dv W la%dv W lb):=by
 refine(QT.lift (val:=fun(c:(Sr×List Int)×(Sr×List Int))=>.tuple #[.slice c.1.1.q c.1.1.n c.1.1.cap,.slice c.2.1.q c.2.1.n c.2.1.cap]) (R:=fun c w=>SL w c.1.1.v Jc c.1.2∧SL w c.2.1.v Jc c.2.2)
  (fun c=>(DG W c.1.2∧NZ c.1.2)∧(DG W c.2.2∧NZ c.2.2)∧dv W c.1.2=dv W la / dv W lb∧dv W c.2.2=dv W la%dv W lb)
  (enters_of Tryz.func247 (by rfl) rfl) hF ((Aq _ _ la lb w h.2.1 h'.2.1 h.2.2 h'.2.2 (h.1 w hF.r) (h'.1 w hF.r) hb0 h1 h2).mono ?_) (fun c w' w'' hs hr=>⟨hr.1.Wn hs,hr.2.Wn hs⟩)).imp
  fun c F' hf=>⟨c,rfl,fun F'' hle=>⟨⟨Kh.le ⟨fun w hw=>(hf.1 w hw).1,hf.2.1⟩ hle,Kh.le ⟨fun w hw=>(hf.1 w hw).2,hf.2.2.1⟩ hle⟩,hf.2.2.2⟩⟩
 rintro e w' ⟨_,rfl,⟨pq,pr,lq,lr,rfl,hsq,hsr,hdq,hdr,hvq,hvr⟩,hx⟩
 obtain ⟨q,cap,rfl,hq⟩:=hsq
 obtain ⟨q',cap',rfl,hq'⟩:=hsr
 exact⟨((⟨q,lq.length,cap⟩,lq),(⟨q',lr.length,cap'⟩,lr)),rfl,⟨⟨q,cap,rfl,hq⟩,⟨q',cap',rfl,hq'⟩⟩,⟨hdq,hdr,hvq,hvr⟩,hx⟩
end
theorem B4 {a b:Int} (hb:0<b) :
  (0≤sg (decide (a<0)) (Jk a%b)→sg (decide (a<0)) (Jk a / b)=a / b∧sg (decide (a<0)) (Jk a%b)=a%b) ∧
  (sg (decide (a<0)) (Jk a%b)<0→sg (decide (a<0)) (Jk a / b) - 1=a / b∧sg (decide (a<0)) (Jk a%b)+b=a%b):=by
 have q1:=aC (Jk a) b
 have q2:=aH (Jk a) (by omega:b≠0)
 have q3:=aI (Jk a) hb
 generalize Jk a / b=q at *
 generalize hr:Jk a%b=r at *
 by_cases h:a<0
 ·rw [Bv h] at q1
  have e1:sg (decide (a<0)) r = -r:=by simp [sg,h]
  have e2:sg (decide (a<0)) q = -q:=by simp [sg,h]
  rw [e1,e2]
  constructor
  ·intro h0
   have:r=0:=by omega
   have g1 : -q*b≤a:=by rw [bK,aj];omega
   have g2:a<(-q+1)*b:=by rw [bc,bK,aj q];omega
   exact⟨(Xw hb g1 g2).symm,by rw [Zt g1 g2,bK,aj q];omega⟩
  ·intro h0
   have g1:(-q - 1)*b≤a:=by rw [eE,bK,aj q];omega
   have g2:a<(-q - 1+1)*b:=by rw [show -q - 1+1 = -q from by omega,bK,aj];omega
   exact⟨(Xw hb g1 g2).symm,by rw [Zt g1 g2,eE,bK,aj q];omega⟩
 ·rw [WJ (by omega)] at q1 hr
  have e1:sg (decide (a<0)) r=r:=by simp [sg,h]
  have e2:sg (decide (a<0)) q=q:=by simp [sg,h]
  rw [e1,e2]
  constructor
  ·intro _
   have g1:q*b≤a:=by rw [aj];omega
   have g2:a<(q+1)*b:=by rw [bc,aj q];omega
   exact⟨(Xw hb g1 g2).symm,by rw [Zt g1 g2,aj q];omega⟩
  ·intro h0;omega
theorem Yi (x:Int):E7 x<0↔x<0:=by unfold E7;split<;>(try split)<;>omega
theorem S8 (a b:Int):sz (Jk a / b)≤sz a:=by
 rw [← E6 a]
 apply Yx
 exact bh _ _
theorem xS (n:Bool) (x:Int):sz (sg n x)=sz x:=by unfold sg;split<;>simp [Yd]
theorem FJ {a b:Int} (hb:0<b):sz (a%b)≤sz b:=by
 apply Yx
 have:=aH a (by omega:b≠0)
 have:=aI a hb
 omega
abbrev Rc (P:bm) (f:FuncId) (args:List ai) (w:ag) (F:Gs) (y z:Int):Prop:=QT P f args w F (fun(c:Bg×Bg)=>.tuple #[c.1.v,c.2.v]) (fun c F=>Jv F c.1 y∧Jv F c.2 z)
theorem Ao {w:ag} {F:Gs} {g g':Bg} {a b:Int} (hF:Fits F w) (h:Jv F g a) (h':Jv F g' b) (hb0:0<b) (hza:sz a≤1000000000) (hzb:sz b≤1000000000) (hcase:g.q.isNone=true→g'.q.isNone=true→(g.s != -9223372036854775808)=false) :
  Rc Tryz.prog 199 [g.v,g'.v] w F (a / b) (a%b):=by
 refine QT.intro (G:=fun F=>Jv F g a∧Jv F g' b) Tryz.func199 rfl (by rfl) rfl rfl hF (fun F' hF'=>⟨h.le hF',h'.le hF'⟩)<|QG<|QB ?_
 refine Q2 rfl (vs:=[_,_]) rfl (fun b2=>?_)
 refine Q2 rfl (vs:=[_,_]) rfl (fun b3=>?_)
 refine Qg Ze (fun b4=>?_)
 refine Qg Ze (fun b5=>?_)
 refine wC<|QG ?_
 refine VZ 28 (.bool false) ?_ ?_
 ·
  refine QB<|QA (QI rfl G7 Km)<|QA (Qm rfl Km .u3 (.skip .h1))<|QA (WB rfl rfl Ye)<|wA rfl ?_
  refine Qn (t:=19) rfl (fun hb19=>?_) (fun hb19=>?_)
  ·
   refine QL rfl rfl<|QA (QI rfl G7 Km)<|QL rfl rfl<|QA (Qm rfl Km .u2 (.skip .h1))<|QL rfl rfl<|QA (WB rfl rfl Ye)<|QA (Qi rfl rfl rfl)<|wA rfl ?_
   refine Qn (t:=24) rfl (fun hb24=>?_) (fun hb24=>?_)
   ·
    refine QL rfl rfl<|QA (QI rfl B0 Qp)<|QL rfl rfl<|QA (Qm rfl Qp .u3 .h1)<|QL rfl rfl<|QA (QU rfl rfl rfl)<|QA (Qi rfl rfl rfl)<|QE ?_
    exact Js (exd 15 rfl rfl) (congrArg (fun b=>some (ak b)) (hcase hb19 hb24)) wG (fun _ h=>h)
   ·
    refine QN rfl rfl rfl<|QN rfl rfl rfl<|QN rfl rfl rfl<|QA (Qh rfl rfl rfl)<|QE ?_
    exact Js (exd 15 rfl rfl) rfl wG (fun _ h=>h)
  ·
   refine QN rfl rfl rfl<|QN rfl rfl rfl<|QN rfl rfl rfl<|QA (Qh rfl rfl rfl)<|wA rfl<|QN rfl rfl rfl<|QN rfl rfl rfl<|QN rfl rfl rfl<|QA (Qh rfl rfl rfl)<|QE ?_
   exact Js (exd 14 rfl rfl) rfl wG (fun _ h=>h)
 ·
  refine YQ rfl ?_
  ·
   refine QO<|QC<|wE<|QA (QJ (vs:=[_,_]) rfl QY .u3 .h2 rfl) ?_
   refine QH rfl (fun w F hF ⟨ha,hb⟩=>MC hF (by assumption)) (fun c53=>?_);rcases c53 with ⟨v53,l53⟩;dsimp only
   refine JO _ (fun w F hF ⟨⟨ha,hb⟩,⟨h53,h53p⟩⟩=>bF h53.2 h53p) (fun p53=>?_)
   have hl53:=Xu p53.1.1 p53.1.2 p53.2 hza
   refine wA rfl<|QA (QM rfl rfl)<|QA (QM rfl rfl)<|wB rfl<|wD rfl<|wE<|QA (QJ (vs:=[_,_]) rfl QY .u2 .h2 rfl) ?_
   refine QH rfl (fun w F hF ⟨⟨ha,hb⟩,⟨h53,h53p⟩⟩=>MC hF (by assumption)) (fun c58=>?_);rcases c58 with ⟨v58,l58⟩;dsimp only
   refine JO _ (fun w F hF ⟨⟨⟨ha,hb⟩,⟨h53,h53p⟩⟩,⟨h58,h58p⟩⟩=>bF h58.2 h58p) (fun p58=>?_)
   have hl58:=Xu p58.1.1 p58.1.2 p58.2 hzb
   have hb58:l58≠[]:=by rintro rfl;have:=p58.2;rw [WJ (by omega)] at this;simp at this;omega
   refine wA rfl<|QA (QM rfl rfl)<|QA (QM rfl rfl)<|wB rfl<|wD rfl<|wF rfl<|wA rfl ?_
   refine QH rfl (fun w F hF ⟨⟨⟨ha,hb⟩,⟨h53,h53p⟩⟩,⟨h58,h58p⟩⟩=>UJ hF (by assumption) (by assumption) hb58 (by omega) (by omega)) (fun c64=>?_);rcases c64 with ⟨⟨v64,l64⟩,v64_,l64_⟩;dsimp only
   refine JO _ (fun w F hF ⟨⟨⟨⟨ha,hb⟩,⟨h53,h53p⟩⟩,⟨h58,h58p⟩⟩,⟨⟨h64,h64_⟩,h64p⟩⟩=>bF h64.2 (bF h64_.2 h64p)) (fun p64=>?_)
   rw [p53.2,p58.2,WJ (show 0≤b by omega)] at p64
   refine wA rfl<|QA (QM rfl rfl)<|QA (QM rfl rfl)<|wB rfl<|wD rfl<|wF rfl<|wA rfl ?_
   refine QH rfl (fun w F hF ⟨⟨⟨⟨ha,hb⟩,⟨h53,h53p⟩⟩,⟨h58,h58p⟩⟩,⟨⟨h64,h64_⟩,h64p⟩⟩=>CE hF (by assumption)) (fun g69=>?_)
   refine wA rfl<|wA rfl ?_
   refine QH rfl (fun w F hF ⟨⟨⟨⟨⟨ha,hb⟩,⟨h53,h53p⟩⟩,⟨h58,h58p⟩⟩,⟨⟨h64,h64_⟩,h64p⟩⟩,h69⟩=>CE hF (by assumption)) (fun g72=>?_)
   refine Qg Ze (fun b14=>?_)
   refine Qg Ze (fun b15=>?_)
   refine QR (vs:=[_,_]) rfl rfl rfl QY rfl .u1 .h2 wL<|QR (vs:=[_,_]) rfl rfl rfl QY rfl .here .h2 wL<|wC<|QG<|wE<|QA (QJ (vs:=[_,_]) rfl QY .here .h2 rfl) ?_
   refine QH rfl (fun w F hF ⟨⟨⟨⟨⟨⟨ha,hb⟩,⟨h53,h53p⟩⟩,⟨h58,h58p⟩⟩,⟨⟨h64,h64_⟩,h64p⟩⟩,h69⟩,h72⟩=>DX hF (by assumption)) (fun _=>?_)
   refine QA (QU rfl rfl rfl)<|QE<|QC ?_
   have hsz72:sz (sg (decide (a<0)) (dv W l64_))≤1000000000:=by rw [xS,p64.2.2.2];exact ab (FJ hb0) hzb
   have hsz69:sz (sg (decide (a<0)) (dv W l64))≤1000000000:=by rw [xS,p64.2.2.1];exact ab (S8 a b) hza
   refine QQ rfl (fun hc=>?_) (fun hc=>?_)
   ·
    refine Xr 6 wG mixed (by kernel_rfl) (by kernel_rfl) ?_
    simp only [aU,bA,aV,aR]
    refine QK (QJ (vs:=[_,_]) rfl QY .u1 .h2 rfl) ?_
    refine Qd rfl (fun w F hF h9=>NL hF (by omega) (by omega)) (fun g77=>?_)
    refine Qd rfl (fun w F hF ⟨⟨⟨⟨⟨⟨⟨⟨ha,hb⟩,⟨h53,h53p⟩⟩,⟨h58,h58p⟩⟩,⟨⟨h64,h64_⟩,h64p⟩⟩,h69⟩,h72⟩,_⟩,h77⟩=>gm hF (by assumption) (by assumption) hsz69 (by decide)) (fun g78=>?_)
    refine QK (QJ (vs:=[_,_]) rfl QY .here .h2 rfl)<|QK (QJ (vs:=[_,_]) rfl QY .u4 .h2 rfl) ?_
    refine Qd rfl (fun w F hF ⟨⟨⟨⟨⟨⟨⟨⟨⟨ha,hb⟩,⟨h53,h53p⟩⟩,⟨h58,h58p⟩⟩,⟨⟨h64,h64_⟩,h64p⟩⟩,h69⟩,h72⟩,_⟩,h77⟩,h78⟩=>Fy hF (by assumption) hb hsz72 hzb) (fun g81=>?_)
    refine VF<|QR (vs:=[_,_]) rfl rfl rfl QY rfl .u1 .h2 wL<|QR (vs:=[_,_]) rfl rfl rfl QY rfl .here .h2 wL<|wC<|QG<|JV (.cons_cons _ (.cons_cons _ (.cons _ (.cons _ (.cons_cons _ (.cons_cons _ .slnil)))))) mixed (by kernel_rfl)<|QK (QJ (vs:=[_,_]) rfl QY .u1 .h2 rfl)<|QK (QJ (vs:=[_,_]) rfl QY .here .h2 rfl)<|JE (vs:=[_,_]) rfl rfl rfl QY rfl .u3 (.cons_cons _ (.cons_cons _ (.cons _ (.cons_cons _ (.cons_cons _ .slnil))))) (fun _ h=>h) .h2 wL<|JE (vs:=[_,_]) rfl rfl rfl QY rfl .u2 (.cons_cons _ (.cons_cons _ (.cons _ (.cons_cons _ (.cons_cons _ .slnil))))) (fun _ h=>h) .h2 wL<|Q3<|QC<|QS ?_
    exact Ja (⟨g78,g81⟩) rfl (.Jd (c:=[_,_]) rfl QY .u3 (.Jd (c:=[_,_]) rfl QY .u2 .nil)) rfl (fun F ⟨⟨⟨⟨⟨⟨⟨⟨⟨⟨ha,hb⟩,⟨h53,h53p⟩⟩,⟨h58,h58p⟩⟩,⟨⟨h64,h64_⟩,h64p⟩⟩,h69⟩,h72⟩,_⟩,h77⟩,h78⟩,h81⟩=>(by have hd:=(B4 hb0).2 (by rw [← p64.2.2.2];exact(Yi _).1 (by simpa using hc));rw [p64.2.2.1] at h78;rw [p64.2.2.2] at h81;rw [hd.1] at h78;rw [hd.2] at h81;exact⟨h78,h81⟩))
   ·
    refine QO<|QC<|QG<|JV (.cons_cons _ (.cons_cons _ (.cons _ (.cons _ (.cons_cons _ (.cons_cons _ .slnil)))))) mixed (by kernel_rfl)<|QK (QJ (vs:=[_,_]) rfl QY .u1 .h2 rfl)<|QK (QJ (vs:=[_,_]) rfl QY .here .h2 rfl)<|JE (vs:=[_,_]) rfl rfl rfl QY rfl .u3 (.cons_cons _ (.cons_cons _ (.cons _ (.cons_cons _ (.cons_cons _ .slnil))))) (fun _ h=>h) .h2 wL<|JE (vs:=[_,_]) rfl rfl rfl QY rfl .u2 (.cons_cons _ (.cons_cons _ (.cons _ (.cons_cons _ (.cons_cons _ .slnil))))) (fun _ h=>h) .h2 wL<|Q3<|QC<|QS ?_
    exact Ja (⟨g69,g72⟩) rfl (.Jd (c:=[_,_]) rfl QY .u3 (.Jd (c:=[_,_]) rfl QY .u2 .nil)) rfl (fun F ⟨⟨⟨⟨⟨⟨⟨ha,hb⟩,⟨h53,h53p⟩⟩,⟨h58,h58p⟩⟩,⟨⟨h64,h64_⟩,h64p⟩⟩,h69⟩,h72⟩,_⟩=>(by have hd:=(B4 hb0).1 (by rw [← p64.2.2.2];have:=mt (Yi _).2 (by simpa using hc);omega);rw [p64.2.2.1] at h69;rw [p64.2.2.2] at h72;rw [hd.1] at h69;rw [hd.2] at h72;exact⟨h69,h72⟩))
theorem B5 {w:ag} {F:Gs} {g g':Bg} {a b:Int} (hF:Fits F w) (h:Jv F g a) (h':Jv F g' b) (hb0:0<b) (hza:sz a≤1000000000) (hzb:sz b≤1000000000) :
  Rc Tryz.prog 199 [g.v,g'.v] w F (a / b) (a%b):=by
 by_cases hs:g.q.isNone=true∧g'.q.isNone=true∧(g.s != -9223372036854775808)=true
 ·obtain ⟨s,q,n,cap⟩:=g
  obtain ⟨s',q',n',cap'⟩:=g'
  have hp:=h w hF.r
  have hp':=h' w hF.r
  obtain ⟨h1,h2,h3⟩:=hs
  dsimp only at *
  rcases hp.isNone with ⟨rfl,rfl,rfl,rfl,k0,k1⟩ | ⟨_,_,rfl⟩
  ·rcases hp'.isNone with ⟨rfl,rfl,rfl,rfl,k0',k1'⟩ | ⟨_,_,rfl⟩
   ·have hm:s≠-9223372036854775808:=by simpa using h3
    refine(QT.lift (val:=fun(c:Bg×Bg)=>.tuple #[c.1.v,c.2.v]) (R:=fun c w=>Yh w c.1.s c.1.q c.1.n c.1.cap (s / s')∧Yh w c.2.s c.2.q c.2.n c.2.cap (s%s')) (fun _=>True) (enters_of Tryz.func199 (by rfl) rfl) hF
     ((Sa s s' w (by omega) k1 hb0 k1').mono ?_) (fun c w' w'' hs hr=>⟨hr.1.Wn hs,hr.2.Wn hs⟩)).imp fun c F' hf=>⟨c,rfl,fun F'' hle=>⟨Jv.le (fun w hw=>(hf.1 w hw).1) hle,Jv.le (fun w hw=>(hf.1 w hw).2) hle⟩⟩
    rintro e w' ⟨_,rfl,⟨v,v',rfl,⟨s1,q1,n1,cap1,rfl,hp1⟩,⟨s2,q2,n2,cap2,rfl,hp2⟩⟩,hx⟩
    exact⟨(⟨s1,q1,n1,cap1⟩,⟨s2,q2,n2,cap2⟩),rfl,⟨hp1,hp2⟩,trivial,hx⟩
   ·cases h2
  ·cases h1
 ·refine Ao hF h h' hb0 hza hzb fun h1 h2=>?_
  cases hv:(g.s != -9223372036854775808) with
  |false=>rfl
  |true=>exact absurd ⟨h1,h2,hv⟩ hs
theorem Dc {a b:Int} (h:b ∣ a) : -a / -b=a / b:=by
 obtain ⟨c,rfl⟩:=h
 by_cases hb:b=0
 ·subst hb;simp
 ·rw [Int.ediv_neg,← iG,fj _ hb,fj _ hb];omega
theorem cH:sz 1≤1000000000:=by decide
theorem xi {w:ag} {F:Gs} {g g':Bg} {a b:Int} (hF:Fits F w) (h:Jv F g a) (h':Jv F g' b) (hb0:b≠0) (hd:b ∣ a) (hza:sz a≤1000000000) (hzb:sz b≤1000000000) :
  Xh Tryz.prog 236 [g.v,g'.v] w F (a / b):=by
 refine QT.intro (G:=fun F=>Jv F g a∧Jv F g' b) Tryz.func236 rfl (by rfl) rfl rfl hF (fun F' hF'=>⟨h.le hF',h'.le hF'⟩)<|QG<|QB ?_
 refine Q2 rfl (vs:=[_,_]) rfl (fun b2=>?_)
 refine Q2 rfl (vs:=[_,_]) rfl (fun b3=>?_)
 refine Qg Ze (fun b4=>?_)
 refine wC<|QG<|wE<|QA (QJ (vs:=[_,_]) rfl QY .u1 .h2 rfl) ?_
 refine QH rfl (fun w F hF ⟨ha,hb⟩=>DX hF (by assumption)) (fun _=>?_)
 refine QA (QU rfl rfl rfl)<|QE<|QC ?_
 refine QQ rfl (fun hc=>?_) (fun hc=>?_)
 ·
  refine Xr 4 wG mixed (by kernel_rfl) (by kernel_rfl) ?_
  simp only [aU,bA,aV,aR]
  refine QK (QJ (vs:=[_,_]) rfl QY .u2 .h2 rfl) ?_
  refine Qd rfl (fun w F hF ⟨⟨ha,hb⟩,_⟩=>EK hF (by assumption)) (fun g11=>?_)
  refine QK (QJ (vs:=[_,_]) rfl QY .u1 .h2 rfl) ?_
  refine Qd rfl (fun w F hF ⟨⟨⟨ha,hb⟩,_⟩,h11⟩=>EK hF (by assumption)) (fun g13=>?_)
  refine VF<|QR (vs:=[_,_]) rfl rfl rfl QY rfl .u2 .h2 wL<|QR (vs:=[_,_]) rfl rfl rfl QY rfl .u1 .h2 wL<|wC<|wE<|QA (QJ (vs:=[_,_]) rfl QY .u2 .h2 rfl)<|QA (QJ (vs:=[_,_]) rfl QY .u1 .h2 rfl) ?_
  refine QH rfl (fun w F hF h9=>B5 hF h9.1.2 h9.2 (by have:=(Yi b).1 (by simpa using hc);omega) (by rw [Yd];exact hza) (by rw [Yd];exact hzb)) (fun c17=>?_);rcases c17 with ⟨g17,g17_⟩;dsimp only
  refine wA rfl<|QA (QM rfl rfl)<|QA (QM rfl rfl) ?_
  refine Qg Ze (fun b5=>?_)
  refine Qg Ze (fun b6=>?_)
  refine QR (vs:=[_,_]) rfl rfl rfl QY rfl .u1 .h2 wL<|QR (vs:=[_,_]) rfl rfl rfl QY rfl .here .h2 wL<|wC<|wE<|QA (QJ (vs:=[_,_]) rfl QY .u1 .h2 rfl)<|QR (vs:=[_,_]) rfl rfl rfl QY rfl .u2 .h2 wL<|wC<|QS ?_
  exact QP (_) rfl (.Jd (c:=[_,_]) rfl QY .u2 .nil) rfl (fun F ⟨⟨⟨⟨⟨ha,hb⟩,_⟩,h11⟩,h13⟩,⟨h17,h17_⟩⟩=>(by rw [show -a / -b=a / b from Dc hd] at h17;exact h17))
 ·
  refine QO<|QC<|wE<|QA (QJ (vs:=[_,_]) rfl QY .u2 .h2 rfl)<|QA (QJ (vs:=[_,_]) rfl QY .u1 .h2 rfl) ?_
  refine QH rfl (fun w F hF h9=>B5 hF h9.1.1 h9.1.2 (by have:=mt (Yi b).2 (by simpa using hc);omega) hza hzb) (fun c17=>?_);rcases c17 with ⟨g17,g17_⟩;dsimp only
  refine wA rfl<|QA (QM rfl rfl)<|QA (QM rfl rfl) ?_
  refine Qg Ze (fun b5=>?_)
  refine Qg Ze (fun b6=>?_)
  refine QR (vs:=[_,_]) rfl rfl rfl QY rfl .u1 .h2 wL<|QR (vs:=[_,_]) rfl rfl rfl QY rfl .here .h2 wL<|wC<|wE<|QA (QJ (vs:=[_,_]) rfl QY .u1 .h2 rfl)<|QR (vs:=[_,_]) rfl rfl rfl QY rfl .u2 .h2 wL<|wC<|QS ?_
  exact QP (_) rfl (.Jd (c:=[_,_]) rfl QY .u2 .nil) rfl (fun F h9=>h9.2.1)
theorem OD (x:Int) (h:E7 x≠0):x≠0:=by rintro rfl;exact h rfl
theorem OE (x:Int) (h:E7 x=0):x=0:=by unfold E7 at h;split at h<;>(try split at h)<;>omega
structure pV (a b:Int) where
 x:Int
 y:Int
 gx:Bg
 gy:Bg
 hx:0≤x
 hy:0≤y
 hg:bV x y=bV a b
 sx:sz x≤1000000000
 sy:sz y≤1000000000
theorem zM {w:ag} {F:Gs} {g g':Bg} {a b:Int} (hF:Fits F w) (h:Jv F g a) (h':Jv F g' b) (hza:sz a≤1000000000) (hzb:sz b≤1000000000) :
  Xh Tryz.prog 163 [g.v,g'.v] w F (bV a b):=by
 refine QT.intro (G:=fun F=>Jv F g a∧Jv F g' b) Tryz.func163 rfl (by rfl) rfl rfl hF (fun F' hF'=>⟨h.le hF',h'.le hF'⟩)<|QG<|QB ?_
 refine Q2 rfl (vs:=[_,_]) rfl (fun b2=>?_)
 refine Q2 rfl (vs:=[_,_]) rfl (fun b3=>?_)
 refine Qg Ze (fun b4=>?_)
 refine wC<|QG<|Xr 4 wG mixed (by kernel_rfl) (by kernel_rfl) ?_
 simp only [aU,bA,aV,aR]
 refine QK (QJ (vs:=[_,_]) rfl QY .u2 .h2 rfl) ?_
 refine Qd rfl (fun w F hF ⟨ha,hb⟩=>zi hF (by assumption)) (fun g8=>?_)
 refine QK (QJ (vs:=[_,_]) rfl QY .u1 .h2 rfl) ?_
 refine Qd rfl (fun w F hF ⟨⟨ha,hb⟩,h8⟩=>zi hF (by assumption)) (fun g10=>?_)
 refine VF<|QR (vs:=[_,_]) rfl rfl rfl QY rfl .u2 .h2 wL<|QR (vs:=[_,_]) rfl rfl rfl QY rfl .u1 .h2 wL<|wC<|QG<|QX ?_
 refine Xb (ι:=pV a b) (fun i=>[(2,.pointer (some ⟨b2,0,none⟩)),(3,.pointer (some ⟨b3,0,none⟩)),(4,.pointer (some ⟨b4,0,none⟩))]) (fun i=>[(b4,.cells #[.int .i64 0,.slice none 0 0] 128 (0,0)),(b3,.cells #[.int .i64 i.gy.s,.slice i.gy.q i.gy.n i.gy.cap] 128 (0,0)),(b2,.cells #[.int .i64 i.gx.s,.slice i.gx.q i.gx.n i.gx.cap] 128 (0,0))])
  (fun i F=>Jv F i.gx i.x∧Jv F i.gy i.y) (fun i=>i.y.toNat) ⟨Jk a,Jk b,g8,g10,by rw [KR];omega,by rw [KR];omega,by rw [KR,KR];rfl,by rw [E6];exact hza,by rw [E6];exact hzb⟩ wM wG (fun _ ⟨⟨_,h8⟩,h10⟩=>⟨h8,h10⟩) (fun i=>?_)
 refine QG<|wE<|QA (QJ (vs:=[_,_]) rfl QY .u1 .h2 rfl) ?_
 refine QH rfl (fun w F hF ⟨hX,hY⟩=>DX hF (by assumption)) (fun _=>?_)
 refine QA (QU rfl rfl rfl)<|QE<|QC ?_
 refine QQ rfl (fun hc=>?_) (fun hc=>?_)
 ·
  refine QO<|QC<|QX<|wE<|QA (QJ (vs:=[_,_]) rfl QY .u2 .h2 rfl)<|QA (QJ (vs:=[_,_]) rfl QY .u1 .h2 rfl) ?_
  refine QH rfl (fun w F hF h9=>B5 hF h9.1.1 h9.1.2 (by have:=i.hy;have:=OD i.y (by simpa using hc);omega) i.sx i.sy) (fun c17=>?_);rcases c17 with ⟨g17,g17_⟩;dsimp only
  refine wA rfl<|QA (QM rfl rfl)<|QA (QM rfl rfl) ?_
  refine Qg Ze (fun b5=>?_)
  refine Qg Ze (fun b6=>?_)
  refine QR (vs:=[_,_]) rfl rfl rfl QY rfl .u1 .h2 wL<|QR (vs:=[_,_]) rfl rfl rfl QY rfl .here .h2 wL<|wC<|Xr 3 (.cons_cons _ (.cons_cons _ (.cons_cons _ (.cons_cons _ (.cons _ .slnil))))) mixed (by kernel_rfl) (by kernel_rfl) ?_
  simp only [aU,bA,aV,aR]
  refine QK (QJ (vs:=[_,_]) rfl QY .u3 .h2 rfl)<|QK (QJ (vs:=[_,_]) rfl QY .here .h2 rfl)<|JE (vs:=[_,_]) rfl rfl rfl QY rfl .u4 (.cons_cons _ (.cons_cons _ (.cons_cons _ (.cons_cons _ .slnil)))) (fun _ h=>h) .h2 wL<|VF<|QR (vs:=[_,_]) rfl rfl rfl QY rfl .u3 .h2 wL<|QE<|Qk ?_
  have hy0:0<i.y:=by have:=i.hy;have:=OD i.y (by simpa using hc);omega
  have hm0:=aH i.x (by omega:i.y≠0)
  have hm1:=aI i.x hy0
  refine Qo (⟨i.y,i.x%i.y,i.gy,g17_,i.hy,hm0,by rw [← i.hg,iy,Int.emod_def];first | rw [Int.gcd_sub_mul_left_left] | rw [Int.gcd_sub_mul_right_left] | rw [Int.gcd_sub_mul_left_right],i.sy,ab (FJ hy0) i.sy⟩:pV a b) (by show(i.x%i.y).toNat<i.y.toNat;omega) wM (.cons _ (.cons _ wG)) (fun _ ⟨⟨⟨_,hY⟩,_⟩,⟨_,h17⟩⟩=>⟨hY,h17⟩)
 ·
  refine Qz ?_
  repeat (first | refine Qb ?_ | refine QV (by rfl) ?_)
  refine Qc<|QC<|wE<|QA (QJ (vs:=[_,_]) rfl QY .u2 .h2 rfl)<|QR (vs:=[_,_]) rfl rfl rfl QY rfl .here .h2 wL<|wC<|QS ?_
  exact QP (_) rfl (.Jd (c:=[_,_]) rfl QY .here .nil) rfl (fun F h9=>(by have h0:i.y=0:=OE i.y (by simpa using hc);have e:=i.hg;rw [h0,Int.gcd_zero_right] at e;rw [← e,Int.natAbs_of_nonneg i.hx];exact h9.1.1))
theorem H5 (a:Int):∀ e:Nat,sz (a^e)≤e*sz a+1
 |0=>by simp;decide
 |e+1=>by
  rw [aS]
  have:=Vy (a^e) a
  have:=H5 a e
  rw [eU];omega
structure kY (K:Nat) where
 k:Int
 e:Nat
 p:Nat
 go:Bg
 gx:Bg
 hk:0≤k
 hK:k≤9223372036854775807
 hp:1≤p
 h:e+p*k.toNat=K
structure kX (K p:Nat) (k:Int) where
 e:Nat
 go:Bg
 h:e+p*(2*(k.toNat / 2))=K
theorem R2 {a:Int} {K e:Nat} (he:e≤K) (h:K*sz a≤500000000):sz (a^e)≤1000000000:=by
 have h1:=H5 a e
 have h2:=fH (sz a) he
 omega
theorem TU {w:ag} {F:Gs} {g:Bg} {a k:Int} (hF:Fits F w) (h:Jv F g a) (hk:0≤k) (hK:k≤9223372036854775807) (hz:k.toNat*sz a≤500000000) :
  Xh Tryz.prog 170 [g.v,.int .i64 k] w F (a^k.toNat):=by
 refine QT.intro (G:=fun F=>Jv F g a) Tryz.func170 rfl (by rfl) rfl rfl hF (fun F' hF'=>h.le hF')<|wE<|Q2 rfl (vs:=[_,_]) rfl (fun b2=>Qg Ze (fun b4=>wC<|wE<|QH rfl (fun w F hF ha=>NL hF (by omega) (by omega)) (fun g6=>Qg Ze (fun b5=>QR (vs:=[_,_]) rfl rfl rfl QY rfl .here .h2 wL<|wC<|QG<|QX ?_))))
 refine Xb (ι:=kY k.toNat) (fun i=>[(1,.int .i64 i.k),(2,.pointer (some ⟨b2,0,none⟩)),(4,.pointer (some ⟨b4,0,none⟩)),(5,.pointer (some ⟨b5,0,none⟩))]) (fun i=>[(b5,.cells #[.int .i64 i.go.s,.slice i.go.q i.go.n i.go.cap] 128 (0,0)),(b4,.cells #[.int .i64 0,.slice none 0 0] 128 (0,0)),(b2,.cells #[.int .i64 i.gx.s,.slice i.gx.q i.gx.n i.gx.cap] 128 (0,0))])
  (fun i F=>Jv F i.go (a^i.e)∧Jv F i.gx (a^i.p)) (fun i=>i.k.toNat) ⟨k,0,1,g6,g,hk,hK,aK _,by simp⟩ wN wG (fun _ ⟨h1,h6⟩=>⟨by simpa using h6,by show Jv _ _ (a^1);rw [aS,iw,eW];exact h1⟩) (fun i=>?_)
 refine QG<|wF rfl<|QA (QU rfl rfl rfl)<|QE<|QC ?_
 refine QQ rfl (fun hc=>?_) (fun hc=>?_)
 ·
  refine QO<|QC<|QG<|QX ?_
  have hk0:0<i.k:=by simpa using hc
  have hpk:i.p≤k.toNat:=by have:=i.h;have:=aQ i.p (show 1≤i.k.toNat by omega);omega
  have hik:=i.hk;have hiK:=i.hK
  refine Ky (ι:=kX k.toNat i.p i.k) (fun j=>[(1,.int .i64 i.k),(2,.pointer (some ⟨b2,0,none⟩)),(4,.pointer (some ⟨b4,0,none⟩)),(5,.pointer (some ⟨b5,0,none⟩))]) (fun j=>[(b5,.cells #[.int .i64 j.go.s,.slice j.go.q j.go.n j.go.cap] 128 (0,0)),(b4,.cells #[.int .i64 0,.slice none 0 0] 128 (0,0)),(b2,.cells #[.int .i64 i.gx.s,.slice i.gx.q i.gx.n i.gx.cap] 128 (0,0))])
   (fun j F=>Jv F j.go (a^j.e)∧Jv F i.gx (a^i.p)) ?_ ?_
  ·
   refine wF rfl<|QA (yQ rfl rfl (by omega))<|QA (QU rfl rfl rfl)<|QE<|QC ?_
   refine QQ rfl (fun hc=>?_) (fun hc=>?_)
   ·
    refine QB<|QA (QJ (vs:=[_,_]) rfl QY .here .h2 rfl)<|QA (QJ (vs:=[_,_]) rfl QY .u2 .h2 rfl)<|QH rfl (fun w F hF h9=>Hr hF h9.1 h9.2 (R2 (by have:=i.h;omega) hz) (R2 hpk hz)) (fun g16=>QR (vs:=[_,_]) rfl rfl rfl QY rfl .here .h2 wL<|QE ?_)
    have hodd:i.k%2=1:=by simpa using hc
    refine J0 (⟨i.e+i.p,g16,by have:=i.h;have e:i.k.toNat=2*(i.k.toNat / 2)+1:=(by omega);rw [e,iD] at this;omega⟩:kX k.toNat i.p i.k) wN wG (fun _ ⟨⟨_,hX⟩,h16⟩=>⟨by show Jv _ _ (a^(i.e+i.p));rw [eV];exact h16,hX⟩)
   ·
    refine QO ?_
    have hev:i.k%2=0:=by have:i.k%2≠1:=(by simpa using hc);omega
    refine J0 (⟨i.e,i.go,by have:=i.h;have e:i.k.toNat=2*(i.k.toNat / 2):=(by omega);rw [← e];exact this⟩:kX k.toNat i.p i.k) wN wG (fun _ h=>h)
  ·intro j
   refine wF rfl<|QA (QU rfl rfl rfl)<|QE<|QC ?_
   refine QQ rfl (fun hc=>?_) (fun hc=>?_)
   ·
    refine QB<|QA (QJ (vs:=[_,_]) rfl QY .u2 .h2 rfl)<|QA (QJ (vs:=[_,_]) rfl QY .u2 .h2 rfl)<|QH rfl (fun w F hF h9=>Hr hF h9.2 h9.2 (R2 hpk hz) (R2 hpk hz)) (fun g21=>QR (vs:=[_,_]) rfl rfl rfl QY rfl .u2 .h2 wL<|QE<|Qk<|QC<|QB<|wA rfl<|QA (OU rfl rfl)<|wB rfl<|QE ?_)
    have hk2:(i.k / 2).toNat=i.k.toNat / 2:=by omega
    refine Qo (⟨i.k / 2,j.e,i.p+i.p,j.go,g21,by omega,by omega,by have:=i.hp;omega,by rw [hk2];have:=j.h;rw [Nat.mul_left_comm] at this;rw [eU];omega⟩:kY k.toNat) (by show(i.k / 2).toNat<i.k.toNat;omega) wN wG (fun _ ⟨⟨hO,_⟩,h21⟩=>⟨hO,by show Jv _ _ (a^(i.p+i.p));rw [eV];exact h21⟩)
   ·
    refine QO<|Qk<|QC<|QB<|wA rfl<|QA (OU rfl rfl)<|wB rfl<|QE ?_
    have hk1:i.k=1:=by have:¬ 1<i.k:=(by simpa using hc);omega
    have hk2:(i.k / 2).toNat=i.k.toNat / 2:=by omega
    refine Qo (⟨i.k / 2,j.e,i.p,j.go,i.gx,by omega,by omega,i.hp,by rw [hk2];have:=j.h;have h0:i.k.toNat / 2=0:=(by omega);rw [h0] at this ⊢;simpa using this⟩:kY k.toNat) (by show(i.k / 2).toNat<i.k.toNat;omega) wN wG (fun _ h=>h)
 ·
  refine Qz ?_
  repeat (first | refine Qb ?_ | refine QV (by rfl) ?_)
  refine Qc<|QC<|wE<|QA (QJ (vs:=[_,_]) rfl QY .here .h2 rfl)<|QR (vs:=[_,_]) rfl rfl rfl QY rfl .u1 .h2 wL<|wC<|QS ?_
  exact QP (_) rfl (.Jd (c:=[_,_]) rfl QY .u1 .nil) rfl (fun F h9=>(by have h0:i.k.toNat=0:=(by have:¬ 0<i.k:=(by simpa using hc);omega);have e:=i.h;rw [h0] at e;have e2:i.e=k.toNat:=(by simpa using e);have e3:=congrArg (fun n=>Jv F i.go (a^n)) e2;exact cast e3 h9.1))
structure Fr where
 n:Bg
 d:Bg
@[reducible] def Fr.v (x:Fr):ai:=.agg #[.int .i64 x.n.s,.slice x.n.q x.n.n x.n.cap,.int .i64 x.d.s,.slice x.d.q x.d.n x.d.cap]
def JY (F:Gs) (x:Fr) (r:Rat):Prop:=Jv F x.n r.num∧Jv F x.d r.den
theorem JY.le {F F':Gs} {x:Fr} {r:Rat} (h:JY F x r) (k:Gs.le F F'):JY F' x r:=⟨h.1.le k,h.2.le k⟩
abbrev ZM (P:bm) (f:FuncId) (args:List ai) (w:ag) (F:Gs) (r:Rat):Prop:=QT P f args w F Fr.v (fun x F=>JY F x r)
def JL (r:Rat):Nat:=max (sz r.num) (sz (r.den:Int))
theorem Jl (r:Rat):sz r.num≤JL r:=ij _ _
theorem Jf (r:Rat):sz (r.den:Int)≤JL r:=ib _ _
theorem den_pos (r:Rat):(0:Int)<r.den:=by have:=r.den_pos;omega
theorem Yh.one {w:ag} {s:Int} {q:Option Addr} {n cap:Nat} {z:Int} (h:Yh w s q n cap z):(q.isNone=true→(s==1)=decide (z=1))∧(q.isNone=false→decide (z=1)=false):=by
 rcases h with ⟨rfl,rfl,rfl,rfl,_⟩ | ⟨b,off,l,rfl,_,_,_,_,_,_,_,h,hz,hb⟩
 ·exact⟨fun _=>by rw [av];simp,fun h=>(by cases h)⟩
 ·refine⟨fun h=>(by cases h),fun _=>?_⟩
  rcases h with rfl | rfl<;>simp<;>omega
structure MkI (a b:Int) where
 x:Int
 y:Int
 gx:Bg
 gy:Bg
 hy:0<y
 e:aF x y=aF a b
 sx:sz x≤1000000000
 sy:sz y≤1000000000
theorem As (x:Int):(aF x 1).num=x∧(aF x 1).den=1:=by
 rw [Rat.num_divInt,Rat.den_divInt];simp
theorem Wf {x y:Int} (h:0<y):(bV x y:Int)≠0:=by
 have:bV x y≠0:=by rw [Ne,Int.gcd_eq_zero_iff];omega
 omega
theorem UC {x y:Int} (h:0<y):sz (bV x y:Int)≤sz y:=by
 apply Yx
 have:=Int.gcd_le_right x h
 omega
theorem K8 {x y:Int} (h:0<y):(aF x y).num=x / (bV x y:Int)∧((aF x y).den:Int)=y / (bV x y:Int):=by
 rw [Rat.num_divInt,Rat.den_divInt,if_neg (by omega),Int.sign_eq_one_of_pos h,eW,iy y x]
 refine⟨rfl,?_⟩
 rw [Int.natCast_ediv,Int.natAbs_of_nonneg (by omega)]
theorem NV {w:ag} {F:Gs} {g g':Bg} {a b:Int} (hF:Fits F w) (h:Jv F g a) (h':Jv F g' b) (hb0:b≠0) (hza:sz a≤1000000000) (hzb:sz b≤1000000000) :
  ZM Tryz.prog 173 [g.v,g'.v] w F (aF a b):=by
 refine QT.intro (G:=fun F=>Jv F g a∧Jv F g' b) Tryz.func173 rfl (by rfl) rfl rfl hF (fun F' hF'=>⟨h.le hF',h'.le hF'⟩)<|QG<|QB ?_
 refine Q2 rfl (vs:=[_,_]) rfl (fun b2=>?_)
 refine Q2 rfl (vs:=[_,_]) rfl (fun b3=>?_)
 refine Qg Xs (fun b4=>?_)
 refine QE<|QC ?_
 refine Ky (ι:=MkI a b) (fun i=>[(2,.pointer (some ⟨b2,0,none⟩)),(3,.pointer (some ⟨b3,0,none⟩)),(4,.pointer (some ⟨b4,0,none⟩))]) (fun i=>[(b4,.cells #[.int .i64 0,.slice none 0 0,.int .i64 0,.slice none 0 0] 130 (0,0)),(b3,.cells #[.int .i64 i.gy.s,.slice i.gy.q i.gy.n i.gy.cap] 128 (0,0)),(b2,.cells #[.int .i64 i.gx.s,.slice i.gx.q i.gx.n i.gx.cap] 128 (0,0))]) (fun i F=>Jv F i.gx i.x∧Jv F i.gy i.y) ?_ ?_
 ·
  refine wE<|QA (QJ (vs:=[_,_]) rfl QY .u1 .h2 rfl) ?_
  refine QH rfl (fun w F hF ⟨ha,hb⟩=>DX hF (by assumption)) (fun _=>?_)
  refine QA (QU rfl rfl rfl)<|QE<|QC ?_
  refine QQ rfl (fun hc=>?_) (fun hc=>?_)
  ·
   refine Xr 4 wG mixed (by kernel_rfl) (by kernel_rfl) ?_
   simp only [aU,bA,aV,aR]
   refine QK (QJ (vs:=[_,_]) rfl QY .u2 .h2 rfl) ?_
   refine Qd rfl (fun w F hF ⟨⟨ha,hb⟩,_⟩=>EK hF (by assumption)) (fun g10=>?_)
   refine QK (QJ (vs:=[_,_]) rfl QY .u1 .h2 rfl) ?_
   refine Qd rfl (fun w F hF ⟨⟨⟨ha,hb⟩,_⟩,h10⟩=>EK hF (by assumption)) (fun g12=>?_)
   refine VF<|QR (vs:=[_,_]) rfl rfl rfl QY rfl .u2 .h2 wL<|QR (vs:=[_,_]) rfl rfl rfl QY rfl .u1 .h2 wL<|QE ?_
   have hb1:b<0:=(Yi b).1 (by simpa using hc)
   exact J0 (⟨-a,-b,g10,g12,by omega,fR a b,by rw [Yd];exact hza,by rw [Yd];exact hzb⟩:MkI a b) wM wG (fun _ ⟨⟨_,h10⟩,h12⟩=>⟨h10,h12⟩)
  ·
   refine QO ?_
   have hb1:¬ b<0:=mt (Yi b).2 (by simpa using hc)
   exact J0 (⟨a,b,g,g',by omega,rfl,hza,hzb⟩:MkI a b) wM wG (fun _ h=>h.1)
 ·intro i
  refine QG ?_
  refine ZA _ (fun w F hF h9=>(h9.2 w hF.r).one) (fun p1=>?_)
  refine VZ 20 (.bool (decide (i.y=1))) ?_ ?_
  ·
   refine QB<|QA (QI rfl G7 Km)<|QA (Qm rfl Km .u1 (.skip .h1))<|QA (WB rfl rfl Ye)<|wA rfl ?_
   refine Qn (t:=16) rfl (fun hb16=>?_) (fun hb16=>?_)
   ·
    refine QL rfl rfl<|QA (QI rfl B0 Qp)<|QL rfl rfl<|QA (Qm rfl Qp .u1 .h1)<|QL rfl rfl<|QA (QU rfl rfl rfl)<|QA (Qi rfl rfl rfl)<|QE ?_
    exact Js (exd 9 rfl rfl) (congrArg (fun b=>some (ak b)) (p1.1 hb16)) wG (fun _ h=>h)
   ·
    refine QN rfl rfl rfl<|QN rfl rfl rfl<|QN rfl rfl rfl<|QA (Qh rfl rfl rfl)<|QE ?_
    exact Js (exd 9 rfl rfl) (congrArg (fun b=>some (ak b)) (p1.2 hb16).symm) wG (fun _ h=>h)
  ·
   refine QQ rfl (fun hc=>?_) (fun hc=>?_)
   ·
    refine wE<|QA (QJ (vs:=[_,_]) rfl QY .u2 .h2 rfl)<|QA (QJ (vs:=[_,_]) rfl QY .u1 .h2 rfl)<|QA (Q7 rfl H9 Xs (.cons (vs:=[_,_]) rfl rfl rfl .h2 (.cons (vs:=[_,_]) rfl rfl rfl (.skip (.skip .h2)) .nil)))<|QR (vs:=[_,_,_,_]) rfl rfl rfl Qe rfl .here .h4 wN<|wC<|QS ?_
    exact QP (⟨i.gx,i.gy⟩) rfl (.Jd (c:=[_,_,_,_]) rfl Qe .here .nil) rfl (fun F ⟨ha,hb⟩=>(by have h1:i.y=1:=(by simpa using hc);have e:=As i.x;rw [← i.e,h1];exact⟨by rw [e.1];exact ha,by rw [e.2];have hb1:=hb;rw [h1] at hb1;exact hb1⟩))
   ·
    refine QO<|QC<|wE<|QA (QJ (vs:=[_,_]) rfl QY .u2 .h2 rfl)<|QA (QJ (vs:=[_,_]) rfl QY .u1 .h2 rfl) ?_
    refine QH rfl (fun w F hF h9=>zM hF h9.1 h9.2 i.sx i.sy) (fun g26=>?_)
    refine Qg Ze (fun b5=>?_)
    refine QR (vs:=[_,_]) rfl rfl rfl QY rfl .here .h2 wL<|wC<|QG<|JV (.cons_cons _ (.cons _ (.cons_cons _ (.cons_cons _ .slnil)))) mixed (by kernel_rfl)<|QK (QJ (vs:=[_,_]) rfl QY .u2 .h2 rfl)<|QK (QJ (vs:=[_,_]) rfl QY .here .h2 rfl) ?_
    refine Qd rfl (fun w F hF h9=>xi hF h9.1.1 h9.2 (Wf i.hy) (Int.gcd_dvd_left ..) i.sx (ab (UC i.hy) i.sy)) (fun g29=>?_)
    refine QK (QJ (vs:=[_,_]) rfl QY .u1 .h2 rfl)<|QK (QJ (vs:=[_,_]) rfl QY .here .h2 rfl) ?_
    refine Qd rfl (fun w F hF h9=>xi hF h9.1.1.2 h9.1.2 (Wf i.hy) (Int.gcd_dvd_right ..) i.sy (ab (UC i.hy) i.sy)) (fun g32=>?_)
    refine QK (Q7 rfl H9 Xs (.cons (vs:=[_,_]) rfl rfl rfl .h2 (.cons (vs:=[_,_]) rfl rfl rfl (.skip (.skip .h2)) .nil)))<|JE (vs:=[_,_,_,_]) rfl rfl rfl Qe rfl .u1 (.cons_cons _ (.cons_cons _ (.cons_cons _ .slnil))) (fun _ h=>h.1.1) .h4 wN<|Q3<|QC<|QS ?_
    exact QP (⟨g29,g32⟩) rfl (.Jd (c:=[_,_,_,_]) rfl Qe .u1 .nil) rfl (fun F h9=>(by have e:=K8 (x:=i.x) i.hy;rw [← i.e];exact⟨by rw [e.1];exact h9.1.2,by rw [e.2];exact h9.2⟩))
theorem BU {w:ag} {F:Gs} {g:Bg} {a:Int} (hF:Fits F w) (h:Jv F g a):ZM Tryz.prog 110 [g.v] w F (a:Rat):=by
 refine QT.intro (G:=fun F=>Jv F g a) Tryz.func110 rfl (by rfl) rfl rfl hF (fun F' hF'=>h.le hF')<|QG<|QB ?_
 refine Q2 rfl (vs:=[_,_]) rfl (fun b1=>?_)
 refine Qg Xs (fun b2=>?_)
 refine wC<|QG<|JV (.cons _ (.cons_cons _ .slnil)) mixed (by kernel_rfl)<|QK (QJ (vs:=[_,_]) rfl QY .here .h2 rfl) ?_
 refine Qd rfl (fun w F hF ha=>NL hF (by omega) (by omega)) (fun g4=>?_)
 refine QK (Q7 rfl H9 Xs (.cons (vs:=[_,_]) rfl rfl rfl .h2 (.cons (vs:=[_,_]) rfl rfl rfl (.skip (.skip .h2)) .nil)))<|JE (vs:=[_,_,_,_]) rfl rfl rfl Qe rfl .here (.cons_cons _ .slnil) (fun _ h=>h.1) .h4 wN<|Q3<|QC<|QS ?_
 exact QP (⟨g,g4⟩) rfl (.Jd (c:=[_,_,_,_]) rfl Qe .here .nil) rfl (fun F h9=>⟨h9.1,h9.2⟩)
theorem po {w:ag} {F:Gs} {n:Int} (hF:Fits F w) (h0 : -9223372036854775808≤n) (h1:n≤9223372036854775807):ZM Tryz.prog 188 [.int .i64 n] w F (n:Rat):=by
 refine QT.intro (G:=fun F=>True) Tryz.func188 rfl (by rfl) rfl rfl hF (fun F' hF'=>trivial)<|QG<|QB ?_
 refine Qg Xs (fun b2=>?_)
 refine wC<|wE<|wA rfl ?_
 refine QH rfl (fun w F hF _=>NL hF (by omega) (by omega)) (fun g4=>?_)
 refine QH rfl (fun w F hF ⟨_,h4⟩=>BU hF (by assumption)) (fun x5=>?_)
 refine QR (vs:=[_,_,_,_]) rfl rfl rfl Qe rfl .here .h4 wN<|wC<|QS ?_
 exact QP (_) rfl (.Jd (c:=[_,_,_,_]) rfl Qe .here .nil) rfl (fun F ⟨⟨_,h4⟩,⟨h5,h5_⟩⟩=>⟨‹_›,‹_›⟩)
theorem G6 {w:ag} {F:Gs} {x:Fr} {r:Rat} (hF:Fits F w) (h:JY F x r):QZ Tryz.prog 132 [x.v] w F (.int .i64 (E7 r.num)):=by
 refine QT.intro (G:=fun F=>JY F x r) Tryz.func132 rfl (by rfl) rfl rfl hF (fun F' hF'=>h.le hF')<|QG<|QB ?_
 refine Q2 rfl (vs:=[_,_,_,_]) rfl (fun b1=>?_)
 refine wD rfl<|wE<|QA (QI rfl ZS QY)<|QA (QJ (vs:=[_,_]) rfl QY .here .h2 rfl) ?_
 refine QH rfl (fun w F hF h9=>DX (g:=x.n) hF h9.1) (fun _=>?_)
 refine wD rfl<|QS ?_
 exact wH rfl rfl rfl (fun F h9=>trivial)
theorem Dh {w:ag} {F:Gs} {x:Fr} {r:Rat} (hF:Fits F w) (h:JY F x r):QZ Tryz.prog 166 [x.v] w F (.bool (decide ((r.den:Int)=1))):=by
 refine QT.intro (G:=fun F=>JY F x r) Tryz.func166 rfl (by rfl) rfl rfl hF (fun F' hF'=>h.le hF') ?_
 refine ZA _ (fun w F hF h=>(h.2 w hF.r).one) (fun p1=>?_)
 refine QG<|QB ?_
 refine Q2 rfl (vs:=[_,_,_,_]) rfl (fun b1=>?_)
 refine wD rfl<|wE<|QA (QI rfl ZR QY)<|QA (QI rfl G7 Km)<|QA (Qm rfl Km .here (.skip (.skip (.skip .h1))))<|QA (WB rfl rfl Ye)<|wA rfl ?_
 refine Qn (t:=7) rfl (fun hb7=>?_) (fun hb7=>?_)
 ·
  refine QL rfl rfl<|QA (QI rfl ZR QY)<|QL rfl rfl<|QA (QI rfl B0 Qp)<|QL rfl rfl<|QA (Qm rfl Qp .here (.skip (.skip .h1)))<|QL rfl rfl<|QA (QU rfl rfl rfl)<|QA (Qi rfl rfl rfl)<|wD rfl<|QS ?_
  exact wH rfl rfl (by show ak _=ak _;rw [← p1.1 hb7];first | rfl | skip) (fun F _=>trivial)
 ·
  refine QN rfl rfl rfl<|QN rfl rfl rfl<|QN rfl rfl rfl<|QN rfl rfl rfl<|QA (Qh rfl rfl rfl)<|wD rfl<|QS ?_
  exact wH rfl rfl (congrArg ak (p1.2 hb7)) (fun F _=>trivial)
theorem y6 {w:ag} {F:Gs} {x:Fr} {r:Rat} (hF:Fits F w) (h:JY F x r):ZM Tryz.prog 200 [x.v] w F (-r):=by
 refine QT.intro (G:=fun F=>JY F x r) Tryz.func200 rfl (by rfl) rfl rfl hF (fun F' hF'=>h.le hF')<|QG<|QB ?_
 refine Q2 rfl (vs:=[_,_,_,_]) rfl (fun b1=>?_)
 refine Qg Xs (fun b2=>?_)
 refine wC<|QG<|JV (.cons _ (.cons_cons _ .slnil)) mixed (by kernel_rfl)<|QK (QI rfl ZS QY)<|QK (QJ (vs:=[_,_]) rfl QY .here .h2 rfl) ?_
 refine Qd rfl (fun w F hF h9=>EK (g:=x.n) hF h9.1) (fun g5=>?_)
 refine QK (QI rfl ZR QY)<|QK (QJ (vs:=[_,_]) rfl QY .here (.skip (.skip .h2)) rfl)<|QK (Q7 rfl H9 Xs (.cons (vs:=[_,_]) rfl rfl rfl .h2 (.cons (vs:=[_,_]) rfl rfl rfl (.skip (.skip .h2)) .nil)))<|JE (vs:=[_,_,_,_]) rfl rfl rfl Qe rfl .here (.cons_cons _ .slnil) (fun _ h=>h.1) .h4 wN<|Q3<|QC<|QS ?_
 exact QP (⟨g5,x.d⟩) rfl (.Jd (c:=[_,_,_,_]) rfl Qe .here .nil) rfl (fun F h9=>⟨h9.2,h9.1.2⟩)
@[reducible] def tx (l:List UInt8):ai:=.string ⟨l.toArray⟩
theorem YX (l:List UInt8):(⟨l.toArray⟩:ByteArray).size=l.length:=by simp [eP]
theorem Gq (l:List UInt8):(⟨l.toArray⟩:ByteArray).toList=l:=by rw [ByteArray.toList_eq]
theorem IG (a b:List UInt8):(⟨a.toArray⟩++⟨b.toArray⟩:ByteArray)=⟨(a++b).toArray⟩:=by
 apply ByteArray.ext
 simp
theorem Uz (l:List UInt8) (i j:Nat):(⟨l.toArray⟩:ByteArray).extract i j=⟨((l.take j).drop i).toArray⟩:=by
 apply ByteArray.ext
 simp only [ByteArray.data_extract,List.extract_toArray,List.extract_eq_take_drop]
 rw [Array.mk.injEq,List.drop_take]
section
variable {P:bm} {N:Nat} {m:Sl} {Y:ag→Prop} {ty:aB}
theorem Zs {T yT:aB} {x y:aL} {a b:List UInt8} (hx:ev m x=some (tx a)) (hy:ev m y=some (tx b)) (h:a.length+b.length≤9223372036854775807):Qt P N m Y (.binOp .add T x y yT) ty (tx (a++b)):=by
 have:=Od (P:=P) (N:=N) (m:=m) (S:=Y) (ty:=ty) (T:=T) (yT:=yT) hx hy (by rw [YX,YX];omega)
 rw [IG] at this;exact this
theorem K3 {T yT:aB} {x y:aL} {a b:List UInt8} (hx:ev m x=some (tx a)) (hy:ev m y=some (tx b)):Qt P N m Y (.binOp .eql T x y yT) ty (.bool (a==b)) :=
 QU hx hy (by show some (ak (bR _==bR _))=_;rw [Gq,Gq])
theorem OY {T yT:aB} {x y:aL} {a b:List UInt8} (hx:ev m x=some (tx a)) (hy:ev m y=some (tx b)):Qt P N m Y (.binOp .neq T x y yT) ty (.bool (!(a==b))) :=
 QU hx hy (by show some (ak (!(bR _==bR _)))=_;rw [Gq,Gq])
theorem XF {T:aB} {x:aL} {a:List UInt8} (hx:ev m x=some (tx a)) (hT:Gu P T=true):Qt P N m Y (.call ⟨.builtin .len,#[x],#[T]⟩) ty (.int .i64 a.length):=by
 have:=Oa (P:=P) (N:=N) (S:=Y) (ty:=ty) hx hT
 rw [YX] at this;exact this
theorem WA {T:aB} {x y:aL} {a:List UInt8} {i:Nat} (hx:ev m x=some (tx a)) (hy:ev m y=some (.int .i64 (i:Int))) (hT:Gu P T=true) (hi:i<a.length):Qt P N m Y (.index T x y) ty (.int .u8 (a[i].toNat:Int)):=by
 have:=Ob (P:=P) (N:=N) (S:=Y) (ty:=ty) hx hy hT (by rw [YX];exact hi)
 simpa using this
theorem NB {T:aB} {x:aL} {lo hi:Option aL} {vl vh:Option ai} {a:List UInt8} (l h:Nat) (hx:ev m x=some (tx a)) (el:Uq m lo=some vl) (eh:Uq m hi=some vh) (hT:Gu P T=true)
  (hlo:(vl=none∧l=0)∨vl=some (.int .i64 (l:Int))) (hhi:(vh=none∧h=a.length)∨vh=some (.int .i64 (h:Int))) (h1:l≤h) (h2:h≤a.length):Qt P N m Y (.slice T x lo hi none) ty (tx ((a.take h).drop l)):=by
 have:=AK (P:=P) (N:=N) (S:=Y) (ty:=ty) hx el eh hT hlo (by rw [YX];exact hhi) h1 (by rw [YX];exact h2)
 rw [Uz] at this;exact this
theorem Hx {T:aB} {x:aL} {hi:Option aL} {vh:Option ai} {a:List UInt8} (h:Nat) (hx:ev m x=some (tx a)) (eh:Uq m hi=some vh) (hT:Gu P T=true) (hhi:vh=some (.int .i64 (h:Int))) (h2:h≤a.length):Qt P N m Y (.slice T x none hi none) ty (tx (a.take h)) :=
 NB (P:=P) (N:=N) (m:=m) (Y:=Y) (ty:=ty) (lo:=none) (vl:=none) 0 h hx rfl eh hT (.inl ⟨rfl,rfl⟩) (.inr hhi) (bH _) h2
theorem K4 {T:aB} {x:aL} {lo:Option aL} {vl:Option ai} {a:List UInt8} (l:Nat) (hx:ev m x=some (tx a)) (el:Uq m lo=some vl) (hT:Gu P T=true) (hlo:vl=some (.int .i64 (l:Int))) (h1:l≤a.length):Qt P N m Y (.slice T x lo none none) ty (tx (a.drop l)):=by
 have:=NB (P:=P) (N:=N) (m:=m) (Y:=Y) (ty:=ty) (hi:=none) (vh:=none) l a.length hx el rfl hT (.inr hlo) (.inl ⟨rfl,rfl⟩) h1 (aK _)
 rw [fW] at this;exact this
end
def JB (F:Gs):Prop:=(∃ m T,F 0=some (#[.int .i64 m],T))∧∃ T,F 5=some ((Lib.pow10Tab.map fun z=>aq .u64 z).toArray,T)
theorem JB.le {F F':Gs} (h:JB F) (k:Gs.le F F'):JB F':=by
 obtain ⟨⟨m,T,h1⟩,T',h2⟩:=h
 exact⟨⟨m,T,k _ _ h1⟩,T',k _ _ h2⟩
theorem JB.max {F:Gs} {w:ag} (hF:Fits F w) (h:JB F):∃ m,w.cell? ⟨0,0,none⟩=some (.int .i64 m):=by
 obtain ⟨⟨m,T,h1⟩,_⟩:=h
 obtain ⟨fr,e⟩:=hF.row _ _ _ h1
 exact⟨m,by simp [eC,e]⟩
theorem JB.Um {F:Gs} {w:ag} (hF:Fits F w) (h:JB F):ie Tryz.prog w "internal/strconv.uint64pow10" .u64 iz:=by
 obtain ⟨_,T,h2⟩:=h
 obtain ⟨fr,e⟩:=hF.row _ _ _ h2
 have hg:Tryz.prog.globalNamed "internal/strconv.uint64pow10" = some 5:=by kernel_rfl
 unfold ie World.var?
 rw [hg]
 simp only [Option.bind_some,e]
theorem Nt (w:ag) (e:aB) (s:ByteArray):Ext w (Lib.bytesWorld w e s) :=
 ⟨rfl,rfl,rfl,by rw [Lib.bytesWorld_size];omega,fun k hk=>Lib.bytesWorld_at_old w e s k hk⟩
theorem UB (w:ag) (os:Array Obj):Ext w (fk w os) :=
 ⟨rfl,rfl,rfl,by simp [fk],fun k hk=>by
  show(w.heap++os)[k]?=_
  rw [fv,if_pos hk]⟩
section
variable {w:ag} {F:Gs}
theorem Ft (hF:Fits F w) (hG:JB F) {s p:List UInt8} (hs:s.length<4294967281):QZ Tryz.prog 160 [tx s,tx p] w F (.tuple #[tx (fe s p).1,tx (fe s p).2.1,.bool (fe s p).2.2]):=by
 obtain ⟨m,hm⟩:=hG.max hF
 refine .of (enters_of Tryz.func160 (by rfl) rfl) hF ((Tryz.strings_Cut ⟨s.toArray⟩ ⟨p.toArray⟩ m w (by rw [YX];exact hs) hm).mono ?_)
 rintro e w' ⟨h1,n,rfl⟩
 exact⟨h1,(Ext.refl w).drewN n⟩
theorem EV (hF:Fits F w) {s p:List UInt8}:QZ Tryz.prog 161 [tx s,tx p] w F (.tuple #[tx (ah s p),.bool (aE s p)]):=by
 refine .of (enters_of Tryz.func161 (by rfl) rfl) hF ((Tryz.strings_CutPrefix ⟨s.toArray⟩ ⟨p.toArray⟩ w).mono ?_)
 rintro e w' ⟨h1,rfl⟩
 exact⟨h1,Ext.refl _⟩
theorem T9 (hF:Fits F w) {s p:List UInt8}:QZ Tryz.prog 229 [tx s,tx p] w F (.bool (aE s p)):=by
 refine .of (enters_of Tryz.func229 (by rfl) rfl) hF ((Tryz.strings_HasPrefix ⟨s.toArray⟩ ⟨p.toArray⟩ w).mono ?_)
 rintro e w' ⟨h1,rfl⟩
 exact⟨h1,Ext.refl _⟩
theorem BV (hF:Fits F w) {s p:List UInt8}:QZ Tryz.prog 230 [tx s,tx p] w F (tx (ah s p)):=by
 refine .of (enters_of Tryz.func230 (by rfl) rfl) hF ((Tryz.strings_TrimPrefix ⟨s.toArray⟩ ⟨p.toArray⟩ w).mono ?_)
 rintro e w' ⟨h1,rfl⟩
 exact⟨h1,Ext.refl _⟩
theorem OP (hF:Fits F w) {s:List UInt8} {c:Nat} (hc:s.length*c≤140737488355328) (hc':c≤140737488355328):QZ Tryz.prog 279 [tx s,.int .i64 c] w F (tx (eX s c)):=by
 refine .of (enters_of Tryz.func279 (by rfl) rfl) hF ((Tryz.strings_Repeat ⟨s.toArray⟩ c w (by omega) (by rw [YX];exact hc)).mono ?_)
 rintro e w' ⟨h1,h2⟩
 exact⟨h1,h2⟩
theorem kR (hF:Fits F w) {s:List UInt8} {n:Int} (hl:s.length≤18) (h:il s=some n):QZ Tryz.prog 231 [tx s] w F (.tuple #[.int .i64 n,.nilIface]):=by
 refine .of (enters_of Tryz.func231 (by rfl) rfl) hF ((Tryz.strconv_Atoi ⟨s.toArray⟩ n (by rw [YX];exact hl) h w).mono ?_)
 rintro e w' ⟨h1,t,rfl⟩
 exact⟨h1,Nt _ _ _⟩
theorem CK (hF:Fits F w) (hG:JB F) {n:Int} (h0 : -9223372036854775808≤n) (h1:n≤9223372036854775807):QZ Tryz.prog 277 [.int .i64 n] w F (tx (fO n)):=by
 refine .of (enters_of Tryz.func277 (by rfl) rfl) hF ((Tryz.strconv_Itoa n h0 h1 w (hG.Um hF)).mono ?_)
 rintro e w' ⟨h1,k,os,rfl⟩
 exact⟨h1,((Ext.refl w).drewN k).trans (UB _ _)⟩
theorem jQ (hF:Fits F w) {x:Int} (h0:0≤x) (h1:x≤18446744073709551615):QZ Tryz.prog 266 [.int .u64 x] w F (.int .i64 (bD x.toNat)):=by
 refine .of (enters_of Tryz.func266 (by rfl) rfl) hF ((Tryz.bits_Len64 x w h0 h1).mono ?_)
 rintro e w' ⟨h1,rfl⟩
 exact⟨h1,Ext.refl _⟩
theorem DC [Dr] (hF:Fits F w) {x y:Int}:QZ Tryz.prog 216 [.int .i64 x,.int .i64 y] w F (.int .i64 (Lib.compareInt x y)):=by
 refine QT.same (enters_of Tryz.func216 (by rfl) rfl) hF (Tryz.cmp_Compare_int x y w)
end
section
variable [Dr] [df:Df]
section
variable {P:bm} {Q:Exit→Act→ag→Prop} {N:Nat} {m:Sl} {E E0:Env} {ops:Array Oper} {l:List Oper} {w0:ag} {F0:Gs} {bs:List (Nat×Obj)} {G:Gs→Prop}
theorem St.perm {bs':List (Nat×Obj)} {w:ag} (h:St ⟨w0,F0,bs,G⟩ w) (hp:bs.Perm bs'):St ⟨w0,F0,bs',G⟩ w:=by
 obtain ⟨F,h⟩:=h
 exact⟨F,h.le,h.old,h.fits,h.ext,fun k hk=>h.bx k (hp.mem_iff.2 hk),(hp.map _).nodup_iff.1 h.nd,h.g⟩
def XD (P:bm) (f:FuncId) (args:List ai) (E:Env) {γ:Type} (val:γ→ai) (E':γ→Env):Prop :=
 Enters P f∧∀ w,St E w→Calls P f args.toArray w fun e w'=>∃ c,e = .returned (val c)∧St (E' c) w'
def EPost {γ:Type} (val:γ→ai) (E':γ→Env) (e:Ending) (w':ag):Prop:=∃ c,e = .returned (val c)∧St (E' c) w'
section
variable {d:Nat} {ty:aB} {pos:String} {aft:Array Edge} {f:FuncId} {args:Array aL} {tys:Array aB} {vs:List ai} {γ:Type} {val:γ→ai} {E':γ→Env} {bs1:List (Nat×Obj)}
theorem LS {x:aL} {c1 c2:List ai} (hx:ev m x=some (.func (.func f) c1.toArray c2.toArray)) (hv:Ep m args.toList=some vs) (hp:bs.Perm bs1) (hc:XD P f (c1++vs++c2) ⟨w0,F0,bs1,G⟩ val E')
  (k:∀ c,JS P ops Q l N ((d,val c)::m) (E' c)) (hd:J5 N (some d)=true:=by rfl):JS P ops Q (⟨some d,.call ⟨.value x,args,tys⟩,ty,pos,aft,none⟩::l) N m ⟨w0,F0,bs,G⟩:=by
 intro a w ha hw
 refine wpList_plain rfl fun K hK=>?_
 unfold Oper.wp
 rw [WV hc.1 (ha.ev hx)]
 have e:c1.toArray++args.map a.eval++c2.toArray=(c1++vs++c2).toArray:=by
  have:=ha.Ep hv
  have e2:args.map a.eval=vs.toArray:=by rw [← this];apply bO ;simp
  rw [e2];apply bO;simp
 simp only [Oper.upon]
 rw [e]
 refine(hc.2 w (hw.perm hp)).mono ?_
 rintro e w' ⟨c,rfl,h⟩
 exact hK _ _ (k c _ w' (ha.put hd (val c)) h)
theorem XO (hv:Ep m args.toList=some vs) (hp:bs.Perm bs1) (hc:XD P f vs ⟨w0,F0,bs1,G⟩ val E')
  (k:∀ c,JS P ops Q l N ((d,val c)::m) (E' c)) (hd:J5 N (some d)=true:=by rfl):JS P ops Q (⟨some d,.call ⟨.value (.func f),args,tys⟩,ty,pos,aft,none⟩::l) N m ⟨w0,F0,bs,G⟩ :=
 LS (x:=.func f) (c1:=[]) (c2:=[]) rfl hv hp (by simpa using hc) k hd
theorem Uc {bs0:List (Nat×Obj)} {G0:Gs→Prop} (hv:Ep m args.toList=some vs) (hp:bs.Perm bs1) (hc:XD P f vs ⟨w0,F0,bs1,G⟩ val E') (h0:∀ c w,St (E' c) w→St ⟨w0,F0,bs0,G0⟩ w)
  (k:∀ c,JD P ops Q ⟨w0,F0,bs0,G0⟩ l N ((d,val c)::m) (E' c)) (hd:J5 N (some d)=true:=by rfl):JD P ops Q ⟨w0,F0,bs0,G0⟩ (⟨some d,.call ⟨.value (.func f),args,tys⟩,ty,pos,aft,none⟩::l) N m ⟨w0,F0,bs,G⟩:=by
 intro hE a w ha hw
 refine .inr ⟨rfl,?_⟩
 rw [if_pos (by simp [fc])]
 unfold Oper.wp
 rw [WV (c1:=#[]) (c2:=#[]) hc.1 (ha.ev (x:=.func f) rfl)]
 have e:#[]++args.map a.eval++#[]=vs.toArray:=by
  have:=ha.Ep hv
  have e2:args.map a.eval=vs.toArray:=by rw [← this];apply bO ;simp
  rw [e2];apply bO;simp
 simp only [Oper.upon]
 rw [e]
 refine(hc.2 w (hw.perm hp)).mono ?_
 rintro e w' ⟨c,rfl,h⟩
 exact⟨h0 c w' h,k c (h0 c) _ w' (ha.put hd (val c)) h⟩
theorem St.last {w w':ag} (hF:Fits F0 w0) (h:St ⟨w0,F0,bs,G⟩ w) (hb:Below w0.heap.size w w') (hd:Dr.on→w.drawn≤w'.drawn):St ⟨w0,F0,[],fun F=>Gs.le F0 F⟩ w':=by
 obtain ⟨F,h⟩:=h
 have hx:Ext w0 w':=⟨hb.os.trans h.ext.os,hb.tape.trans h.ext.tape,hb.output.trans h.ext.output,ab h.ext.size hb.size,fun k hk=>(hb.block k hk).trans (h.ext.block k hk)⟩
 have hle:Gs.le F0 (fun b=>if b<w0.heap.size then F0 b else match w'.heap[b]? with | some (.cells c T _)=>if T=248 then some (c,248) else none | _=>none):=by
  intro b x hb
  show(if b<w0.heap.size then _ else _)=_
  rw [if_pos (hF.lt hb)];exact hb
 refine⟨_,hle,?_,⟨?_,?_⟩,⟨hx,fun d=>ab (h.ext.dr d) (hd d)⟩,fun _ h=>(by cases h),List.nodup_nil,fun F' h'=>Gs.le_trans hle h'⟩
 ·intro b hb
  show(if b<w0.heap.size then _ else _)=_
  rw [if_pos hb]
 ·intro b c T hb
  by_cases hlt:b<w0.heap.size
  ·rw [if_pos hlt] at hb
   obtain ⟨fr,e⟩:=hF.row b c T hb
   exact⟨fr,by rw [hx.block b hlt];exact e⟩
  ·rw [if_neg hlt] at hb
   split at hb
   ·rename_i c' T' fr heq
    split at hb
    ·rename_i hT;cases hb;exact⟨fr,by rw [heq,hT]⟩
    ·cases hb
   ·cases hb
 ·intro b c fr hb
  show(if b<w0.heap.size then _ else _)=_
  by_cases hlt:b<w0.heap.size
  ·rw [if_pos hlt]
   rw [hx.block b hlt] at hb
   exact hF.all b c fr hb
  ·rw [if_neg hlt,hb];simp
theorem Ei {v:ai} (hF:Fits F0 w0) (hv:Ep m args.toList=some vs) (he:Enters P f) (hc:∀ w,St ⟨w0,F0,bs,G⟩ w→Calls P f vs.toArray w fun e w'=>e = .returned v∧Below w0.heap.size w w')
  (k:JS P ops Q l N ((d,v)::m) ⟨w0,F0,[],fun F=>Gs.le F0 F⟩) (hd:J5 N (some d)=true:=by rfl) (hn:¬ Dr.on:=by exact id):JS P ops Q (⟨some d,.call ⟨.value (.func f),args,tys⟩,ty,pos,aft,none⟩::l) N m ⟨w0,F0,bs,G⟩ :=
 XO (γ:=Unit) (val:=fun _=>v) (E':=fun _=>⟨w0,F0,[],fun F=>Gs.le F0 F⟩) hv (bJ _) ⟨he,fun w hw=>(hc w hw).mono fun _ _ ⟨h1,h2⟩=>⟨(),h1,hw.last hF h2 fun d=>absurd d hn⟩⟩ (fun _=>k) hd
end
omit [Df] in
theorem XD.intro {f:FuncId} {fn:Func} {c:Code} {args:List ai} {γ:Type} {val:γ→ai} {E':γ→Env} (hf:P.funcs[f]?=some fn) (hb:fn.body=some c) (hn:(fn.name == "runtime.NumGoroutine")=false) (hN:fn.ntmps=N) (hl:iv args.length N=true)
  (h:J (df:=VJ) P c (bodyPost P fn (EPost val E')) N (Nx 0 args) E):XD P f args E val E':=by
 refine⟨enters_of hf hn (by rw [hb];rfl),fun w hw=>calls_of_wp hf hb (h _ w ⟨?_,rfl,fun t v ht=>?_⟩ hw)⟩
 ·have:=fD hl
  simp [hN];omega
 ·obtain ⟨_,h2⟩:=We args 0 t v ht
  have hlt:t<args.length:=by rcases bg t args.length with g | g;exact g;rw [iq,ez g] at h2;cases h2
  simp only [iq] at h2
  rw [fv,if_pos (by simpa using hlt)]
  simpa using h2
omit [Df] in
theorem Y5 {fn:Func} {γ:Type} {val:γ→ai} {E':γ→Env} {rs:List ResultVar} {vs:List ai} (c:γ) (hrs:fn.results=rs.toArray) (h:Dv P m bs rs vs) (hv:val c=(match vs with | [v]=>v | vs=>.tuple vs.toArray)) (hg:∀ w,St ⟨w0,F0,bs,G⟩ w→St (E' c) w):Fin (df:=VJ) (bodyPost P fn (EPost val E')) .ret N m ⟨w0,F0,bs,G⟩:=fun a w ha hw =>
 ⟨ha.df,val c,by rw [hv];exact GU hrs h ha hw,c,rfl,hg w hw⟩
omit [Df] in
theorem Dy {fn:Func} {γ:Type} {val:γ→ai} {E':γ→Env} (h:Fin (df:=VJ) (bodyPost P fn (EPost val E')) .ret N m E):Fin (df:=VJ) (bodyPost P fn (EPost val E')) .normal N m E:=h
theorem X0 {bs':List (Nat×Obj)} (hp:bs.Perm bs') (k:JS P ops Q l N m ⟨w0,F0,bs',G⟩):JS P ops Q l N m ⟨w0,F0,bs,G⟩:=fun a w ha hw=>k a w ha (hw.perm hp)
theorem FC {e:Exit} {bs':List (Nat×Obj)} (hp:bs.Perm bs') (k:Fin Q e N m ⟨w0,F0,bs',G⟩):Fin Q e N m ⟨w0,F0,bs,G⟩:=fun a w ha hw=>k a w ha (hw.perm hp)
theorem Src.OL {sz k b c:Nat} {news:List ai} {T:aB} {fr:Nat×Nat} (hm:(b,eG news.toArray T fr)∈bs) (hl:news.length=k*sz):Src ⟨w0,F0,bs,G⟩ sz (.slice (.some ⟨b,0,none⟩) k c) k news :=
 ⟨hl,.inr ⟨_,_,rfl,fun w hw j v hv=>by
  obtain ⟨F,hw⟩:=hw
  rw [Kt,Xv (hw.bx _ hm).1,bB];exact hv⟩⟩
theorem kZ {d:Nat} {o:Op} {ty:aB} {pos:String} {aft:Array Edge} {v:ai} {E':Env} (h:∀ a w,Jx N m a→St E w→∃ w',(execOp a.eval ⟨some d,o,ty,pos,aft,none⟩).run P w = .ok (.value v) w'∧St E' w') (k:JS P ops Q l N ((d,v)::m) E') (hd:J5 N (some d)=true:=by rfl) :
  JS P ops Q (⟨some d,o,ty,pos,aft,none⟩::l) N m E:=fun a w ha hw=>wpList_plain rfl fun K hK=>by
 obtain ⟨w',h1,h2⟩:=h a w ha hw
 exact upon_value h1 (hK _ _ (k _ w' (ha.put hd v) h2))
theorem OW {T yT ty:aB} {x y:aL} {p:Option Addr} {Y:ag→Prop} (hx:ev m x=some (.pointer p)) (hy:ev m y=some (.pointer none)) (hT:P.underlying T=some (.pointer (P.pointee T))):Qt P N m Y (.binOp .eql T x y yT) ty (.bool p.isNone):=fun a w _ _ _ _ ha _=>by
 have:=run_eql_pointer_nil (P:=P) (w:=w) T p hT
 simp [execOp,ha.ev hx,ha.ev hy,eqGuard,this]
theorem PM {t u e ty:aB} {i:TypeInfo} {n:Nat} {x:ai} {olds:List ai} {ob:List (Nat×Obj)} {w:ag} {s:List UInt8} (ht:BM P t=some e) (hu:P.underlying u=some .string) (hi:P.info? e=some i) (hz:i.zero=some (.int .u8 0)) (hsz:i.size=1) (hby:i.bytes=1)
  (hr:Qx e 1 x n olds ob) (hw:St ⟨w0,F0,ob++bs,G⟩ w) (h47:n+s.length≤140737488355328) (hU:Wc e=true) :
  ∃ v' ob' w',(fQ #[t,u] ty #[x,tx s]).run P w = .ok v' w'∧Qx e 1 v' (n+s.length) (olds++az s) ob'∧St ⟨w0,F0,ob'++bs,G⟩ w':=by
 have hu':∀ c fr c' fr',eG c e fr≠.cells c' 248 fr':=fun c fr=>Xk hU
 have hsl:(⟨s.toArray⟩:ByteArray).size=s.length:=YX s
 have hbl:(az s).length=s.length:=Lib.byteCells_length s
 have hzc:∀ q,(aO (aq .u8 0).cells q).toList.length=q:=fun q=>by simp [aO,Value.cells]
 have new:∀ {w':ag} (l rest:List ai) (cap:Nat) (bs':List (Nat×Obj)),St ⟨w0,F0,bs',G⟩ w'→bs.Sublist bs'→l.length=n+s.length→l.length+rest.length=cap→n+s.length≤cap→cap≤maxLen →
   ∃ ob',Qx e 1 (.slice (some ⟨w'.heap.size,0,none⟩) (n+s.length) cap) (n+s.length) l ob'∧St ⟨w0,F0,ob'++bs,G⟩ (w'.alloc (.cells (l++rest).toArray e)):=by
  intro w' l rest cap bs' hw' hsub h2 h3 h4 h5
  exact⟨_,.some (by omega) (by omega) h4 h5,(hw'.imp hsub fun _ h=>h).alloc _ (hu' _ _)⟩
 cases hr with
 |nil =>
  simp only [bB,bZ] at *
  by_cases hm:s.length=0
  ·have hs0:s=[]:=aN hm
   subst hs0
   refine⟨.slice none 0 0,[],w,?_,.nil,hw⟩
   have hf:=Lib.run_firstCells_string (P:=P) w 1 ⟨#[]⟩
   have hf':(Builtin.firstCells 1 0 (tx [])).run P w = .ok #[] w:=by simpa [eP,fC] using hf
   simp [fQ,run_underlying (Q8 ht),run_underlying hu,sizeOf,typeInfo,hi,hsz,Builtin.lenOf,eP,hf']
  ·have hrun:=run_append_nil_string (P:=P) (w:=w) t u ty e i (.int .u8 0) (Q8 ht) hu hi hz ⟨s.toArray⟩ (by omega) (by omega) (by rw [hby];omega)
   rw [hsl] at hrun
   have hge:=grownCap_ge w s.length 0 e
   obtain ⟨ob',h2,h3⟩:=new (az s) (aO (aq .u8 0).cells (grownCap w s.length 0 e - s.length)).toList (grownCap w s.length 0 e) bs hw.drew wG hbl (by rw [hzc,hbl];omega) hge (grownCap_le_maxLen w s.length 0 e (by simp only [maxLen];omega))
   refine⟨_,ob',_,hrun,h2,?_⟩
   have e1:(az s++(aO (aq .u8 0).cells (grownCap w s.length 0 e - s.length)).toList).toArray=((⟨s.toArray⟩:ByteArray).data.map fun b=>aq .u8 b.toNat)++aO (aq .u8 0).cells (grownCap w s.length 0 e - s.length):=by apply bO;simp [az]
   rw [e1] at h3;exact h3
 |some g1 g2 g3 g4 =>
  rename_i b cap rest
  have hbw:w.heap[b]?=some (.cells (olds++rest).toArray e (0,0)):=hw.own (f:=fun o'=>(b,o')::bs) .here
  have hol:olds.length=n:=by omega
  by_cases hroom:n+s.length≤cap
  ·have hrun:=Lib.run_append_room_string (P:=P) w t u ty e i (Q8 ht) hu hi hsz b n cap _ hbw ⟨s.toArray⟩ (by omega) (by simp;omega)
   rw [hsl] at hrun
   have e1:((olds++rest).toArray.toList.take n++fC ⟨s.toArray⟩++(olds++rest).toArray.toList.drop (n+s.length))=olds++az s++rest.drop s.length:=by
    rw [Lib.strCells_eq]
    simp only [aP]
    rw [← hol]
    simp [List.drop_append]
   rw [e1] at hrun
   refine⟨_,[(b,.cells (olds++az s++rest.drop s.length).toArray e (0,0))],_,hrun,.some ?_ ?_ hroom g4,?_⟩
   ·rw [ax,hbl];omega
   ·rw [ax,bf,hbl];omega
   ·have hlt:b<w.heap.size:=(Array.getElem?_eq_some_iff.1 hbw).1
    refine St.write (o:=.cells (olds++rest).toArray e (0,0)) [] hw ⟨?_,rfl,rfl,rfl,rfl⟩ (hu' _ _)
    apply Array.ext_getElem?
    intro j
    rw [Array.getElem?_setIfInBounds]
    by_cases hj:b=j
    ·subst hj
     rw [if_pos rfl,if_pos hlt,setRow_heap w b _ _ e _ hbw]
    ·rw [if_neg hj,setRow_other w b j _ (fun e=>hj e.symm)]
  ·have hold:∀ j v,olds[j]?=some v→w.cell? ((⟨b,0,none⟩:Addr).add j)=some v:=fun j v hv=>by
    rw [Kt,bB,Xv hbw,fG]
    have:j<olds.length:=by rcases bg j olds.length with q | q;exact q;rw [ez q] at hv;cases hv
    rw [if_pos this];exact hv
   have hrun:=Lib.run_append_grow_string (P:=P) w t u ty e i (.int .u8 0) (Q8 ht) hu hi hz ⟨b,0,none⟩ n cap olds (by rw [hsz];omega) hold ⟨s.toArray⟩ (by omega) (by omega) (by rw [hby];exact growslice_fits (by omega) (by omega))
   rw [hsl] at hrun
   have hge:=grownCap_ge w (n+s.length) cap e
   obtain ⟨ob',h2,h3⟩:=new (olds++az s) (aO (aq .u8 0).cells (grownCap w (n+s.length) cap e - (n+s.length))).toList (grownCap w (n+s.length) cap e) _ hw.drew (fq _ _) (by rw [ax,hbl];omega) (by rw [hzc,ax,hbl];omega) hge (grownCap_le_maxLen w (n+s.length) cap e (by simp only [maxLen];omega))
   refine⟨_,ob',_,hrun,h2,?_⟩
   have e1:(olds++az s++(aO (aq .u8 0).cells (grownCap w (n+s.length) cap e - (n+s.length))).toList).toArray=olds.toArray++(fC ⟨s.toArray⟩).toArray++aO (aq .u8 0).cells (grownCap w (n+s.length) cap e - (n+s.length)):=by
    rw [Lib.strCells_eq]
    apply bO;simp
   rw [e1] at h3;exact h3
theorem Su {d:Nat} {ty:aB} {pos:String} {aft:Array Edge} {t u e:aB} {i:TypeInfo} {n:Nat} {X Y:aL} {x:ai} {olds:List ai} {ob bs1:List (Nat×Obj)} {s:List UInt8} (hx:ev m X=some x) (hy:ev m Y=some (tx s)) (ht:BM P t=some e) (hu:P.underlying u=some .string) (hi:P.info? e=some i) (hz:i.zero=some (.int .u8 0)) (hsz:i.size=1) (hby:i.bytes=1)
  (hr:Qx e 1 x n olds ob) (hp:bs.Perm (ob++bs1)) (h47:n+s.length≤140737488355328)
  (kk:∀ v' ob',Qx e 1 v' (n+s.length) (olds++az s) ob'→JS P ops Q l N ((d,v')::m) ⟨w0,F0,ob'++bs1,G⟩) (hU:Wc e=true:=by rfl) (hd:J5 N (some d)=true:=by rfl) :
  JS P ops Q (⟨some d,.call ⟨.builtin .append,#[X,Y],#[t,u]⟩,ty,pos,aft,none⟩::l) N m ⟨w0,F0,bs,G⟩:=fun a w ha hw =>
 wpList_plain rfl fun K hK=>by
  obtain ⟨v',ob',w',h2,h3,h4⟩:=PM (ty:=ty) ht hu hi hz hsz hby hr (hw.perm hp) h47 hU
  refine upon_value (w':=w') (v:=v') ?_ (hK _ _ (kk v' ob' h3 _ w' (ha.put hd v') h4))
  simp only [execOp,resolve,invoke,builtin,ef,ee,bz,List.map_toArray,ik,List.map_nil,ha.ev hx,ha.ev hy,h2]
end
end
section
variable [Dr] [df:Df] {P:bm} {Q:Exit→Act→ag→Prop} {N:Nat} {m:Sl} {E E0:Env} {ops:Array Oper} {l:List Oper} {w0:ag} {F0:Gs} {bs:List (Nat×Obj)} {G:Gs→Prop}
theorem Be {w:ag} {b:Nat} {c:List ai} {T:aB} {fr:Nat×Nat} (h:w.heap[b]?=some (.cells c.toArray T fr)):w.shape? b=some (T,c.length):=by
 simp [World.shape?,h]
theorem AJ {src dst t T' ty:aB} {x:aL} {b off:Nat} {c:List ai} {fr:Nat×Nat} {f:Obj→List (Nat×Obj)} (hx:ev m x=some (.pointer (some ⟨b,off,none⟩))) (hs:P.underlying src=some (.pointer t)) (hd:P.underlying dst=some .unsafePointer) (ht:(P.info? t).any (fun j=>j.size != 0)=true)
  (ho:Own bs b (.cells c.toArray T' fr) f) (hoff:off<c.length):Qt P N m (St ⟨w0,F0,bs,G⟩) (.convert src dst x) ty (.pointer (some ⟨b,off,none⟩)):=fun a w _ _ _ _ ha hw=>by
 obtain ⟨j,hj,hjs⟩:=Option.any_eq_true .. |>.1 ht
 have:=Lib.run_to_unsafe (P:=P) w ⟨b,off,none⟩ hs hd hj (by simpa using hjs) (Be (hw.own ho)) hoff
 simp [execOp,ha.ev hx,this]
theorem Rw {src dst t T' ty:aB} {x:aL} {b off:Nat} {c:List ai} {fr:Nat×Nat} {f:Obj→List (Nat×Obj)} (hx:ev m x=some (.pointer (some ⟨b,off,none⟩))) (hs:P.underlying src=some .unsafePointer) (hd:P.underlying dst=some (.pointer t)) (ht:(P.info? t).isSome=true)
  (ho:Own bs b (.cells c.toArray T' fr) f) (hl:liesAt P P.depth T' (c.length / P.cellsOf T') off t 1=true):Qt P N m (St ⟨w0,F0,bs,G⟩) (.convert src dst x) ty (.pointer (some ⟨b,off,none⟩)):=fun a w _ _ _ _ ha hw=>by
 obtain ⟨j,hj⟩:=Option.isSome_iff_exists.1 ht
 have:=Lib.run_from_unsafe (P:=P) w ⟨b,off,none⟩ hs hd hj (Be (hw.own ho)) hl
 simp [execOp,ha.ev hx,this]
theorem IT {T t yT ty:aB} {x y:aL} {p:Addr} {Y:ag→Prop} (hx:ev m x=some (.pointer (some p))) (hy:ev m y=some (.pointer (some p))) (hT:P.underlying T=some (.pointer t)) (ht:(P.info? t).isSome=true):Qt P N m Y (.binOp .neq T x y yT) ty (.bool false):=fun a w _ _ _ _ ha _=>by
 obtain ⟨j,hj⟩:=Option.isSome_iff_exists.1 ht
 have:=Lib.run_neq_ptr_same (P:=P) w p hT hj
 simp [execOp,ha.ev hx,ha.ev hy,eqGuard,this]
theorem LR {d:Nat} {ty:aB} {pos:String} {aft:Array Edge} {f:FuncId} {fn:Func} {e:Array ai→Sem ai} {args:Array aL} {tys:Array aB} {vs:List ai} {v:ai} (hf:P.funcs[f]?=some fn) (hname:(fn.name == "runtime.NumGoroutine")=false)
  (hb:fn.body.isNone=true) (hn:Extern.findNext fn=none) (he:Extern.find fn=some e) (hv:Ep m args.toList=some vs) (hr:∀ w,(e vs.toArray).run P w = .ok v w) (k:JS P ops Q l N ((d,v)::m) E) (hd:J5 N (some d)=true:=by rfl) :
  JS P ops Q (⟨some d,.call ⟨.value (.func f),args,tys⟩,ty,pos,aft,none⟩::l) N m E :=
 kZ (fun a w ha hw=>⟨w,by
  have h1:a.eval (.func f) = .func (.func f) #[] #[]:=ha.ev (x:=.func f) rfl
  have e2:args.map a.eval=vs.toArray:=by rw [← ha.Ep hv];apply bO;simp
  simp only [execOp,resolve,h1,Deferred.ofValue,ef,ee,bz,invoke,e2]
  simp [run_callFunc_extern hf hname hb hn he,hr],hw⟩) k hd
end
inductive Ur (b:Nat):List UInt8→List (Nat×Obj)→Prop
 |fresh:Ur b [] [(b,.cells [ay none,.slice none 0 0].toArray 284 (0,0))]
 |used {l:List UInt8} {v:ai} {ob:List (Nat×Obj)} (hr:Qx 5 1 v l.length (az l) ob):Ur b l ((b,.cells [ay (some ⟨b,0,none⟩),v].toArray 284 (0,0))::ob)
section
variable {w0:ag} {F0:Gs} {bs:List (Nat×Obj)} {G:Gs→Prop}
theorem EW {b:Nat} {p:Option Addr} {v:ai} (hp:p=none∨p=some ⟨b,0,none⟩):XD Tryz.prog 310 [.pointer (some ⟨b,0,none⟩)] ⟨w0,F0,(b,.cells [ay p,v].toArray 284 (0,0))::bs,G⟩ (fun(_:Unit)=>.tuple #[]) (fun _=>⟨w0,F0,(b,.cells [ay (some ⟨b,0,none⟩),v].toArray 284 (0,0))::bs,G⟩):=by
 refine XD.intro Tryz.func310 rfl (by rfl) rfl rfl<|wF rfl<|QA (VP rfl)<|QA (QI rfl SX DS)<|QA (Qm rfl DS .here .h1)<|QA (OW rfl rfl (by kernel_rfl))<|QE<|QC ?_
 refine QQ rfl (fun hc=>?_) (fun hc=>?_)
 ·have hp':p=none:=by rcases hp with rfl | rfl;rfl;cases hc
  subst hp'
  refine QB<|wA rfl<|wA rfl<|QA (AJ rfl Tryz.underlying281 Tryz.underlying325 (by kernel_rfl) .here (Nat.zero_lt_succ _))<|LR Tryz.func324 (by kernel_rfl) (by kernel_rfl) (by kernel_rfl) (e:=Extern.AbiNoEscape.same) (by kernel_rfl) rfl (fun w=>Lib.run_noEscape w _)<|QA (Rw rfl Tryz.underlying325 Tryz.underlying281 (by kernel_rfl) .here (by kernel_rfl))<|QA (VP rfl)<|QA (QI rfl SX DS)<|QR (vs:=[_]) rfl rfl rfl DS rfl .here .h1 wK<|QE<|Dy ?_
  exact Y5 () rfl .nil rfl (fun w h=>h)
 ·have hp':p=some ⟨b,0,none⟩:=by rcases hp with rfl | rfl;cases hc;rfl
  subst hp'
  refine wF rfl<|QA (VP rfl)<|QA (QI rfl SX DS)<|QA (Qm rfl DS .here .h1)<|wA rfl<|QA (IT rfl rfl Tryz.underlying281 (by kernel_rfl))<|wC<|YQ rfl<|QO<|Dy ?_
  exact Y5 () rfl .nil rfl (fun w h=>h)
theorem yw:∃ i,Tryz.prog.info? 5=some i∧i.zero=some (.int .u8 0)∧i.size=1∧i.bytes=1:=by
 have h:((Tryz.prog.info? 5).map fun i=>(i.zero,i.size,i.bytes))=some (some (.int .u8 0),1,1):=by kernel_rfl
 obtain ⟨i,h1,h2⟩:=Option.map_eq_some_iff.1 h
 simp only [Prod.mk.injEq] at h2
 exact⟨i,h1,h2⟩
theorem Wm {b:Nat} {p:Option Addr} {v:ai} {l s:List UInt8} {ob:List (Nat×Obj)} (hp:p=none∨p=some ⟨b,0,none⟩) (hr:Qx 5 1 v l.length (az l) ob) (hn:l.length+s.length≤140737488355328) :
  XD Tryz.prog 280 [.pointer (some ⟨b,0,none⟩),tx s] ⟨w0,F0,(b,.cells [ay p,v].toArray 284 (0,0))::(ob++bs),G⟩ (fun(_:List (Nat×Obj))=>.tuple #[.int .i64 s.length,.nilIface])
   (fun ob'=>⟨w0,F0,ob'++bs,fun F=>G F∧Ur b (l++s) ob'⟩):=by
 obtain ⟨i8,hi1,hi2,hi3,hi4⟩:=yw
 refine XD.intro Tryz.func280 rfl (by rfl) rfl rfl<|wE<|wB rfl<|wD rfl<|wF rfl<|XO rfl (bJ _) (EW hp) (fun _=>wC<|wF rfl<|wA rfl<|QA (VP rfl)<|QA (QI rfl MH GO)<|QA (Qm rfl GO .here (.skip .h1))<|wA rfl<|Su (bs1:=(b,.cells [ay (some ⟨b,0,none⟩),v].toArray 284 (0,0))::bs) rfl rfl AD Tryz.underlying9 hi1 hi2 hi3 hi4 hr (by rw [← er];exact(aY _ _ _)) hn (fun v' ob' hr'=>QA (VP rfl)<|QA (QI rfl MH GO)<|X0 (bs':=(b,.cells [ay (some ⟨b,0,none⟩),v].toArray 284 (0,0))::(ob'++bs)) (by rw [← er (l:=bs),← er];exact(aY _ _ _)) ?_))
 obtain ⟨h1,h2⟩:=hr'.one
 refine QR (vs:=[v']) rfl rfl h2 GO rfl .here (.skip .h1) ⟨h1,trivial⟩<|wC<|wF rfl<|QA (XF rfl Xp)<|wB rfl<|wD rfl<|QS ?_
 have hb:Ur b (l++s) ((b,.cells [ay (some ⟨b,0,none⟩),v'].toArray 284 (0,0))::ob'):=.used (by rw [ax,Lib.byteCells_append];exact hr')
 exact Y5 _ rfl (.tmp rfl (.tmp rfl .nil)) rfl (fun w h=>St.Bu (bs:=(_::ob')++bs) h fun F hG=>⟨hG,hb⟩)
theorem Vw {b:Nat} {l s:List UInt8} {ob:List (Nat×Obj)} (h:Ur b l ob) (hn:l.length+s.length≤140737488355328) :
  XD Tryz.prog 280 [.pointer (some ⟨b,0,none⟩),tx s] ⟨w0,F0,ob++bs,G⟩ (fun(_:List (Nat×Obj))=>.tuple #[.int .i64 s.length,.nilIface])
   (fun ob'=>⟨w0,F0,ob'++bs,fun F=>G F∧Ur b (l++s) ob'⟩):=by
 cases h with
 |fresh=>exact Wm (l:=[]) (ob:=[]) (.inl rfl) .nil hn
 |used hr=>exact Wm (.inr rfl) hr hn
theorem Hl {b:Nat} {p:Option Addr} {v:ai} {l:List UInt8} {c:UInt8} {ob:List (Nat×Obj)} (hp:p=none∨p=some ⟨b,0,none⟩) (hr:Qx 5 1 v l.length (az l) ob) (hn:l.length+1≤140737488355328) :
  XD Tryz.prog 288 [.pointer (some ⟨b,0,none⟩),.int .u8 c.toNat] ⟨w0,F0,(b,.cells [ay p,v].toArray 284 (0,0))::(ob++bs),G⟩ (fun(_:List (Nat×Obj))=>.nilIface)
   (fun ob'=>⟨w0,F0,ob'++bs,fun F=>G F∧Ur b (l++[c]) ob'⟩):=by
 refine XD.intro Tryz.func288 rfl (by rfl) rfl rfl<|wE<|wD rfl<|wF rfl<|XO rfl (bJ _) (EW hp) (fun _=>wC<|wF rfl<|wA rfl<|QA (VP rfl)<|QA (QI rfl MH GO)<|QA (Qm rfl GO .here (.skip .h1))<|wA rfl<|Hv rfl (Q8 AD) Lx z_5 rfl rfl (fun bx=>?_))
 refine X0 (bs':=ob++((bx,.cells [aq .u8 c.toNat].toArray 5 (0,0))::(b,.cells [ay (some ⟨b,0,none⟩),v].toArray 284 (0,0))::bs)) (by
  have:=aY [(bx,eG [aq .u8 c.toNat].toArray 5 (0,0)),(b,eG [ay (some ⟨b,0,none⟩),v].toArray 284 (0,0))] ob bs
  exact this) ?_
 refine Dw (news:=[aq .u8 c.toNat]) (k:=1) (sz:=1) rfl rfl AD Lx z_5 rfl cw hr (Src.OL (b:=bx) (T:=5) (fr:=(0,0)) (c:=1) (by simp) rfl) (by omega) (by omega) (fun u hu=>by rw [List.mem_singleton.1 hu];rfl) (fun v' ob' hr'=>QA (VP rfl)<|QA (QI rfl MH GO) ?_)
 refine X0 (bs':=(b,.cells [ay (some ⟨b,0,none⟩),v].toArray 284 (0,0))::((bx,.cells [aq .u8 c.toNat].toArray 5 (0,0))::(ob'++bs))) (by
  have:=aY ob' [(b,eG [ay (some ⟨b,0,none⟩),v].toArray 284 (0,0)),(bx,eG [aq .u8 c.toNat].toArray 5 (0,0))] bs
  exact((List.Perm.append_left ob' (List.Perm.swap _ _ _))).trans this) ?_
 obtain ⟨h1,h2⟩:=hr'.one
 refine QR (vs:=[v']) rfl rfl h2 GO rfl .here (.skip .h1) ⟨h1,trivial⟩<|wC<|wE<|wD rfl<|QS ?_
 have hb:Ur b (l++[c]) ((b,.cells [ay (some ⟨b,0,none⟩),v'].toArray 284 (0,0))::ob'):=.used (by rw [ax,Lib.byteCells_append];exact hr')
 exact Y5 _ rfl (.tmp rfl .nil) rfl (fun w h=>St.imp (bs':=(_::ob')++bs) h (List.Sublist.cons_cons _ (List.Sublist.cons _ wG)) fun F hG=>⟨hG,hb⟩)
theorem Sy {b:Nat} {l:List UInt8} {c:UInt8} {ob:List (Nat×Obj)} (h:Ur b l ob) (hn:l.length+1≤140737488355328) :
  XD Tryz.prog 288 [.pointer (some ⟨b,0,none⟩),.int .u8 c.toNat] ⟨w0,F0,ob++bs,G⟩ (fun(_:List (Nat×Obj))=>.nilIface)
   (fun ob'=>⟨w0,F0,ob'++bs,fun F=>G F∧Ur b (l++[c]) ob'⟩):=by
 cases h with
 |fresh=>exact Hl (l:=[]) (ob:=[]) (.inl rfl) .nil hn
 |used hr=>exact Hl (.inr rfl) hr hn
theorem Ur.is {b:Nat} {l:List UInt8} {ob:List (Nat×Obj)} (h:Ur b l ob) {w:ag} (hw:St ⟨w0,F0,ob++bs,G⟩ w):Lib.IsBuilder 284 5 w0.heap.size b (az l) w:=by
 obtain ⟨F,hw⟩:=hw
 cases h with
 |fresh =>
  have:=hw.bx (b,.cells [ay none,.slice none 0 0].toArray 284 (0,0)) (by simp)
  exact .inl ⟨this.2.1,_,this.1,World.ownsRow_nil w _ _ 1,by simp [e9]⟩
 |used hr =>
  rename_i v ob
  have h1:=hw.bx (b,.cells [ay (some ⟨b,0,none⟩),v].toArray 284 (0,0)) (by simp)
  refine .inr ⟨h1.2.1,v,h1.1,?_,?_⟩
  ·rw [Lib.byteCells_length]
   generalize hq:az l=q at hr
   generalize hn:l.length=n at hr
   cases hr with
   |nil=>exact World.ownsRow_nil w _ _ 1
   |some g1 g2 g3 g4 =>
    rename_i r cap rest
    have h2:=hw.bx (r,.cells (q++rest).toArray 5 (0,0)) (by simp)
    refine⟨by omega,.inr ⟨r,cap,_,rfl,h2.2.1,h2.1,g3,g4,?_,?_⟩⟩
    ·show(q++rest).toArray.size=_
     simp;omega
    ·show(q++rest).take (n*1)=q
     rw [← g1];exact List.take_left
  ·generalize hq:az l=q at hr
   generalize hn:l.length=n at hr
   cases hr with
   |nil=>simp [e9]
   |some g1 g2 g3 g4 =>
    have hnd:=hw.nd
    simp only [eS,ik,List.nodup_cons] at hnd
    intro e
    simp only [e9,bL] at e
    exact hnd.1 (by simp [e])
end
section
open Go.RowKit Go.Sort Go.Lib
theorem AO (w:ag) (o:Obj) (dk:Array UInt8) (k off:Nat):∃ os,(putRow (fun(b:UInt8)=>aq .u8 (b.toNat:Int)) (w.alloc o) w.heap.size off dk).drewN k=fk (w.drewN k) os:=by
 rw [alloc_eq_grow]
 obtain ⟨os',_,e⟩:=putRow_grow_new (fun(b:UInt8)=>aq .u8 (b.toNat:Int)) w #[o] w.heap.size off dk (aK _)
 exact⟨os',by rw [e];rfl⟩
theorem T8 (w:ag) (T:aB) (nd:Nat) (hs:nd≤24):Holds (fun(b:UInt8)=>aq .u8 (b.toNat:Int)) (w.alloc (.cells zeros24 T)) w.heap.size 0 (hZ nd (0:UInt8)):=fun j hj=>by
 have hj':j<nd:=by simpa using hj
 refine⟨?_,World.frozen?_alloc_new _ _ _ _⟩
 rw [World.cell?_alloc_new,zeros24_at _ (by omega),getElem!_pos _ j hj]
 simp
set_option maxRecDepth 100000 in
theorem PR (u:Nat) (hu64:u<18446744073709551616) (w:ag) (htab:ie Tryz.prog w "internal/strconv.uint64pow10" .u64 iz) :
  Calls Tryz.prog 306 #[.int .u64 u,.int .i64 10] w fun e w'=>e = .returned (tx (ae u))∧∃ k os,w'=fk (w.drewN k) os:=by
 have e283:∀ args w,(callFunc 318 args).run Tryz.prog w = .ok (.enter 318 args) w:=ei Tryz.func318 (by kernel_rfl) rfl
 have e284:∀ args w,(callFunc 319 args).run Tryz.prog w = .ok (.enter 319 args) w:=ei Tryz.func319 (by kernel_rfl) rfl
 have e285:∀ args w,(callFunc 320 args).run Tryz.prog w = .ok (.enter 320 args) w:=ei Tryz.func320 (by kernel_rfl) rfl
 by_cases hs:u<100
 ·go_enter Tryz.func306,Tryz.ntmps306
  go_wp2_with (go_at_fn 318;refine(Tryz.internal_strconv_small u hs _).mono ?_;rintro e w' ⟨rfl,rfl⟩)
  go_ret
  exact⟨rfl,0,#[],by simp [World.drewN_zero]⟩
 ·have hu1:1≤u:=by omega
  have hnd20:aM u≤20:=by have:=Lib.numDigits_eq u hu1 hu64;split at this<;>omega
  have hb3:aM u≤24:=by omega
  have hal:Tryz.prog.arrayLen 320=24:=by simp [Program.arrayLen,Tryz.underlying320]
  have hsl1:∀ W,(Instr.sliceAt 320 (.pointer (some ⟨w.heap.size,0,none⟩)) none (some (.int .i64 (aM u:Int))) none).run Tryz.prog W = .ok (.slice (some ⟨w.heap.size,0,none⟩) (aM u) 24) W:=fun W=>by
   rw [run_sliceAt_array_h W 320 ⟨w.heap.size,0,none⟩ (by simp [Program.arrayLen,Program.elem,Tryz.underlying320]) .i64 (aM u:Int) (by omega) (by rw [hal];omega)]
   go_simp
  have hH0:=T8 w 320 (aM u) (by omega)
  have hfmt:=Tryz.internal_strconv_formatBase10 w.heap.size 0 24 u (hZ (aM u) 0) (w.alloc (.cells eF 320)) hH0 (by rw [bE];exact Lib.lt_pow_nDigits u) hu64 (by rw [bE];omega)
  rw [bE] at hfmt
  have HH0:=aa hH0
  clear hH0 hal
  go_enter Tryz.func306,Tryz.ntmps306
  go_wp2_with (first
   |(go_at_fn 319;refine(Tryz.internal_strconv_numDigits u hu1 hu64 _ (Lib.tabIs_alloc htab _)).mono ?_;rintro e w' ⟨rfl,rfl⟩))
  go_at_fn 320
  refine hfmt.mono ?_
  rintro e w' ⟨rfl,k,v',dk,rfl,hF⟩
  have hcv:(convert 282 9 (.slice (some ⟨w.heap.size,0,none⟩) (aM u) 24)).run Tryz.prog ((putRow (fun(b:UInt8)=>aq .u8 (b.toNat:Int)) (w.alloc (.cells eF 320)) w.heap.size 0 dk).drewN k) = .ok (.string ⟨(ae u).toArray⟩) ((putRow (fun(b:UInt8)=>aq .u8 (b.toNat:Int)) (w.alloc (.cells eF 320)) w.heap.size 0 dk).drewN k):=by
   have h:=run_convert_bytes_back (P:=Tryz.prog) ((putRow (fun(b:UInt8)=>aq .u8 (b.toNat:Int)) (w.alloc (.cells eF 320)) w.heap.size 0 dk).drewN k) 282 9 5 ⟨w.heap.size,0,none⟩ 24 (ae u) Tryz.underlying282 Tryz.underlying5 Tryz.underlying9 (fun j hj=>by
    rw [Lib.row_is_numeral hF j hj,Lib.add_plain,World.cell?_drewN]
    exact cell?_putRow (fun(b:UInt8)=>aq .u8 (b.toNat:Int)) _ w.heap.size 0 _ dk HH0.out (by rw [hF.size,bE]) j (by rw [hF.size];rw [aT] at hj;exact hj))
   rw [aT] at h
   exact h
  go_wp2
  go_ret
  obtain ⟨os,eo⟩:=AO w (.cells eF 320) dk k 0
  exact⟨rfl,k,os,eo⟩
theorem SQ {w:ag} {F:Gs} (hF:Fits F w) (hG:JB F) {u:Nat} (hu:u<18446744073709551616):QZ Tryz.prog 278 [.int .u64 u,.int .i64 10] w F (tx (ae u)):=by
 refine QT.intro (G:=fun F=>JB F) Tryz.func278 rfl (by rfl) rfl rfl hF (fun F' hF'=>hG.le hF')<|wE<|wD rfl<|wF rfl<|wA rfl ?_
 refine QH rfl (fun w F hF hG=>QZ.of (v:=tx (ae u)) (enters_of Tryz.func306 (by rfl) rfl) hF ((PR u hu w (hG.Um hF)).mono (by
  rintro e w' ⟨h1,k,os,rfl⟩
  exact⟨h1,((Ext.refl w).drewN k).trans (UB _ _)⟩))) (fun c=>?_)
 refine wD rfl<|QS ?_
 exact QP () rfl (.tmp rfl .nil) rfl (fun F _=>trivial)
end
open Go
def Uo (c:UInt8):Bool:=decide (48≤c.toNat)&&decide (c.toNat≤57)
def XK (l:List UInt8):Bool:=l.all Uo
theorem Ys {c:UInt8}:Uo c=true↔48≤c.toNat∧c.toNat≤57:=by simp [Uo]
def JA (l:List UInt8):Nat:=l.foldl (fun a c=>a*10+(c.toNat - 48)) 0
theorem dw (l:List UInt8):∀ a:Nat,l.foldl (fun a c=>a*10+(c.toNat - 48)) a=a*10^l.length+JA l:=by
 induction l with
 |nil=>intro a;simp [JA]
 |cons c l ih =>
  intro a
  simp only [List.foldl_cons,aW,JA]
  rw [ih,ih (0*10+_)]
  rw [im,bB,eU,bC,fi,fy 10,eJ]
theorem YE (a b:List UInt8):JA (a++b)=JA a*10^b.length+JA b:=by
 unfold JA;rw [List.foldl_append,dw];rfl
theorem IS:JA []=0:=rfl
theorem VI (c:UInt8):JA [c]=c.toNat - 48:=by simp [JA]
theorem NA (c:UInt8) (l:List UInt8):JA (c::l)=(c.toNat - 48)*10^l.length+JA l:=by
 rw [← VI,← YE];rfl
theorem ZG (a b:List UInt8):XK (a++b)=(XK a&&XK b):=by simp [XK]
theorem HQ (c:UInt8) (l:List UInt8):XK (c::l)=(Uo c&&XK l):=by simp [XK]
theorem HM {l:List UInt8} (h:XK l=true) (n:Nat):XK (l.take n)=true:=by
 rw [← aX n l,ZG,aJ] at h;exact h.1
theorem Dq {l:List UInt8} (h:XK l=true) (n:Nat):XK (l.drop n)=true:=by
 rw [← aX n l,ZG,aJ] at h;exact h.2
theorem Vn {l:List UInt8} (h:XK l=true):JA l<10^l.length:=by
 induction l with
 |nil=>simp [JA]
 |cons c l ih =>
  rw [HQ,aJ] at h
  have:=ih h.2
  have hc:=Ys.1 h.1
  rw [NA,aW,bC]
  have:(c.toNat - 48)*10^l.length≤9*10^l.length:=fH _ (by omega)
  omega
theorem Yq {d:Nat} (h:d<10):(eQ (48+d)).toNat=48+d:=by
 rw [UInt8.toNat_ofNat'];omega
theorem Jb (n:Nat):XK (ae n)=true:=by
 induction n using ep with
 |_ n ih =>
  rw [ae]
  split
  ·rename_i h;simp [XK,Uo,Yq h];omega
  ·rw [ZG,ih (n / 10) (by omega)]
   have:n%10<10:=by omega
   simp [XK,Uo,Yq this];omega
theorem XI (n:Nat):JA (ae n)=n:=by
 induction n using ep with
 |_ n ih =>
  rw [ae]
  split
  ·rename_i h;rw [VI,Yq h];omega
  ·rw [YE,ih (n / 10) (by omega),VI,Yq (by omega)]
   simp;omega
theorem KS (n:Nat):ae n≠[]:=by
 rw [ae];split<;>simp
theorem Zq:ae 0=[48]:=by rw [ae];rfl
theorem UN {n:Nat} (h:0<n):∃ c l,ae n=c::l∧c≠48:=by
 induction n using ep with
 |_ n ih =>
  rw [ae]
  split
  ·rename_i h10
   refine⟨_,[],rfl,fun e=>?_⟩
   have:=Yq h10
   rw [e] at this;simp at this;omega
  ·obtain ⟨c,l,e,hc⟩:=ih (n / 10) (by omega) (by omega)
   exact⟨c,l++[eQ (48+n%10)],by rw [e];rfl,hc⟩
def XV (l:List UInt8):Bool:=XK l&&!l.isEmpty&&(l==[48]||!(l.head?==some 48))
theorem VV {n d:Nat} (hn:0<n) (hd:d<10):ae (n*10+d)=ae n++[eQ (48+d)]:=by
 rw [ae,dif_neg (by omega)]
 congr 2
 ·congr 1;omega
 ·congr 2;omega
theorem UL {c:UInt8} (h:Uo c=true):eQ (48+(c.toNat - 48))=c:=by
 have:=Ys.1 h
 apply eH
 rw [Yq (by omega)];omega
theorem B8:∀ {l:List UInt8},XK l=true→l≠[]→l.head?≠some 48→ae (JA l)=l∧0<JA l:=by
 intro l
 induction hn:l.length generalizing l with
 |zero=>intro _ h _;exact absurd (aN hn) h
 |succ n ih =>
  intro ha hne hh
  rcases List.eq_nil_or_concat l with h | ⟨a,c,rfl⟩
  ·exact absurd h hne
  ·simp only [List.concat_eq_append] at *
   rw [ZG,aJ] at ha
   have hc:Uo c=true:=by simpa [XK] using ha.2
   have hc':=Ys.1 hc
   rw [YE,VI]
   cases a with
   |nil =>
    have h48:c≠48:=by simpa using hh
    have:c.toNat≠48:=fun e=>h48 (eH (by rw [e];rfl))
    simp only [IS,im,bB,bZ]
    refine⟨?_,by omega⟩
    rw [ae,dif_pos (by omega),UL hc]
   |cons x a =>
    obtain ⟨h1,h2⟩:=ih (l:=x::a) (by simp at hn ⊢;omega) ha.1 (by simp) (by simpa using hh)
    refine⟨?_,by simp;omega⟩
    simp only [ey,Nat.pow_one]
    rw [VV h2 (by omega),h1,UL hc]
theorem Gg {l:List UInt8} (h:XV l=true):ae (JA l)=l:=by
 simp only [XV,aJ,ig,beq_iff_eq,fV,List.isEmpty_eq_false_iff] at h
 rcases h.2 with h1 | h1
 ·subst h1;rw [VI];exact Zq
 ·exact(B8 h.1.1 h.1.2 (by simpa using h1)).1
theorem Cj {l:List UInt8} (h:XK l=true):∀ a,fP a l=some (a*10^l.length+JA l):=by
 induction l with
 |nil=>intro a;simp [fP,JA]
 |cons c l ih =>
  intro a
  rw [HQ,aJ] at h
  have hc:=Ys.1 h.1
  simp only [fP,Lib.digitVal,if_pos hc]
  rw [ih h.2,NA,aW,bC,eU,fi,fy 10,eJ]
theorem LK {l:List UInt8} (h:XK l=true) (hne:l≠[]):il l=some (JA l:Int):=by
 cases l with
 |nil=>exact absurd rfl hne
 |cons c l =>
  have hc:=Ys.1 (by rw [HQ,aJ] at h;exact h.1)
  have h1:(c==45)=false:=by
   apply beq_eq_false_iff_ne.2
   rintro rfl;simp at hc
  have h2:(c==43)=false:=by
   apply beq_eq_false_iff_ne.2
   rintro rfl;simp at hc
  simp only [il,h1,h2,bP,if_false,Lib.decNat,List.isEmpty_cons]
  rw [Cj h];simp
def Vf (k:Nat) (l:List UInt8):List UInt8:=eX [48] (k - l.length)++l
theorem KV (k:Nat):eX [48] k=aA k 48:=by
 induction k with
 |zero=>rfl
 |succ k ih=>rw [eX,ih];rfl
theorem Zj {u k:Nat} (h:u<10^k) (hk:0<k):aM u≤k:=by
 induction k generalizing u with
 |zero=>omega
 |succ k ih =>
  by_cases h10:u<10
  ·rw [Lib.nDigits_small h10];omega
  ·rw [Lib.nDigits_big h10]
   rcases fT k with h0 | h0
   ·subst h0;simp at h;omega
   ·have:=ih (u:=u / 10) (by rw [bC] at h;omega) h0;omega
theorem Oj {u:Nat} (h:0<u):10^(aM u - 1)≤u:=by
 induction u using ep with
 |_ u ih =>
  by_cases h10:u<10
  ·rw [Lib.nDigits_small h10];simp;omega
  ·rw [Lib.nDigits_big h10]
   have:=ih (u / 10) (by omega) (by omega)
   have h1:=Lib.nDigits_pos (u / 10)
   obtain ⟨k,hk⟩:∃ k,aM (u / 10)=k+1:=⟨_,(Nat.sub_add_cancel h1).symm⟩
   rw [hk] at this ⊢
   simp only [eL] at this ⊢
   rw [bC];omega
theorem SD {u k:Nat} (hk:0<k):k<aM u↔10^k≤u:=by
 constructor
 ·intro h
  rcases bg u (10^k) with g | g
  ·have:=Zj g hk;omega
  ·exact g
 ·intro h
  rcases bg k (aM u) with g | g
  ·exact g
  ·have h1:=Lib.lt_pow_nDigits u
   have h2:10^aM u≤10^k:=bI (by decide) g
   omega
theorem Ta {k:Nat} {l:List UInt8} (h:l.length≤k):(Vf k l).length=k:=by
 unfold Vf;rw [KV];simp;omega
theorem Oy (k:Nat) (l:List UInt8) (c:UInt8):Vf (k+1) (l++[c])=Vf k l++[c]:=by
 unfold Vf;simp
theorem Kr {q:Nat} (hq:0<q):∀ (k r:Nat),0<k→r<10^k→ae (q*10^k+r)=ae q++Vf k (ae r)
 |0,_,h,_=>by omega
 |1,r,_,hr=>by
  simp only [Nat.pow_one] at *
  rw [VV hq hr,eO hr]
  rfl
 |k+2,r,_,hr=>by
  have e:q*10^(k+2)+r=(q*10^(k+1)+r / 10)*10+r%10:=by
   rw [bC,← fi];omega
  have hr1:r / 10<10^(k+1):=by rw [bC] at hr;omega
  have hpos:0<q*10^(k+1)+r / 10:=by
   have:=Nat.mul_pos hq (Nat.pow_pos (n:=k+1) (show 0<10 by decide));omega
  rw [e,VV hpos (by omega),Kr hq (k+1) (r / 10) (by omega) hr1,aP]
  congr 1
  by_cases h10:r<10
  ·rw [eO (show r / 10<10 by omega),eO h10]
   have h0:r / 10=0:=by omega
   rw [h0]
   unfold Vf
   rw [KV,KV]
   simp only [ey,eL]
   rw [show k+2 - 1=k+1 by omega,fF,Nat.mod_eq_of_lt h10]
   rfl
  ·rw [← Oy]
   congr 1
   rw [Lib.decDigits.eq_1 r,dif_neg h10]
def X1 (z:Int):List UInt8:=fO z
def JN (r:Rat):List UInt8:=if r.den=1 then X1 r.num else X1 r.num++47::ae r.den
theorem YU {z:Int} (h:z<0):X1 z=45::ae z.natAbs:=by unfold X1 fO;rw [if_pos h]
theorem J3 {z:Int} (h:0≤z):X1 z=ae z.natAbs:=by
 unfold X1 fO;rw [if_neg (by omega)]
 congr 1;omega
def YA (l:List UInt8):Int:=if aE l [45] then -(JA (l.drop 1):Int) else(JA l:Int)
theorem Kq {l:List UInt8} (h:XK l=true):aE l [45]=false:=by
 cases l with
 |nil=>rfl
 |cons c l =>
  have hc:=Ys.1 (by rw [HQ,aJ] at h;exact h.1)
  have:(45==c)=false:=by
   apply beq_eq_false_iff_ne.2
   rintro rfl;simp at hc
  simp [aE,cb,this]
theorem YS (z:Int):YA (X1 z)=z:=by
 unfold YA
 by_cases h:z<0
 ·rw [YU h]
  simp [aE,cb,XI];omega
 ·rw [J3 (by omega),Kq (Jb _)]
  simp [XI];omega
theorem XW {a b:Int} {m n:Nat} (h:sz a≤m) (k:sz b≤n):sz (a*b)≤m+n:=ab (Vy a b) (Nat.add_le_add h k)
theorem Pk {a b:Int} {m n:Nat} (h:sz a≤m) (k:sz b≤n):sz (a+b)≤max m n+1:=by have:=U7 a b;omega
theorem YL {a b:Int} (hb:b≠0):JL (aF a b)≤max (sz a) (sz b):=by
 have key:∀ (x y:Int),0<y→JL (aF x y)≤max (sz x) (sz y):=by
  intro x y hy
  have h:=K8 (x:=x) hy
  unfold JL
  rw [h.1,h.2]
  have h1:sz (x / (bV x y:Int))≤sz x:=Yx (bh _ _)
  have h2:sz (y / (bV x y:Int))≤sz y:=Yx (bh _ _)
  omega
 rcases Int.lt_or_gt_of_ne hb with h | h
 ·rw [← fR]
  have:=key (-a) (-b) (by omega)
  rw [Yd,Yd] at this;exact this
 ·exact key a b h
theorem Y2 (r:Rat):(r.den:Int)≠0:=by have:=den_pos r;omega
theorem Gi (r s:Rat):r+s=aF (r.num*s.den+s.num*r.den) ((r.den:Int)*s.den):=by
 rw [Rat.add_def',← Rat.divInt_ofNat,eZ]
theorem Gb (r s:Rat):r*s=aF (r.num*s.num) ((r.den:Int)*s.den):=by
 rw [Rat.mul_def',← Rat.divInt_ofNat,eZ]
theorem GB (r:Rat):JL (-r)=JL r:=by unfold JL;rw [Rat.neg_num,Rat.neg_den,Yd]
theorem Vc (r s:Rat):JL (r+s)≤JL r+JL s+1:=by
 rw [Gi]
 refine ab (YL (eB (Y2 r) (Y2 s))) ?_
 have h1:=Pk (XW (Jl r) (Jf s)) (XW (Jl s) (Jf r))
 have h2:=XW (Jf r) (Jf s)
 omega
theorem J9 (r s:Rat):JL (r*s)≤JL r+JL s:=by
 rw [Gb]
 refine ab (YL (eB (Y2 r) (Y2 s))) ?_
 have h1:=XW (Jl r) (Jl s)
 have h2:=XW (Jf r) (Jf s)
 omega
theorem qY {r:Rat} (h:r.num≠0):JL r⁻¹≤JL r:=by
 rw [Rat.inv_def]
 have:=YL (a:=(r.den:Int)) h
 unfold JL at this ⊢;omega
theorem Gr (n:Int):JL (n:Rat)≤max (sz n) 1:=by
 unfold JL;rw [ej,ek]
 have:sz ((1:Nat):Int)=1:=by decide
 omega
theorem WT (r:Rat) (k:Nat):JL (r^k)≤k*JL r+1:=by
 unfold JL
 rw [Rat.num_pow,Rat.den_pow,eY]
 have h1:=H5 r.num k
 have h2:=H5 (r.den:Int) k
 have h3:=aQ k (ij (sz r.num) (sz (r.den:Int)))
 have h4:=aQ k (ib (sz r.num) (sz (r.den:Int)))
 omega
theorem D8 (r:Rat):sz r.floor≤JL r:=by
 rw [Rat.floor_def]
 exact ab (Yx (bh _ _)) (Jl r)
theorem KX {w:ag} {F:Gs} {x y:Fr} {r s:Rat} (hF:Fits F w) (h:JY F x r) (h':JY F y s) (hr:JL r≤100000000) (hs:JL s≤100000000):ZM Tryz.prog 109 [x.v,y.v] w F (r*s):=by
 refine QT.intro (G:=fun F=>JY F x r∧JY F y s) Tryz.func109 rfl (by rfl) rfl rfl hF (fun F' hF'=>⟨h.le hF',h'.le hF'⟩)<|wE<|Q2 rfl (vs:=[_,_,_,_]) rfl (fun b2=>Q2 rfl (vs:=[_,_,_,_]) rfl (fun b3=>Qg Xs (fun b4=>wC<|QG<|JV (.cons _ (.cons_cons _ (.cons_cons _ .slnil))) mixed (by kernel_rfl)<|QK (QI rfl ZS QY)<|QK (QJ (vs:=[_,_]) rfl QY .u1 .h2 rfl)<|QK (QI rfl ZS QY)<|QK (QJ (vs:=[_,_]) rfl QY .here .h2 rfl)<|Qd rfl (fun w F hF h9=>Hr hF h9.1.1 h9.2.1 (ab (Jl r) (by omega)) (ab (Jl s) (by omega))) (fun g9=>QK (QI rfl ZR QY)<|QK (QJ (vs:=[_,_]) rfl QY .u1 (.skip (.skip .h2)) rfl)<|QK (QI rfl ZR QY)<|QK (QJ (vs:=[_,_]) rfl QY .here (.skip (.skip .h2)) rfl)<|Qd rfl (fun w F hF h9=>Hr hF h9.1.1.2 h9.1.2.2 (ab (Jf r) (by omega)) (ab (Jf s) (by omega))) (fun g14=>Qd rfl (fun w F hF ⟨⟨⟨⟨hn,hd⟩,⟨kn,kd⟩⟩,h9⟩,h14⟩=>NV hF h9 h14 (eB (Y2 r) (Y2 s)) (ab (XW (Jl r) (Jl s)) (by omega)) (ab (XW (Jf r) (Jf s)) (by omega))) (fun x15=>JE (vs:=[_,_,_,_]) rfl rfl rfl Qe rfl .here (.cons_cons _ (.cons_cons _ .slnil)) (fun _ h=>h.1.1.1) .h4 wN<|Q3<|QC<|QS ?_))))))
 exact QP (_) rfl (.Jd (c:=[_,_,_,_]) rfl Qe .here .nil) rfl (fun F h9=>(by rw [Gb];exact⟨h9.2.1,h9.2.2⟩))
theorem LM {r s:Rat} (h:(r.den:Int)=1) (k:(s.den:Int)=1):r+s=((r.num+s.num:Int):Rat):=by
 have h1:r.den=1:=by omega
 have k1:s.den=1:=by omega
 rw [Rat.add_def',h1,k1]
 apply Rat.ext
 ·rw [Rat.num_mkRat,ej];simp
 ·rw [Rat.den_mkRat,ek];simp
theorem Eo {w:ag} {F:Gs} {x y:Fr} {r s:Rat} (hF:Fits F w) (h:JY F x r) (h':JY F y s) (hr:JL r≤100000000) (hs:JL s≤100000000):ZM Tryz.prog 131 [x.v,y.v] w F (r+s):=by
 refine QT.intro (G:=fun F=>JY F x r∧JY F y s) Tryz.func131 rfl (by rfl) rfl rfl hF (fun F' hF'=>⟨h.le hF',h'.le hF'⟩)<|wE<|Q2 rfl (vs:=[_,_,_,_]) rfl (fun b2=>Q2 rfl (vs:=[_,_,_,_]) rfl (fun b3=>Qg Xs (fun b4=>wC<|QG ?_)))
 refine VZ 10 (.bool (decide ((r.den:Int)=1)&&decide ((s.den:Int)=1))) ?_ ?_
 ·
  refine QB<|QA (QJ (vs:=[_,_,_,_]) rfl Qe .u2 .h4 rfl)<|QH rfl (fun w F hF ⟨⟨hn,hd⟩,⟨kn,kd⟩⟩=>Dh hF ⟨by assumption,by assumption⟩) (fun _=>wA rfl ?_)
  refine Qn (t:=7) rfl (fun hb7=>?_) (fun hb7=>?_)
  ·
   refine QL rfl rfl<|QA (QJ (vs:=[_,_,_,_]) rfl Qe .u1 .h4 rfl)<|QL rfl rfl<|QH rfl (fun w F hF ⟨⟨⟨hn,hd⟩,⟨kn,kd⟩⟩,_⟩=>Dh hF ⟨by assumption,by assumption⟩) (fun _=>QA (Qi rfl rfl rfl)<|QE ?_)
   exact Js (exd 7 rfl rfl) (by show some (ak _)=some (ak _);rw [hb7];rfl) wG (fun _ h=>h.1.1)
  ·
   refine QN rfl rfl rfl<|QN rfl rfl rfl<|QA (Qh rfl rfl rfl)<|QE ?_
   exact Js (exd 7 rfl rfl) (by show some (ak false)=some (ak _);rw [hb7];rfl) wG (fun _ h=>h.1)
 ·
  refine QQ rfl (fun hc=>?_) (fun hc=>?_)
  ·
   refine wE<|QA (QI rfl ZS QY)<|QA (QJ (vs:=[_,_]) rfl QY .u2 .h2 rfl)<|QA (QI rfl ZS QY)<|QA (QJ (vs:=[_,_]) rfl QY .u1 .h2 rfl)<|QH rfl (fun w F hF h9=>Fy hF h9.1.1 h9.2.1 (ab (Jl r) (by omega)) (ab (Jl s) (by omega))) (fun g15=>QH rfl (fun w F hF ⟨⟨⟨hn,hd⟩,⟨kn,kd⟩⟩,h15⟩=>BU hF (by assumption)) (fun x16=>QR (vs:=[_,_,_,_]) rfl rfl rfl Qe rfl .here .h4 wN<|wC<|QS ?_))
   exact QP (_) rfl (.Jd (c:=[_,_,_,_]) rfl Qe .here .nil) rfl (fun F h9=>(by have hc2:(r.den:Int)=1∧(s.den:Int)=1:=(by simpa using hc);have e:(r+s:Rat)=((r.num+s.num:Int):Rat):=LM hc2.1 hc2.2;rw [e];exact⟨h9.2.1,h9.2.2⟩))
  ·
   refine QO<|QC<|QG<|JV (.cons _ (.cons_cons _ (.cons_cons _ .slnil))) mixed (by kernel_rfl)<|QK (QI rfl ZS QY)<|QK (QJ (vs:=[_,_]) rfl QY .u1 .h2 rfl)<|QK (QI rfl ZR QY)<|QK (QJ (vs:=[_,_]) rfl QY .here (.skip (.skip .h2)) rfl)<|Qd rfl (fun w F hF h9=>Hr hF h9.1.1 h9.2.2 (ab (Jl r) (by omega)) (ab (Jf s) (by omega))) (fun g21=>QK (QI rfl ZS QY)<|QK (QJ (vs:=[_,_]) rfl QY .here .h2 rfl)<|QK (QI rfl ZR QY)<|QK (QJ (vs:=[_,_]) rfl QY .u1 (.skip (.skip .h2)) rfl)<|Qd rfl (fun w F hF h9=>Hr hF h9.1.2.1 h9.1.1.2 (ab (Jl s) (by omega)) (ab (Jf r) (by omega))) (fun g26=>Qd rfl (fun w F hF h9=>Fy hF h9.1.2 h9.2 (ab (XW (Jl r) (Jf s)) (by omega)) (ab (XW (Jl s) (Jf r)) (by omega))) (fun g27=>QK (QI rfl ZR QY)<|QK (QJ (vs:=[_,_]) rfl QY .u1 (.skip (.skip .h2)) rfl)<|QK (QI rfl ZR QY)<|QK (QJ (vs:=[_,_]) rfl QY .here (.skip (.skip .h2)) rfl)<|Qd rfl (fun w F hF h9=>Hr hF h9.1.1.1.1.2 h9.1.1.1.2.2 (ab (Jf r) (by omega)) (ab (Jf s) (by omega))) (fun g32=>Qd rfl (fun w F hF h9=>NV hF h9.1.2 h9.2 (eB (Y2 r) (Y2 s)) (ab (Pk (XW (Jl r) (Jf s)) (XW (Jl s) (Jf r))) (by omega)) (ab (XW (Jf r) (Jf s)) (by omega))) (fun x33=>JE (vs:=[_,_,_,_]) rfl rfl rfl Qe rfl .here (.cons_cons _ (.cons_cons _ .slnil)) (fun _ h=>h.1.1.1.1.1) .h4 wN<|Q3<|QC<|QS ?_)))))
   exact QP (_) rfl (.Jd (c:=[_,_,_,_]) rfl Qe .here .nil) rfl (fun F h9=>(by rw [Gi];exact⟨h9.2.1,h9.2.2⟩))
theorem y7 {w:ag} {F:Gs} {x:Fr} {r:Rat} (hF:Fits F w) (h:JY F x r) (h0:r.num≠0) (hr:JL r≤100000000):ZM Tryz.prog 241 [x.v] w F r⁻¹:=by
 refine QT.intro (G:=fun F=>JY F x r) Tryz.func241 rfl (by rfl) rfl rfl hF (fun F' hF'=>h.le hF')<|wE<|Q2 rfl (vs:=[_,_,_,_]) rfl (fun b1=>Qg Xs (fun b2=>wC<|wE<|QA (QI rfl ZR QY)<|QA (QJ (vs:=[_,_]) rfl QY .u1 (.skip (.skip .h2)) rfl)<|QA (QI rfl ZS QY)<|QA (QJ (vs:=[_,_]) rfl QY .u1 .h2 rfl)<|QH rfl (fun w F hF h9=>NV hF h9.2 h9.1 h0 (ab (Jf r) (by omega)) (ab (Jl r) (by omega))) (fun x7=>QR (vs:=[_,_,_,_]) rfl rfl rfl Qe rfl .here .h4 wN<|wC<|QS ?_)))
 exact QP (_) rfl (.Jd (c:=[_,_,_,_]) rfl Qe .here .nil) rfl (fun F h9=>(by rw [Rat.inv_def];exact⟨h9.2.1,h9.2.2⟩))
theorem cg {w:ag} {F:Gs} {x y:Fr} {r s:Rat} (hF:Fits F w) (h:JY F x r) (h':JY F y s) (h0:s.num≠0) (hr:JL r≤100000000) (hs:JL s≤100000000):ZM Tryz.prog 191 [x.v,y.v] w F (r / s):=by
 refine QT.intro (G:=fun F=>JY F x r∧JY F y s) Tryz.func191 rfl (by rfl) rfl rfl hF (fun F' hF'=>⟨h.le hF',h'.le hF'⟩)<|wE<|Q2 rfl (vs:=[_,_,_,_]) rfl (fun b2=>Q2 rfl (vs:=[_,_,_,_]) rfl (fun b3=>Qg Xs (fun b4=>wC<|QG<|JV (.cons _ (.cons_cons _ (.cons_cons _ .slnil))) mixed (by kernel_rfl)<|QK (QJ (vs:=[_,_,_,_]) rfl Qe .u1 .h4 rfl)<|QK (QJ (vs:=[_,_,_,_]) rfl Qe .here .h4 rfl)<|Qd rfl (fun w F hF h9=>y7 hF ⟨h9.2.1,h9.2.2⟩ h0 hs) (fun x7=>Qd rfl (fun w F hF h9=>KX hF ⟨h9.1.1.1,h9.1.1.2⟩ ⟨h9.2.1,h9.2.2⟩ hr (ab (qY h0) hs)) (fun x8=>JE (vs:=[_,_,_,_]) rfl rfl rfl Qe rfl .here (.cons_cons _ (.cons_cons _ .slnil)) (fun _ h=>h.1.1) .h4 wN<|Q3<|QC<|QS ?_)))))
 exact QP (_) rfl (.Jd (c:=[_,_,_,_]) rfl Qe .here .nil) rfl (fun F h9=>(by rw [Rat.div_def];exact⟨h9.2.1,h9.2.2⟩))
def Wr (r s:Rat):Int:=if r<s then -1 else if r=s then 0 else 1
theorem jy (r s:Rat):Zd (r.num*s.den) (s.num*r.den)=Wr r s:=by
 unfold Wr
 rcases bU (r.num*s.den) (s.num*r.den) with h | h | h
 ·rw [Vr h,if_pos ((fS r s).2 h)]
 ·rw [h,ML,if_neg (by rw [fS];omega),if_pos (Rat.eq_iff_mul_eq_mul.2 h)]
 ·rw [HH h,if_neg (by rw [fS];omega),if_neg (by rw [Rat.eq_iff_mul_eq_mul];omega)]
theorem SV {w:ag} {F:Gs} {x y:Fr} {r s:Rat} (hF:Fits F w) (h:JY F x r) (h':JY F y s) (hr:JL r≤100000000) (hs:JL s≤100000000):QZ Tryz.prog 123 [x.v,y.v] w F (.int .i64 (Wr r s)):=by
 rw [← jy]
 refine QT.intro (G:=fun F=>JY F x r∧JY F y s) Tryz.func123 rfl (by rfl) rfl rfl hF (fun F' hF'=>⟨h.le hF',h'.le hF'⟩)<|wE<|Q2 rfl (vs:=[_,_,_,_]) rfl (fun b2=>Q2 rfl (vs:=[_,_,_,_]) rfl (fun b3=>wD rfl<|QG<|JV wG mixed (by kernel_rfl)<|QK (QI rfl ZS QY)<|QK (QJ (vs:=[_,_]) rfl QY .u1 .h2 rfl)<|QK (QI rfl ZR QY)<|QK (QJ (vs:=[_,_]) rfl QY .here (.skip (.skip .h2)) rfl)<|Qd rfl (fun w F hF h9=>Hr hF h9.1.1 h9.2.2 (ab (Jl r) (by omega)) (ab (Jf s) (by omega))) (fun g9=>QK (QI rfl ZS QY)<|QK (QJ (vs:=[_,_]) rfl QY .here .h2 rfl)<|QK (QI rfl ZR QY)<|QK (QJ (vs:=[_,_]) rfl QY .u1 (.skip (.skip .h2)) rfl)<|Qd rfl (fun w F hF h9=>Hr hF h9.1.2.1 h9.1.1.2 (ab (Jl s) (by omega)) (ab (Jf r) (by omega))) (fun g14=>Qd rfl (fun w F hF ⟨⟨⟨⟨hn,hd⟩,⟨kn,kd⟩⟩,h9⟩,h14⟩=>pF hF h9 h14 (ab (XW (Jl r) (Jf s)) (by omega)) (ab (XW (Jl s) (Jf r)) (by omega))) (fun _=>QK (QF rfl)<|Q3<|QC<|QS ?_)))))
 exact wH rfl rfl rfl (fun F h9=>trivial)
theorem Nj {w:ag} {F:Gs} {x:Fr} {r:Rat} (hF:Fits F w) (h:JY F x r) (hr:JL r≤100000000):Xh Tryz.prog 114 [x.v] w F r.floor:=by
 refine QT.intro (G:=fun F=>JY F x r) Tryz.func114 rfl (by rfl) rfl rfl hF (fun F' hF'=>h.le hF')<|wE<|Q2 rfl (vs:=[_,_,_,_]) rfl (fun b1=>Qg Ze (fun b2=>wC<|wE<|QA (QI rfl ZS QY)<|QA (QJ (vs:=[_,_]) rfl QY .u1 .h2 rfl)<|QA (QI rfl ZR QY)<|QA (QJ (vs:=[_,_]) rfl QY .u1 (.skip (.skip .h2)) rfl) ?_))
 refine QH rfl (fun w F hF h9=>B5 hF h9.1 h9.2 (den_pos r) (ab (Jl r) (by omega)) (ab (Jf r) (by omega))) (fun c10=>?_);rcases c10 with ⟨g10,g10_⟩;dsimp only
 refine wA rfl<|QA (QM rfl rfl)<|QA (QM rfl rfl)<|Qg Ze (fun b3=>Qg Ze (fun b4=>QR (vs:=[_,_]) rfl rfl rfl QY rfl .u1 .h2 wL<|QR (vs:=[_,_]) rfl rfl rfl QY rfl .here .h2 wL<|wC<|wE<|QA (QJ (vs:=[_,_]) rfl QY .u1 .h2 rfl)<|QR (vs:=[_,_]) rfl rfl rfl QY rfl .u2 .h2 wL<|wC<|QS ?_))
 exact QP (_) rfl (.Jd (c:=[_,_]) rfl QY .u2 .nil) rfl (fun F h9=>(by rw [Rat.floor_def];exact h9.2.1))
theorem jn {w:ag} {F:Gs} {x:Fr} {r:Rat} (hF:Fits F w) (h:JY F x r) (hr:JL r≤100000000):Xh Tryz.prog 115 [x.v] w F (-(-r).floor):=by
 refine QT.intro (G:=fun F=>JY F x r) Tryz.func115 rfl (by rfl) rfl rfl hF (fun F' hF'=>h.le hF')<|wE<|Q2 rfl (vs:=[_,_,_,_]) rfl (fun b1=>Qg Ze (fun b2=>wC<|wE<|QA (QJ (vs:=[_,_,_,_]) rfl Qe .u1 .h4 rfl)<|QH rfl (fun w F hF h9=>y6 hF ⟨h9.1,h9.2⟩) (fun x4=>QH rfl (fun w F hF h9=>Nj hF ⟨h9.2.1,h9.2.2⟩ (by rw [GB];exact hr)) (fun g5=>QH rfl (fun w F hF ⟨⟨⟨hn,hd⟩,⟨h4,h4_⟩⟩,h5⟩=>EK hF (by assumption)) (fun g6=>QR (vs:=[_,_]) rfl rfl rfl QY rfl .here .h2 wL<|wC<|QS ?_)))))
 exact QP (_) rfl (.Jd (c:=[_,_]) rfl QY .here .nil) rfl (fun F h9=>h9.2)
theorem BF:(aF 1 2).num=1∧((aF 1 2).den:Int)=2:=by decide +kernel
theorem Pj:JL (aF 1 2)≤2:=by decide +kernel
theorem CQ {w:ag} {F:Gs} {x:Fr} {r:Rat} (hF:Fits F w) (h:JY F x r) (hr:JL r≤90000000):Xh Tryz.prog 112 [x.v] w F (r+aF 1 2).floor:=by
 refine QT.intro (G:=fun F=>JY F x r) Tryz.func112 rfl (by rfl) rfl rfl hF (fun F' hF'=>h.le hF')<|wE<|Q2 rfl (vs:=[_,_,_,_]) rfl (fun b1=>Qg Ze (fun b2=>wC<|QG<|JV (.cons _ (.cons_cons _ .slnil)) mixed (by kernel_rfl)<|QK (QJ (vs:=[_,_,_,_]) rfl Qe .here .h4 rfl)<|Qd rfl (fun w F hF h9=>NL hF (by omega) (by omega)) (fun g4=>Qd rfl (fun w F hF h9=>NL hF (by omega) (by omega)) (fun g5=>QK (Q7 rfl H9 Xs (.cons (vs:=[_,_]) rfl rfl rfl .h2 (.cons (vs:=[_,_]) rfl rfl rfl (.skip (.skip .h2)) .nil)))<|Qd rfl (fun w F hF ⟨⟨⟨hn,hd⟩,h4⟩,h5⟩=>Eo (y:=⟨g4,g5⟩) (s:=aF 1 2) hF ⟨hn,hd⟩ ⟨by rw [BF.1];exact h4,by rw [BF.2];exact h5⟩ (by omega) (by have:=Pj;omega)) (fun x7=>Qd rfl (fun w F hF h9=>Nj hF ⟨h9.2.1,h9.2.2⟩ (by have:=Vc r (aF 1 2);have:=Pj;omega)) (fun g8=>JE (vs:=[_,_]) rfl rfl rfl QY rfl .here (.cons_cons _ .slnil) (fun _ h=>h.1.1.1.1) .h2 wL<|Q3<|QC<|QS ?_))))))
 exact QP (_) rfl (.Jd (c:=[_,_]) rfl QY .here .nil) rfl (fun F h9=>h9.2)
theorem En {w:ag} {F:Gs} {x:Fr} {r:Rat} {k:Int} (hF:Fits F w) (h:JY F x r) (hk:0≤k) (hK:k≤9223372036854775807) (hz:k.toNat*JL r≤500000000):ZM Tryz.prog 225 [x.v,.int .i64 k] w F (r^k.toNat):=by
 refine QT.intro (G:=fun F=>JY F x r) Tryz.func225 rfl (by rfl) rfl rfl hF (fun F' hF'=>h.le hF')<|wE<|Q2 rfl (vs:=[_,_,_,_]) rfl (fun b2=>Qg Xs (fun b4=>wC<|QG<|JV (.cons _ (.cons_cons _ .slnil)) mixed (by kernel_rfl)<|QK (QI rfl ZS QY)<|QK (QJ (vs:=[_,_]) rfl QY .here .h2 rfl)<|QK (QD rfl)<|Qd rfl (fun w F hF h9=>TU hF h9.1 hk hK (ab (aQ _ (Jl r)) hz)) (fun g8=>QK (QI rfl ZR QY)<|QK (QJ (vs:=[_,_]) rfl QY .here (.skip (.skip .h2)) rfl)<|QK (QD rfl)<|Qd rfl (fun w F hF h9=>TU hF h9.1.2 hk hK (ab (aQ _ (Jf r)) hz)) (fun g12=>QK (Q7 rfl H9 Xs (.cons (vs:=[_,_]) rfl rfl rfl .h2 (.cons (vs:=[_,_]) rfl rfl rfl (.skip (.skip .h2)) .nil)))<|JE (vs:=[_,_,_,_]) rfl rfl rfl Qe rfl .here (.cons_cons _ .slnil) (fun _ h=>h.1.1) .h4 wN<|Q3<|QC<|QS ?_))))
 exact QP (⟨g8,g12⟩) rfl (.Jd (c:=[_,_,_,_]) rfl Qe .here .nil) rfl (fun F h9=>⟨by rw [Rat.num_pow];exact h9.1.2,by rw [Rat.den_pow,eY];exact h9.2⟩)
theorem Yh.kind {w:ag} {s:Int} {q:Option Addr} {n cap:Nat} {z:Int} (h:Yh w s q n cap z):(q.isNone=true∧s=z∧-9223372036854775808≤z∧z≤9223372036854775807)∨(q.isNone=false∧¬ (-9223372036854775808≤z∧z≤9223372036854775807∧z≠-9223372036854775808)):=by
 rcases h with ⟨rfl,_,_,h1,h2,h3⟩ | ⟨b,off,l,rfl,_,_,_,_,_,_,_,hs,hz,hd⟩
 ·exact .inl ⟨rfl,h1,h2,h3⟩
 ·refine .inr ⟨rfl,?_⟩
  rcases hs with rfl | rfl<;>omega
theorem qe {w:ag} {F:Gs} {g:Bg} {a:Int} (hF:Fits F w) (h:Jv F g a):QT Tryz.prog 165 [g.v] w F (fun(c:Int×Bool)=>.tuple #[.int .i64 c.1,.bool c.2])
  (fun c _=>(c.2=true∧c.1=a∧-9223372036854775808≤a∧a≤9223372036854775807)∨(c.2=false∧¬ (-9223372036854775808≤a∧a≤9223372036854775807∧a≠-9223372036854775808))):=by
 have hk:=Yh.kind (h w hF.r)
 refine QT.intro (G:=fun F=>Jv F g a) Tryz.func165 rfl (by rfl) rfl rfl hF (fun F' hF'=>h.le hF')<|wE<|Q2 rfl (vs:=[_,_]) rfl (fun b1=>wB rfl<|wD rfl<|QG<|JV wG mixed (by kernel_rfl)<|QK (QI rfl B0 Qp)<|QK (Qm rfl Qp .here .h1)<|QK (QI rfl G7 Km)<|QK (Qm rfl Km .here (.skip .h1))<|QK (WB rfl rfl Ye)<|QK (QF rfl)<|QK (QF rfl)<|Q3<|QC<|QS ?_)
 exact Ja ((g.s,g.q.isNone)) rfl (.tmp rfl (.tmp rfl .nil)) rfl (fun F _=>hk)
theorem FW {P:bm} {N:Nat} {m:Sl} {w0:ag} {F0:Gs} {bs:List (Nat×Obj)} {G:Gs→Prop} {ty T:aB} {x:aL} {b off n k cap i:Nat} {l:List Int} (hx:ev m x=some (.pointer (some ⟨b,off+i*1,none⟩))) (ht:YJ P T=some (false,n)) (hr:∀ F,G F→Kh F ⟨some ⟨b,off,none⟩,k,cap⟩ l) (hi:i<l.length) :
  Qt P N m (St ⟨w0,F0,bs,G⟩) (.load T x) ty (.int .u64 (l.getD i 0)):=fun a w _ _ _ _ ha hw=>by
 obtain ⟨F,hw⟩:=hw
 obtain ⟨q,cap',e,_,_,hc⟩:=(hr F hw.hG).1 w hw.fits.r
 obtain ⟨b',off',e1,_,e2⟩:=hc i hi
 simp only [Sr.v,bj] at e
 have e3:=e.1.trans e1
 simp only [bL,fb] at e3
 obtain ⟨rfl,rfl,_⟩:=e3
 have hc':w.cell? ⟨b,off+i*1,none⟩=some (.int .u64 (l.getD i 0)):=by rw [iC];exact e2
 have hrun:=Zi (P:=P) ht hc'
 simp at hrun
 simp [execOp,ha.ev hx,eM,eD,hrun]
theorem Kh.at {F:Gs} {r:Sr} {l:List Int} (h:Kh F r l) {w:ag} (hw:Fits F w) (hl:l≠[]):r.n=l.length∧∃ b off,r.q=some ⟨b,off,none⟩:=by
 obtain ⟨q,cap,e,_,_,hc⟩:=h.1 w hw.r
 have hlen:0<l.length:=by cases l with | nil=>exact absurd rfl hl | cons=>simp
 obtain ⟨b,off,e1,_,_⟩:=hc 0 hlen
 simp only [Sr.v,bj] at e
 exact⟨e.2.1,b,off,e.1.trans e1⟩
theorem Kh.len {F:Gs} {r:Sr} {l:List Int} (h:Kh F r l) {w:ag} (hw:Fits F w):r.n=l.length:=by
 obtain ⟨q,cap,e,_,_,hc⟩:=h.1 w hw.r
 simp only [Sr.v,bj] at e
 exact e.2.1
theorem L5 {z:Int} {k:Nat} (h1:2^k≤z.natAbs) (h2:z.natAbs<2^(k+1)):sz z=k+1:=by
 have a:=(XR z (k+1)).2 h2
 have b:¬ sz z≤k:=fun h=>by have:=(XR z k).1 h;omega
 omega
theorem LF {l:List Int} (hd:DG W l) (hn:NZ l) (hl:l≠[]) {a:Int} (ha:dv W l=Jk a):sz a=64*(l.length - 1)+bD (l.getD (l.length - 1) 0).toNat∧bD (l.getD (l.length - 1) 0).toNat≤64:=by
 rcases M4 l with h | ⟨m,x,rfl⟩
 ·exact absurd h hl
 ·have hx:=hd x (by simp)
  have hx0:x≠0:=by intro e;subst e;simp [NZ] at hn
  have hm:DG W m:=hd.left
  have e1:((m++[x]).getD ((m++[x]).length - 1) 0)=x:=by simp
  rw [e1]
  have e2:(m++[x]).length - 1=m.length:=by simp
  rw [e2]
  have hW:W=18446744073709551616:=rfl
  obtain ⟨y,rfl⟩:=bw hx.1
  rw [ba]
  have hy1:y<2^64:=by have:=hx.2;rw [hW] at this;omega
  obtain ⟨g1,g2,g3⟩:=Lib.bitLenAux_bounds 64 y hy1 (by omega)
  change 1≤bD y at g1
  change 2^(bD y - 1)≤y at g2
  change y<2^bD y at g3
  have g4:bD y≤64:=Lib.bitLen_le y 64 (by omega) hy1
  refine⟨?_,g4⟩
  rw [XS] at ha
  have h0:=Qu (by decide:(0:Int)<W) hm
  have h1:=YB (by decide:(0:Int)<W) hm
  obtain ⟨d,hd'⟩:=bw h0
  have hWp:W^m.length=((2^(64*m.length):Nat):Int):=by
   rw [hW,iA];simp
  rw [hWp] at ha h1
  rw [hd'] at ha h1
  have hna:a.natAbs=d+2^(64*m.length)*y:=by
   have:((a.natAbs:Nat):Int)=((d+2^(64*m.length)*y:Nat):Int):=by
    rw [← KR,← ha];simp
   exact Int.ofNat.inj this
  have hlt:d<2^(64*m.length):=by omega
  obtain ⟨k,hk⟩:∃ k,bD y=k+1:=⟨_,(Nat.sub_add_cancel g1).symm⟩
  rw [hk] at g2 g3 ⊢
  rw [eL] at g2
  have hp:2^(64*m.length+k)=2^(64*m.length)*2^k:=iB _ _ _
  have hp':2^(64*m.length+k+1)=2^(64*m.length)*2^(k+1):=by rw [eJ,iB]
  refine L5 (k:=64*m.length+k) ?_ ?_
  ·rw [hna,hp]
   exact ab (aQ _ g2) (Nat.le_add_left _ _)
  ·rw [hna,hp']
   have h2:2^(64*m.length)*(y+1)≤2^(64*m.length)*2^(k+1):=aQ _ g3
   rw [iD] at h2
   omega
theorem kP {w:ag} {F:Gs} {g:Bg} {a:Int} (hF:Fits F w) (h:Jv F g a) (hza:sz a≤1000000000):QZ Tryz.prog 276 [g.v] w F (.int .i64 (sz a)):=by
 refine QT.intro (G:=fun F=>Jv F g a) Tryz.func276 rfl (by rfl) rfl rfl hF (fun F' hF'=>h.le hF')<|wE<|Q2 rfl (vs:=[_,_]) rfl (fun b1=>wD rfl<|wE<|QA (QJ (vs:=[_,_]) rfl QY .here .h2 rfl) ?_)
 refine QH rfl (fun w F hF hG0=>MC hF (by assumption)) (fun c7=>?_);rcases c7 with ⟨v7,l7⟩;dsimp only
 refine JO _ (fun w F hF ⟨hG0,⟨h7,h7p⟩⟩=>bF h7.2 h7p) (fun p7=>JO _ (fun w F hF h9=>h9.2.1.len hF) (fun hl7=>?_))
 have hlen7:=Xu p7.1.1 p7.1.2 p7.2 hza
 try dsimp only at hl7
 refine wA rfl<|QA (QM rfl rfl)<|QA (QM rfl rfl)<|wB rfl<|wD rfl<|QG<|wF rfl<|QA (Qj rfl Ye)<|QA (QU rfl rfl rfl)<|QE<|QC ?_
 refine QQ rfl (fun hc=>?_) (fun hc=>?_)
 ·
  refine wE<|wD rfl<|QS ?_
  exact QP () rfl (.tmp rfl .nil) (by have h0:l7=[]:=aN (by simp at hc;omega);have e:=p7.2;rw [h0] at e;have:a=0:=(by have:=KR a;simp at e;omega);subst this;rfl) (fun _ _=>trivial)
 ·
  refine QO<|QC<|QG<|QB ?_
  have hne:l7≠[]:=by rintro rfl;simp at hc;simp at hl7;omega
  have hpos:0<l7.length:=by cases l7 with | nil=>exact absurd rfl hne | cons=>simp
  have hsp:=LF p7.1.1 p7.1.2 hne p7.2
  refine JO _ (fun w F hF h9=>(h9.2.1.at hF hne).2) (fun hq7=>?_)
  obtain ⟨qb,qo,hq7⟩:=hq7
  obtain ⟨vq,vn,vcap⟩:=v7
  try dsimp only at hq7 hl7
  subst hq7;subst hl7
  dsimp only
  refine wA rfl<|QA (Qj rfl Ye)<|QA (XB rfl rfl (by omega))<|QA (GF rfl rfl (by omega))<|wA rfl<|wA rfl<|QA (Qj rfl Ye)<|QA (XB rfl rfl (by omega))<|QA (Qw (i:=l7.length - 1) rfl (congrArg (fun z:Int=>some (aq .i64 z)) (by omega)) Ye Mu (by omega))<|QA (FW rfl Mu (fun F h9=>h9.2.1) (by omega))<|QH rfl (fun w F hF h9=>jQ hF (p7.1.1.getD (by decide) _).1 (by have:=(p7.1.1.getD (by decide) (l7.length - 1)).2;have hW:W=18446744073709551616:=rfl;omega)) (fun _=>QA (Qs rfl rfl (by omega))<|wD rfl<|QS ?_)
  exact QP () rfl (.tmp rfl .nil) (congrArg (aq .i64) (by have:=hsp.1;omega)) (fun _ _=>trivial)
theorem VO {l:List UInt8} (h:XK l=true):sz (JA l:Int)≤4*l.length:=by
 rw [XR,Int.natAbs_natCast,iA]
 exact aD (Vn h) (eI (by decide) _)
theorem dY (n:Nat):(if(n:Int)<18 then(n:Int) else 18)=((min 18 n:Nat):Int):=by split<;>omega
theorem AH {l:List UInt8} {k n:Nat}:JA (l.take (k+n))=JA (l.take k)*10^((l.drop k).take n).length+JA ((l.drop k).take n):=by
 rw [← YE,List.take_add]
theorem M0 (k:Nat):sz ((10:Int)^k)≤4*k+1:=by have:=H5 10 k;rw [show sz 10=4 by decide] at this;omega
structure zk (n:Nat) where
 k:Nat
 g:Bg
 le:k≤n
theorem GX {w:ag} {F:Gs} {s:List UInt8} (hF:Fits F w) (hs:XK (ah s [45])=true) (hl:s.length≤10000000):Xh Tryz.prog 164 [tx s] w F (YA s):=by
 have hll:(ah s [45]).length≤s.length:=by unfold ah;split<;>simp
 have hval:YA s=if aE s [45] then -(JA (ah s [45]):Int) else(JA (ah s [45]):Int):=by
  unfold YA ah;split<;>simp_all
 rw [hval]
 refine QT.intro (G:=fun _=>True) Tryz.func164 rfl (by rfl) rfl rfl hF (fun F' hF'=>trivial)<|wE<|Qg Ze (fun b2=>wC<|wF rfl<|QH rfl (fun w F hF _=>T9 hF ) (fun _=>wD rfl<|wF rfl<|QH rfl (fun w F hF h9=>BV hF ) (fun _=>wD rfl<|wE<|QA (Q7 rfl yW Ze .nil)<|Qg Ze (fun b4=>QR (vs:=[_,_]) rfl rfl rfl QY rfl .here .h2 wL ?_))))
 refine wC<|QG<|QX ?_
 generalize ah s [45]=l at *
 refine Xb (ι:=zk l.length) (fun i=>[(0,tx (l.drop i.k)),(2,.pointer (some ⟨b2,0,none⟩)),(4,.pointer (some ⟨b4,0,none⟩)),(3,.bool (aE s [45]))]) (fun i=>[(b4,.cells #[.int .i64 i.g.s,.slice i.g.q i.g.n i.g.cap] 128 (0,0)),(b2,.cells #[.int .i64 0,.slice none 0 0] 128 (0,0))]) (fun i F=>Jv F i.g (JA (l.take i.k))) (fun i=>l.length - i.k)
  ⟨0,⟨0,none,0,0⟩,bH _⟩ wN wG (fun F _=>Jv.small F (by decide) (by decide)) (fun i=>?_)
 refine QG<|wF rfl<|QA (XF rfl Xp)<|QA (QU rfl rfl rfl)<|QE<|QC ?_
 refine QQ rfl (fun hc=>?_) (fun hc=>?_)
 ·
  refine QO<|QC<|QX<|wF rfl<|QA (XF rfl Xp)<|QA (qE rfl rfl) ?_
  rw [dY]
  have hk0:i.k<l.length:=by simp at hc;omega
  have hpl:((l.drop i.k).take (min 18 (l.drop i.k).length)).length=min 18 (l.drop i.k).length:=by simp
  have hpa:XK ((l.drop i.k).take (min 18 (l.drop i.k).length))=true:=HM (Dq hs _) _
  have hp18:=Vn hpa
  have hpz:(10:Nat)^((l.drop i.k).take (min 18 (l.drop i.k).length)).length≤10^18:=bI (by decide) (by omega)
  have hm0:0<min 18 (l.drop i.k).length:=by simp;omega
  have hsk:sz (JA (l.take i.k):Int)≤40000000:=ab (VO (HM hs _)) (by simp;omega)
  refine wD rfl<|wF rfl<|wA rfl<|QA (Hx (min 18 (l.drop i.k).length) rfl rfl Xp rfl (by omega))<|QH rfl (fun w F hF hO=>kR hF (by omega) (LK hpa (by intro e;rw [e] at hpl;simp at hpl;omega))) (fun _=>wA rfl<|QA (QM rfl rfl)<|QA (QM rfl rfl)<|wB rfl<|wD rfl<|QG<|Xr 8 wG mixed (by kernel_rfl) (by kernel_rfl) ?_)
  simp only [aU,bA,aV,aR]
  refine QK (QJ (vs:=[_,_]) rfl QY .here .h2 rfl)<|Qd rfl (fun w F hF h9=>NL hF (by omega) (by omega)) (fun g27=>QK (QD rfl)<|Qd rfl (fun w F hF h9=>TU hF h9.2 (by omega) (by omega) (by rw [ba,show sz 10=4 by decide];omega)) (fun g29=>Qd rfl (fun w F hF h9=>Hr hF h9.1.1.1 h9.2 (by omega) (by rw [ba];exact ab (M0 _) (by omega))) (fun g30=>QK (QD rfl)<|Qd rfl (fun w F hF h9=>NL hF (by omega) (by omega)) (fun g32=>Qd rfl (fun w F hF h9=>Fy hF h9.1.2 h9.2 (ab (XW hsk (M0 _)) (by rw [ba];omega)) (ab (VO hpa) (by omega))) (fun g33=>VF<|QR (vs:=[_,_]) rfl rfl rfl QY rfl .here .h2 wL<|wC<|QB<|wA rfl<|wA rfl<|QA (K4 (min 18 (l.drop i.k).length) rfl rfl Xp rfl (by omega))<|wB rfl<|QE<|Qk ?_)))))
  refine Qo (⟨i.k+min 18 (l.drop i.k).length,g33,by simp;omega⟩:zk l.length) (by simp;omega) ⟨(by show some (tx _)=some (tx _);simp),rfl,rfl,rfl,trivial⟩ wG (fun F ⟨_,h33⟩=>by
   show Jv F g33 (JA (l.take (i.k+min 18 (l.drop i.k).length)):Int)
   rw [AH]
   rw [ba] at h33
   have e:((l.drop i.k).take (min 18 (l.drop i.k).length)).length=min 18 (l.drop i.k).length:=by simp
   rw [e,Int.natCast_add,eZ,eY];exact h33)
 ·
  refine Qz ?_
  repeat (first | refine Qb ?_ | refine QV (by rfl) ?_)
  refine Qc<|QC<|QG<|wF rfl<|QE<|QC ?_
  have hdone:l.take i.k=l:=ar (by have:=i.le;simp at hc;omega)
  clear hc
  refine QQ rfl (fun hc=>?_) (fun hc=>?_)
  ·
   refine wE<|QA (QJ (vs:=[_,_]) rfl QY .here .h2 rfl)<|QH rfl (fun w F hF hO=>EK hF hO) (fun g39=>QR (vs:=[_,_]) rfl rfl rfl QY rfl .u1 .h2 wL<|wC<|QS ?_)
   exact QP (_) rfl (.Jd (c:=[_,_]) rfl QY .u1 .nil) rfl (fun F ⟨hO,h39⟩=>(by rw [hdone] at h39;rw [if_pos hc];exact h39))
  ·
   refine QO<|QC<|wE<|QA (QJ (vs:=[_,_]) rfl QY .here .h2 rfl)<|QR (vs:=[_,_]) rfl rfl rfl QY rfl .u1 .h2 wL<|wC<|QS ?_
   exact QP (_) rfl (.Jd (c:=[_,_]) rfl QY .u1 .nil) rfl (fun F hO=>(by rw [hdone] at hO;rw [if_neg (by simp [hc])];exact hO))
section
variable [Dr] [df:Df] {P:bm} {Q:Exit→Act→ag→Prop} {N:Nat} {m:Sl} {E E0:Env} {ops:Array Oper} {l:List Oper} {w0:ag} {F0:Gs} {bs:List (Nat×Obj)} {G:Gs→Prop}
theorem St.Ci {w:ag} (h:St ⟨w0,F0,bs,G⟩ w) (c:Array ai) (T:aB):St ⟨w0,F0,bs,fun F=>G F∧F w.heap.size=some (c,T)⟩ (w.alloc (.cells c T)):=by
 obtain ⟨F,h⟩:=h
 have hnone:=h.fits.none (aK w.heap.size)
 have hle:Gs.le F (fun i=>if i=w.heap.size then some (c,T) else F i):=fun i x hx=>by
  by_cases e:i=w.heap.size
  ·subst e;rw [hnone] at hx;cases hx
  ·show(if _ then _ else _)=_
   rw [if_neg e];exact hx
 have hnew:(w.alloc (.cells c T)).heap[w.heap.size]?=some (.cells c T):=by show(w.heap.push _)[_]?=_;simp
 refine⟨_,Gs.le_trans h.le hle,fun b hb=>?_,⟨fun b c' T' hb=>?_,fun b c' fr hb=>?_⟩,h.ext.alloc _,fun k hk=>?_,h.nd,fun F' hF'=>⟨h.g F' (Gs.le_trans hle hF'),hF' _ _ (if_pos rfl)⟩⟩
 ·have hb2:b<w.heap.size:=aD hb h.ext.size
  rw [if_neg (by omega)];exact h.old b hb
 ·by_cases e:b=w.heap.size
  ·subst e;rw [if_pos rfl] at hb;cases hb;exact⟨_,hnew⟩
  ·rw [if_neg e] at hb
   obtain ⟨fr,e2⟩:=h.fits.row b c' T' hb
   exact⟨fr,by rw [eN _ _ _ (h.fits.lt hb)];exact e2⟩
 ·by_cases e:b=w.heap.size
  ·subst e;rw [hnew] at hb;cases hb;show(if _ then _ else _)=_;rw [if_pos rfl]
  ·show(if _ then _ else _)=_
   rw [if_neg e]
   have hlt:b<w.heap.size:=by
    rcases bg b w.heap.size with g | g
    ·exact g
    ·exfalso
     have:(w.heap.push (.cells c T))[b]?=some (.cells c' 248 fr):=hb
     rw [fm (by simp;omega)] at this;cases this
   rw [eN _ _ _ hlt] at hb
   exact h.fits.all b c' fr hb
 ·obtain ⟨h1,h2,h3⟩:=h.bx k hk
  have hlt:k.1<w.heap.size:=by
   rcases bg k.1 w.heap.size with g | g
   ·exact g
   ·rw [fm g] at h1;cases h1
  exact⟨by rw [eN _ _ _ hlt];exact h1,h2,by rw [if_neg (by omega)];exact h3⟩
section
variable {d:Nat} {ty:aB} {pos:String} {aft:Array Edge}
theorem QW {t e:aB} {n sz:Nat} {z:List ai} {g:Bool} {parts:Array (Nat×aL)} {ps:List (Nat×ai)} {cs:List ai} (hp:Vz m parts.toList=some ps) (ht:P.underlying t=some (.slice e)) (hs:YJ P e=some (g,sz)) (hz:XL P e=some z)
  (hc:Yy sz 0 ps=some cs) (hl:cs.length=n*sz) (k:∀ b,JS P ops Q l N ((d,.slice (some ⟨b,0,none⟩) n n)::m) ⟨w0,F0,bs,fun F=>G F∧F b=some (cs.toArray,e)⟩) (h24:iv (n*sz) 16777216=true:=by rfl) (hn:Nat.beq (n*sz) 0=false:=by rfl)
  (hd:J5 N (some d)=true:=by rfl):JS P ops Q (⟨some d,.buildSlice t n parts,ty,pos,aft,none⟩::l) N m ⟨w0,F0,bs,G⟩:=fun a w ha hw =>
 wpList_plain rfl fun _ hK=>upon_value (KJ ha hp ht hs hz hc hl h24 hn) (hK _ _ (k _ _ _ (ha.put hd _) (hw.Ci _ _)))
theorem Kf {t e:aB} {sz bytes n k:Nat} {z:List ai} {g:Bool} {X Y:aL} {x y:ai} {olds news:List ai} {ob bs1:List (Nat×Obj)} (hx:ev m X=some x) (hy:ev m Y=some y) (ht:BM P t=some e) (hs:YJ P e=some (g,sz)) (hz:XL P e=some z) (hzl:z.length=sz) (hby:YG P e=some bytes)
  (hr:Qx e sz x n olds ob) (hs2:Src ⟨w0,F0,bs1++ob,G⟩ sz y k news) (h63:n+k≤9223372036854775807) (h47:(n+k)*bytes≤140737488355328) (h1:∀ v∈news,v.oneCell'=true)
  (kk:∀ v' ob',Qx e sz v' (n+k) (olds++news) ob'→JS P ops Q l N ((d,v')::m) ⟨w0,F0,bs1++ob',G⟩) (hu:Wc e=true:=by rfl) (hd:J5 N (some d)=true:=by rfl) :
  JS P ops Q (⟨some d,.call ⟨.builtin .append,#[X,Y],#[t,t]⟩,ty,pos,aft,none⟩::l) N m ⟨w0,F0,bs1++ob,G⟩ :=
 X0 ew (Dw hx hy ht hs hz hzl hby hr ⟨hs2.len,hs2.rd.imp id fun⟨a,c,e1,e2⟩=>⟨a,c,e1,fun w hw=>e2 w (hw.perm ew)⟩⟩ h63 h47 h1
  (fun v' ob' h=>X0 ew (kk v' ob' h)) hu hd)
end
theorem Own.skip {l:List (Nat×Obj)} {b:Nat} {o:Obj} {f:Obj→List (Nat×Obj)} (h:Own l b o f):∀ p:List (Nat×Obj),Own (p++l) b o (fun o'=>p++f o')
 |[]=>h
 |_::p=>.there (h.skip p)
theorem IU {T e ty:aB} {sz n n' i:Nat} {x:aL} {v:ai} {cs:List ai} {ob:List (Nat×Obj)} {u:ai} {b:Nat} (hr:Qx e sz v n cs ob) (hm:∀ k∈ob,k∈bs) (hb:v = .slice (some ⟨b,0,none⟩) n n') (hx:ev m x=some (.pointer (some ⟨b,0+i*1,none⟩))) (ht:YJ P T=some (false,1)) (hu:cs[i]?=some u) :
  Qt P N m (St ⟨w0,F0,bs,G⟩) (.load T x) ty u:=fun a w _ _ _ _ ha hw=>by
 obtain ⟨F,hw⟩:=hw
 cases hr with
 |nil=>simp at hu
 |some g1 g2 g3 g4 =>
  rename_i b' cap rest
  simp only [bj,bL,fb] at hb
  have hbb:=hb.1.1
  subst hbb
  have hi:i<cs.length:=by rcases bg i cs.length with h | h;exact h;rw [ez h] at hu;cases hu
  have hc:w.cell? ⟨b',0+i*1,none⟩=some u:=by
   rw [Xv (hw.bx (b',.cells (cs++rest).toArray e (0,0)) (hm _ (by simp))).1,bB,iC,fG,if_pos hi];exact hu
  have hrun:=Zi (P:=P) ht hc
  simp only [execOp,ha.ev hx,eM,eD,ef,ee,bz,hrun]
end
def hd (q:Nat):List UInt8:=if q=0 then [] else ae q
theorem jg {n:Nat} (h:0<n):hd n=hd (n / 10^18)++(if n / 10^18=0 then ae (n%10^18) else Vf 18 (ae (n%10^18))):=by
 unfold hd
 rw [if_neg (by omega)]
 split
 ·rename_i h0
  rw [bZ];congr 1;omega
 ·rename_i h0
  rw [← Kr (by omega) 18 _ (by decide) (Nat.mod_lt _ (by decide))]
  congr 1
  rw [fy];exact(Nat.div_add_mod n (10^18)).symm
theorem Ic {l:List Int} (hd:DG W l) (hn:NZ l) (h:dv W l<W):(l=[]∨l=[dv W l]):=by
 cases l with
 |nil=>exact .inl rfl
 |cons x r =>
  cases r with
  |nil=>right;simp
  |cons y r =>
   exfalso
   have:=B3 (by decide:(0:Int)<W) hd hn (by simp)
   have h2:=ZV (b:=W) (by decide) (show 1≤(x::y::r).length - 1 by simp)
   rw [Int.pow_one] at h2;omega
structure LQ (n:Nat) where
 l:List Int
 r:Sr
 ps:List (List UInt8)
 v:ai
 ob:List (Nat×Obj)
 dg:DG W l
 nz:NZ l
 le:(dv W l).toNat≤n
 hr:Qx 9 1 v ps.length (ps.map tx) ob
 ne:∀ p∈ps,p≠[]
 inv:hd (dv W l).toNat++ps.reverse.flatten=hd n
theorem UD:∀ {ps:List (List UInt8)},(∀ p∈ps,p≠[])→ps.length≤ps.flatten.length
 |[],_=>by simp
 |p::ps,h=>by
  have h1:=UD (ps:=ps) (fun q hq=>h q (by simp [hq]))
  have h2:0<p.length:=by
   have:=h p (by simp)
   cases p with | nil=>exact absurd rfl this | cons=>simp
  simp [List.length_flatten] at h1 ⊢;omega
theorem CL {n k:Nat} (h:n<2^k):(hd n).length≤k:=by
 unfold hd;split
 ·simp
 ·rename_i h0
  rw [aT]
  have hk:0<k:=by rcases fT k with e | e;subst e;simp at h;omega;exact e
  exact Zj (aD h (eI (by decide) k)) hk
theorem Ru (ps:List (List UInt8)):ps.reverse.flatten.length=ps.flatten.length:=by
 induction ps with
 |nil=>rfl
 |cons p ps ih=>simp [bM];simp [List.length_flatten] at ih ⊢;omega
theorem LQ.few {n k:Nat} (i:LQ n) (h:n<2^k):i.ps.length≤k:=by
 have h1:=UD i.ne
 have h2:=congrArg eT i.inv
 rw [ax,Ru] at h2
 have h3:=CL h
 omega
theorem yb {l:List UInt8} (h:l≠[]):Vf 18 l≠[]:=by
 unfold Vf;simp [h]
def LQ.next {n:Nat} (i:LQ n) (hl:i.l≠[]) (q:List Int) (rq:Sr) (v':ai) (ob':List (Nat×Obj)) (s:List UInt8) (hdq:DG W q) (hnq:NZ q) (hq:(dv W q).toNat=(dv W i.l).toNat / 10^18)
  (hs:s=if(dv W q).toNat=0 then ae ((dv W i.l).toNat%10^18) else Vf 18 (ae ((dv W i.l).toNat%10^18)))
  (hr:Qx 9 1 v' (i.ps.length+1) (i.ps.map tx++[tx s]) ob'):LQ n where
 l:=q
 r:=rq
 ps:=i.ps++[s]
 v:=v'
 ob:=ob'
 dg:=hdq
 nz:=hnq
 le:=by have:=i.le;have:=Nat.div_le_self (dv W i.l).toNat (10^18);omega
 hr:=by simpa using hr
 ne:=by
  intro p hp
  rcases List.mem_append.1 hp with h | h
  ·exact i.ne p h
  ·rw [List.mem_singleton.1 h,hs];split
   ·exact KS _
   ·exact yb (KS _)
 inv:=by
  have h0:0<(dv W i.l).toNat:=by
   have h1:=Qu (by decide:(0:Int)<W) i.dg
   have h2:=mt (Y0 (by decide:(1:Int)<W) i.dg i.nz).1 hl
   omega
  rw [← i.inv,jg h0,← hq,hs]
  simp [bM]
theorem CW {q l:List Int} {b:Int} (hb:b=1000000000000000000) (h:dv W q=dv W l / b) (h0:0≤dv W l):(dv W q).toNat=(dv W l).toNat / 10^18:=by
 subst hb;rw [h];omega
theorem jq {r l:List Int} {b:Int} (hb:b=1000000000000000000) (h:dv W r=dv W l%b) (h0:0≤dv W l):(dv W r).toNat=(dv W l).toNat%10^18∧dv W r<1000000000000000000∧0≤dv W r:=by
 subst hb;rw [h];omega
structure Cn (b:Nat) (pre:List UInt8) (ps:List (List UInt8)) where
 k:Nat
 xL:List (Nat×Obj)
 le:k≤ps.length
 bl:Ur b (pre++(ps.drop k).reverse.flatten) xL
theorem jK {a:Int} (h:a≠0):(if a<0 then [45] else [])++hd a.natAbs=X1 a:=by
 have h0:a.natAbs≠0:=by omega
 unfold hd;rw [if_neg h0]
 by_cases h1:a<0
 ·rw [if_pos h1,YU h1];rfl
 ·rw [if_neg h1,J3 (by omega)];rfl
theorem Kh.base {F:Gs} {b:Nat} {x:Int} (h:F b=some ([aq .u64 x].toArray,248)) (h0:0<x) (h1:x<W):Kh F ⟨some ⟨b,0,none⟩,1,1⟩ [x]:=by
 refine⟨fun w hw=>?_,?_,?_⟩
 ·obtain ⟨fr,e⟩:=hw b _ _ h
  refine⟨_,1,rfl,by simp,by decide,fun i hi=>?_⟩
  have hi0:i=0:=by simp at hi;omega
  subst hi0
  exact⟨b,0,rfl,⟨_,_,e⟩,by simp [eC,e];rfl⟩
 ·intro y hy;rw [List.mem_singleton.1 hy];omega
 ·simp [NZ];omega
theorem Bc {w:ag} {F:Gs} {g:Bg} {a:Int} (hF:Fits F w) (hG:JB F) (h:Jv F g a) (hza:sz a≤100000000):QZ Tryz.prog 243 [g.v] w F (tx (X1 a)):=by
 have hk:=Yh.kind (h w hF.r)
 have hn2:a.natAbs<2^sz a:=Hm a
 refine QT.intro (G:=fun F=>JB F∧Jv F g a) Tryz.func243 rfl (by rfl) rfl rfl hF (fun F' hF'=>⟨hG.le hF',h.le hF'⟩)<|wE<|Q2 rfl (vs:=[_,_]) rfl (fun b1=>wD rfl<|QG<|wE<|QA (QI rfl G7 Km)<|QA (Qm rfl Km .here (.skip .h1))<|QA (WB rfl rfl Ye)<|QE<|QC ?_)
 refine QQ rfl (fun hc=>?_) (fun hc=>?_)
 ·
  refine wE<|QA (QI rfl B0 Qp)<|QA (Qm rfl Qp .here .h1)<|QH rfl (fun w F hF ⟨hGl,hB⟩=>CK hF hGl (by rcases hk with hk | hk;omega;rw [hk.1] at hc;cases hc) (by rcases hk with hk | hk;omega;rw [hk.1] at hc;cases hc)) (fun _=>wD rfl<|QS ?_)
  exact QP () rfl (.tmp rfl .nil) (by rcases hk with hk | hk;rw [hk.2.1];rfl;rw [hk.1] at hc;cases hc) (fun _ _=>trivial)
 ·
  refine QO<|QC<|wE<|QA (QJ (vs:=[_,_]) rfl QY .here .h2 rfl) ?_
  refine QH rfl (fun w F hF ⟨hGl,hB⟩=>MC hF (by assumption)) (fun c20=>?_);rcases c20 with ⟨v20,l20⟩;dsimp only
  refine JO _ (fun w F hF ⟨⟨hGl,hB⟩,⟨h20,h20p⟩⟩=>bF h20.2 h20p) (fun p20=>?_)
  have ha0:a≠0:=by rcases hk with hk | hk;rw [hk.1] at hc;cases hc;omega
  have hn20:(dv W l20).toNat=a.natAbs:=by rw [p20.2,KR];rfl
  refine wA rfl<|QA (QM rfl rfl)<|QA (QM rfl rfl)<|wB rfl<|wD rfl<|wE<|QW rfl (Q8 Ye) Mu gS rfl rfl (fun b23=>wD rfl<|wE<|wD rfl<|QG<|QX ?_)
  refine Xb (ι:=LQ a.natAbs) (fun i=>[(3,.bool (decide (a<0))),(4,.slice i.r.q i.r.n i.r.cap),(5,.slice (some ⟨b23,0,none⟩) 1 1),(6,i.v)]) (fun i=>i.ob) (fun i F=>JB F∧Kh F ⟨some ⟨b23,0,none⟩,1,1⟩ [1000000000000000000]∧Kh F i.r i.l) (fun i=>(dv W i.l).toNat)
   ⟨l20,v20,[],.slice none 0 0,[],p20.1.1,p20.1.2,by omega,.nil,by simp,by rw [hn20];simp⟩ wN (List.nil_sublist _) (fun F h9=>⟨h9.1.1.1,Kh.base h9.2 (by decide) (by decide),h9.1.2.1⟩) (fun i=>?_)
  refine ZA _ (fun w F hF h=>h.2.2.len hF) (fun hil=>QG<|wF rfl<|QA (Qj rfl Ye)<|QA (QU rfl rfl rfl)<|QE<|QC ?_)
  refine QQ rfl (fun hc=>?_) (fun hc=>?_)
  ·
   have hne:i.l≠[]:=by intro e;rw [e] at hil;simp at hc;simp at hil;omega
   have h0i:=Qu (by decide:(0:Int)<W) i.dg
   have hposi:0<(dv W i.l).toNat:=by
    have:=mt (Y0 (by decide:(1:Int)<W) i.dg i.nz).1 hne;omega
   have hlen:i.l.length≤10000000000:=by
    have hle:=i.le
    have h3:=Xu (z:=dv W i.l) i.dg i.nz (by unfold Jk;split<;>omega) (ab (Yx (by omega:(dv W i.l).natAbs≤a.natAbs)) (ab hza (by decide)))
    omega
   refine QO<|QC<|QX<|wF rfl<|wA rfl ?_
   refine QH rfl (fun w F hF h9=>UJ (r:=i.r) (r':=⟨some ⟨b23,0,none⟩,1,1⟩) (la:=i.l) (lb:=[1000000000000000000]) hF h9.2.2 h9.2.1 (List.cons_ne_nil _ _) hlen (fD rfl)) (fun c30=>?_);rcases c30 with ⟨⟨v30,l30⟩,v30_,l30_⟩;dsimp only
   refine JO _ (fun w F hF ⟨⟨hGl,⟨hbase,hL⟩⟩,⟨⟨h30,h30_⟩,h30p⟩⟩=>bF h30.2 (bF h30_.2 h30p)) (fun p30=>?_)
   have hb1:dv W [1000000000000000000]=1000000000000000000:=by simp
   have hq:=CW hb1 p30.2.2.1 h0i
   have hr:=jq hb1 p30.2.2.2 h0i
   have h1d:=Ic p30.2.1.1 p30.2.1.2 (by have hW:W=18446744073709551616:=rfl;omega)
   refine JO _ (fun w F hF ⟨_,⟨⟨h30,h30_⟩,_⟩⟩=>bF (h30.len hF) (h30_.len hF)) (fun pl=>wA rfl<|QA (QM rfl rfl)<|QA (QM rfl rfl)<|wB rfl<|wD rfl<|wE<|wB rfl<|QE<|QC ?_)
   refine Ky (ι:=Unit) (fun _=>[(3,.bool (decide (a<0))),(5,.slice (some ⟨b23,0,none⟩) 1 1),(6,i.v),(7,.slice v30.q v30.n v30.cap),(9,tx (ae ((dv W i.l).toNat%10^18)))]) (fun _=>i.ob) (fun _ F=>JB F∧Kh F ⟨some ⟨b23,0,none⟩,1,1⟩ [1000000000000000000]∧Kh F v30 l30) ?_ ?_
   ·
    refine wF rfl<|QA (Qj rfl Ye)<|QA (QU rfl rfl rfl)<|QE<|QC ?_
    refine QQ rfl (fun hc=>?_) (fun hc=>?_)
    ·
     have hl1:l30_=[dv W l30_]:=by
      rcases h1d with e | e
      ·exfalso;rw [e] at pl;simp at hc;simp at pl;omega
      ·exact e
     have hll:l30_.length=1:=by rw [hl1];rfl
     have hg0:l30_.getD 0 0=(((dv W i.l).toNat%10^18:Nat):Int):=by
      have:l30_.getD 0 0=dv W l30_:=by rw [hl1];simp
      rw [this];omega
     refine ZA _ (fun w F hF ⟨_,⟨_,h⟩,_⟩=>(h.at hF (by intro e;rw [e] at hll;simp at hll)).2) (fun hqb=>QB<|wA rfl ?_)
     obtain ⟨qb,qo,hqb⟩:=hqb
     obtain ⟨vq,vn,vcap⟩:=v30_
     dsimp only at hqb pl
     subst hqb
     refine QA (Qw (i:=0) rfl rfl Ye Mu (by dsimp only;omega))<|QA (FW (l:=l30_) rfl Mu (fun F h9=>h9.2.1.2) (by omega)) ?_
     rw [hg0]
     refine QH rfl (fun w F hF h9=>SQ hF h9.1.1 (by omega)) (fun _=>wB rfl<|QE ?_)
     exact J0 () wO wG (fun F h9=>⟨h9.1.1.1,h9.1.1.2.1,h9.1.2.1.1⟩)
    ·
     refine QO ?_
     have e0:(dv W i.l).toNat%10^18=0:=by
      rcases h1d with e | e
      ·rw [e] at hr;simp at hr;omega
      ·have:=congrArg eT e;simp at this;simp at hc;omega
     exact J0 () ⟨rfl,rfl,rfl,rfl,(by show some (tx _)=some (tx _);rw [e0,Zq]),trivial⟩ wG (fun F h9=>⟨h9.1.1,h9.1.2.1,h9.2.1.1⟩)
   ·intro xg9
    refine Ky (ι:=Unit) (fun _=>[(3,.bool (decide (a<0))),(5,.slice (some ⟨b23,0,none⟩) 1 1),(6,i.v),(7,.slice v30.q v30.n v30.cap),(9,tx ((if(dv W l30).toNat=0 then ae ((dv W i.l).toNat%10^18) else Vf 18 (ae ((dv W i.l).toNat%10^18)))))]) (fun _=>i.ob) (fun _ F=>JB F∧Kh F ⟨some ⟨b23,0,none⟩,1,1⟩ [1000000000000000000]∧Kh F v30 l30) ?_ ?_
    ·
     refine wF rfl<|QA (Qj rfl Ye)<|QA (QU rfl rfl rfl)<|QE<|QC ?_
     refine QQ rfl (fun hc=>?_) (fun hc=>?_)
     ·
      have hq0:(dv W l30).toNat≠0:=by
       have h1:=Qu (by decide:(0:Int)<W) p30.1.1
       have h2:l30≠[]:=by intro e;rw [e] at pl;simp at hc;simp at pl;omega
       have:=mt (Y0 (by decide:(1:Int)<W) p30.1.1 p30.1.2).1 h2
       omega
      have hd18:(ae ((dv W i.l).toNat%10^18)).length≤18:=by rw [aT];exact Zj (Nat.mod_lt _ (by decide)) (by decide)
      refine QB<|wA rfl<|QA (XF rfl Xp)<|QA (XB rfl rfl (by omega)) ?_
      rw [show(18:Int) - ((ae ((dv W i.l).toNat%10^18)).length:Int)=((18 - (ae ((dv W i.l).toNat%10^18)).length:Nat):Int) by omega]
      refine QH rfl (fun w F hF _=>OP hF (by simp;omega) (by omega)) (fun _=>wA rfl<|QA (Zs rfl rfl (by rw [Lib.repeatL_length];simp only [ey];omega))<|wB rfl<|QE ?_)
      exact J0 () ⟨rfl,rfl,rfl,rfl,(by show some (tx _)=some (tx _);rw [if_neg hq0];rfl),trivial⟩ wG (fun F h=>h.1)
     ·
      refine QO ?_
      have hq0:(dv W l30).toNat=0:=by
       have h2:l30=[]:=aN (by simp at hc;omega)
       rw [h2];rfl
      exact J0 () ⟨rfl,rfl,rfl,rfl,(by show some (tx _)=some (tx _);rw [if_pos hq0]),trivial⟩ wG (fun F h=>h)
    ·intro xg11
     refine wF rfl<|wA rfl<|Hv rfl (Q8 Rm) qV z_9 rfl rfl (fun b51=>?_)
     have hfew:=i.few hn2
     refine Kf (bs1:=[_]) (ob:=i.ob) (k:=1) (sz:=1) (news:=[tx (if(dv W l30).toNat=0 then ae ((dv W i.l).toNat%10^18) else Vf 18 (ae ((dv W i.l).toNat%10^18)))]) rfl rfl Rm qV z_9 rfl ct i.hr (Src.OL (b:=b51) (T:=9) (fr:=(0,0)) (c:=1) List.mem_cons_self rfl) (by omega) (by omega) (fun u hu=>by rw [List.mem_singleton.1 hu];rfl) (fun v' ob' hr'=>wD rfl<|QB<|wA rfl<|wB rfl<|QE<|Qk ?_)
     exact Qo (i.next hne l30 v30 v' ob' (if(dv W l30).toNat=0 then ae ((dv W i.l).toNat%10^18) else Vf 18 (ae ((dv W i.l).toNat%10^18))) p30.1.1 p30.1.2 hq rfl hr') (by show(dv W l30).toNat<(dv W i.l).toNat;rw [hq];exact Nat.div_lt_self hposi (by decide)) wN (.cons _ wG) (fun F h=>h)
  ·
   refine Qz ?_
   repeat (first | refine Qb ?_ | refine QV (by rfl) ?_)
   refine Qc<|QC ?_
   have hi0:i.l=[]:=aN (by simp at hc;omega)
   have hfl:i.ps.reverse.flatten=hd a.natAbs:=by have:=i.inv;rw [hi0] at this;simpa [hd] using this
   have hfew:=i.few hn2
   have hflen:i.ps.reverse.flatten.length≤100000000:=by rw [hfl];exact ab (CL hn2) hza
   refine wE<|Qg xK (fun b10=>QE<|QC ?_)
   refine Ky (ι:=Cn b10 (if a<0 then [45] else []:List UInt8) i.ps) (fun j=>[(6,i.v),(10,.pointer (some ⟨b10,0,none⟩))]) (fun j=>j.xL++i.ob) (fun j F=>j.k=i.ps.length∧JB F) ?_ ?_
   ·
    refine wF rfl<|QE<|QC ?_
    refine QQ rfl (fun hc=>?_) (fun hc=>?_)
    ·
     refine QB ?_
     have hneg:a<0:=wI hc
     refine XO (bs1:=[_]++i.ob) rfl (bJ _) (Vw (s:=[45]) (Ur.fresh (b:=b10)) (by simp)) (fun xL=>JO _ (fun w F hF h=>h.2) (fun hbl=>QE ?_))
     exact J0 (⟨i.ps.length,xL,aK _,by rw [if_pos hneg];simpa using hbl⟩:Cn b10 (if a<0 then [45] else []:List UInt8) i.ps) wL wG (fun F h=>⟨rfl,h.1.1⟩)
    ·
     refine QO ?_
     exact J0 (⟨i.ps.length,[_],aK _,by rw [if_neg (wJ hc)];simpa using (Ur.fresh (b:=b10))⟩:Cn b10 (if a<0 then [45] else []:List UInt8) i.ps) wL wG (fun F h=>⟨rfl,h.1⟩)
   ·intro xg16
    refine ZA _ (fun w F hF h=>h.1) (fun hk16=>?_)
    have hv6:∃ q c6,i.v = .slice q i.ps.length c6:=by have:=i.hr;generalize i.v=v at this;generalize i.ps.map tx=q at this;generalize i.ps.length=n at this;generalize i.ob=o at this;cases this<;>exact⟨_,_,rfl⟩
    obtain ⟨q6,c6,hv6⟩:=hv6
    rw [hv6]
    refine QG<|wF rfl<|QA (Qj rfl Rm)<|QA (XB rfl rfl (by omega))<|wD rfl<|QX<|Xb (ι:=Cn b10 (if a<0 then [45] else []:List UInt8) i.ps) (fun j=>[(6,.slice q6 i.ps.length c6),(10,.pointer (some ⟨b10,0,none⟩)),(11,.int .i64 ((j.k:Int) - 1))]) (fun j=>j.xL++i.ob) (fun _ F=>JB F) (fun j=>j.k) xg16 ⟨rfl,rfl,(by rw [hk16];rfl),trivial⟩ wG (fun F h=>h.2) (fun j=>?_)
    have hjl:=j.le
    refine QG<|wF rfl<|QA (QU rfl rfl rfl)<|QE<|QC ?_
    refine QQ rfl (fun hc=>?_) (fun hc=>?_)
    ·
     have hj0:0<j.k:=by simp at hc;omega
     obtain ⟨b6,hb6⟩:∃ b6,q6=some ⟨b6,0,none⟩:=by
      have:=i.hr
      rw [hv6] at this
      generalize i.ps.map tx=q at this;generalize i.ob=o at this;generalize hnn:i.ps.length=n at this
      cases this with
      |nil=>omega
      |some=>exact⟨_,rfl⟩
     subst hb6
     have hlt:j.k - 1<i.ps.length:=by omega
     have hjj:(j.k:Int) - 1=((j.k - 1:Nat):Int):=by omega
     refine QO<|QC<|QG<|QX<|QB<|wA rfl<|wA rfl<|QA (Qw (i:=j.k - 1) rfl (congrArg (fun z:Int=>some (aq .i64 z)) hjj) Rm qV hlt)<|QA (IU (i:=j.k - 1) (u:=tx (i.ps[j.k - 1])) (by have:=i.hr;rw [hv6] at this;exact this) (fun k hk=>List.mem_append_right _ hk) rfl rfl qV (by simp [hlt])) ?_
     have hdrop:(i.ps.drop (j.k - 1)).reverse.flatten=(i.ps.drop j.k).reverse.flatten++i.ps[j.k - 1]:=by
      rw [bT hlt,show j.k - 1+1=j.k by omega];simp [bM]
     have hbound:((i.ps.drop (j.k - 1)).reverse.flatten).length≤100000000:=by
      have e:i.ps.reverse.flatten=(i.ps.drop (j.k - 1)).reverse.flatten++(i.ps.take (j.k - 1)).reverse.flatten:=by
       rw [← bM,← List.reverse_append,aX]
      rw [e,ax] at hflen;omega
     rw [hdrop,ax] at hbound
     refine XO rfl (bJ _) (Vw j.bl (by rw [ax];have hp:(if a<0 then [45] else []:List UInt8).length≤1:=(by split<;>simp);omega)) (fun xL=>JO _ (fun w F hF h=>h.2) (fun hbl=>QE<|Qk<|QC<|QB<|wA rfl<|QA (XB rfl rfl (by omega))<|wB rfl<|QE ?_))
     exact Qo (⟨j.k - 1,xL,by omega,by rw [hdrop,← aP];exact hbl⟩:Cn b10 (if a<0 then [45] else []:List UInt8) i.ps) (by show j.k - 1<j.k;omega) ⟨rfl,rfl,(by show some (aq .i64 ((j.k:Int) - 1 - 1))=some (aq .i64 (((j.k - 1:Nat):Int) - 1));rw [hjj]),trivial⟩ wG (fun F h=>h.1)
    ·
     refine Qz ?_
     repeat (first | refine Qb ?_ | refine QV (by rfl) ?_)
     refine Qc<|QC<|QG<|QB ?_
     have hj0:j.k=0:=by simp at hc;omega
     have hbl:=j.bl
     rw [hj0,aR,hfl,jK ha0] at hbl
     refine Ei (v:=tx (X1 a)) hF rfl (enters_of Tryz.func281 (by rfl) rfl) (fun w' hw'=>Tryz.Builder_String_any w.heap.size b10 (X1 a) w' (hbl.is hw') (by obtain ⟨F',h'⟩:=hw';exact h'.ext.size))<|wD rfl<|QS ?_
     exact QP () rfl (.tmp rfl .nil) rfl (fun _ _=>trivial)
def Zb (c:UInt8) (s:List UInt8):List UInt8×List UInt8×Bool:=if s.contains c then(s.takeWhile (· != c),(s.dropWhile (· != c)).drop 1,true) else(s,[],false)
theorem SO (c:UInt8) (s:List UInt8):Lib.indexByte s c=if s.contains c then((s.takeWhile (· != c)).length:Int) else -1:=by
 induction s with
 |nil=>rfl
 |cons b s ih =>
  unfold Lib.indexByte
  by_cases h:b=c
  ·subst h;simp
  ·have h1:(b==c)=false:=beq_eq_false_iff_ne.2 h
   have h2:(b != c)=true:=by simp [bne,h1]
   have h3:(c==b)=false:=beq_eq_false_iff_ne.2 (fun e=>h e.symm)
   rw [ih]
   simp only [h1,bP,if_false,List.contains_cons,h3,fh,fI,h2,if_true]
   by_cases h4:s.contains c=true
   ·simp only [h4,if_true]
    have:(((s.takeWhile (· != c)).length:Int)==-1)=false:=by
     apply beq_eq_false_iff_ne.2;omega
    simp only [this,bP,if_false,aW];omega
   ·have h5:¬ c∈s:=by simpa using h4
    simp [h5]
theorem VG (p:UInt8→Bool) (s:List UInt8):s.take (s.takeWhile p).length=s.takeWhile p∧s.drop (s.takeWhile p).length=s.dropWhile p:=by
 induction s with
 |nil=>simp
 |cons b s ih =>
  simp only [fI,List.dropWhile_cons]
  split<;>simp [ih]
theorem Sd (c:UInt8) (s:List UInt8):fe s [c]=Zb c s:=by
 have h:Lib.index s [c]=if s.contains c then((s.takeWhile (· != c)).length:Int) else -1:=by
  rw [← SO];exact Lib.index_one s c
 unfold fe Zb
 rw [h]
 by_cases h4:s.contains c=true
 ·simp only [h4,if_true]
  rw [if_pos (by omega),ba,(VG _ s).1]
  have:=(VG (· != c) s).2
  rw [← List.drop_drop,this];rfl
 ·simp only [h4,bP,if_false]
  rw [if_neg (by omega)]
theorem DB {c:UInt8} {a b:List UInt8} (h:a.contains c=false):Zb c (a++c::b)=(a,b,true):=by
 have h1:∀ x∈a,(x != c)=true:=fun x hx=>by
  simp only [bne_iff_ne,ne_eq];rintro rfl
  have:a.contains x=true:=by simpa using hx
  rw [this] at h;cases h
 unfold Zb
 rw [if_pos (by simp)]
 have h2:(a++c::b).takeWhile (· != c)=a:=by
  rw [List.takeWhile_append_of_pos h1];simp
 have h3:(a++c::b).dropWhile (· != c)=c::b:=by
  rw [List.dropWhile_append_of_pos h1];simp
 rw [h2,h3];rfl
theorem RR {c:UInt8} {a:List UInt8} (h:a.contains c=false):Zb c a=(a,[],false):=by
 unfold Zb;rw [h];simp
theorem Fx {c:UInt8} {l:List UInt8} (h:XK l=true) (hc:Uo c=false):l.contains c=false:=by
 cases hx:l.contains c with
 |false=>rfl
 |true =>
  have:c∈l:=by simpa using hx
  rw [XK,fZ] at h
  rw [h c this] at hc;cases hc
theorem Bl {c:UInt8} (z:Int) (hc:Uo c=false) (h:c≠45):(X1 z).contains c=false:=by
 by_cases hz:z<0
 ·rw [YU hz,List.contains_cons,Fx (Jb _) hc]
  simp [h]
 ·rw [J3 (by omega)];exact Fx (Jb _) hc
theorem Cb (r:Rat):fe (JN r) [47]=if r.den=1 then(X1 r.num,[],false) else(X1 r.num,ae r.den,true):=by
 rw [Sd]
 unfold JN
 split
 ·exact RR (Bl _ (by decide) (by decide))
 ·exact DB (Bl _ (by decide) (by decide))
theorem V8 (z:Int):ah (X1 z) [45]=ae z.natAbs:=by
 unfold ah
 by_cases h:z<0
 ·rw [YU h];simp [aE,cb]
 ·rw [J3 (by omega),Kq (Jb _)];simp
theorem Zf {l:List UInt8} (h:XK l=true):ah l [45]=l:=by
 unfold ah;rw [Kq h];simp
theorem XM {l:List UInt8} (h:XK l=true):YA l=JA l:=by
 unfold YA;rw [Kq h];simp
def lim:Nat:=10^600
theorem SH (u:Nat):(600<(ae u).length)↔lim≤u:=by unfold lim;rw [aT];exact SD (by decide)
theorem Fh:2^1800<lim:=by
 decide +kernel
def Br (z:Int):Bool:=decide (lim≤z.natAbs)
def XN (r:Rat):Bool:=Br r.num||Br r.den
theorem CG {w:ag} {F:Gs} {g:Bg} {a:Int} (hF:Fits F w) (hG:JB F) (h:Jv F g a) (hza:sz a≤100000000):QZ Tryz.prog 242 [g.v] w F (.bool (Br a)):=by
 refine QT.intro (G:=fun F=>JB F∧Jv F g a) Tryz.func242 rfl (by rfl) rfl rfl hF (fun F' hF'=>⟨hG.le hF',h.le hF'⟩)<|wE<|Q2 rfl (vs:=[_,_]) rfl (fun b1=>wD rfl<|wE<|QA (QJ (vs:=[_,_]) rfl QY .here .h2 rfl)<|QH rfl (fun w F hF h9=>kP hF h9.2 (ab hza (by decide))) (fun _=>QA (QU rfl rfl rfl)<|wA rfl ?_))
 refine Qn (t:=6) rfl (fun hb6=>?_) (fun hb6=>?_)
 ·
  refine QL rfl rfl<|QA (QJ (vs:=[_,_]) rfl QY .here .h2 rfl)<|QL rfl rfl<|QH rfl (fun w F hF h9=>Bc hF h9.1.1 h9.1.2 hza) (fun _=>QL rfl rfl<|QH rfl (fun w F hF h9=>BV hF ) (fun _=>QL rfl rfl<|QA (XF rfl Xp)<|QL rfl rfl<|QA (QU rfl rfl rfl)<|QA (Qi rfl rfl rfl)<|wD rfl<|QS ?_))
  exact QP () rfl (.tmp rfl .nil) (congrArg ak (by rw [V8];exact decide_eq_decide.2 (Iff.trans (b:=600<(ae a.natAbs).length) (SH a.natAbs).symm (by constructor<;>intro h<;>omega)))) (fun _ _=>trivial)
 ·
  refine QN rfl rfl rfl<|QN rfl rfl rfl<|QN rfl rfl rfl<|QN rfl rfl rfl<|QN rfl rfl rfl<|QA (Qh rfl rfl rfl)<|wD rfl<|QS ?_
  exact QP () rfl (.tmp rfl .nil) (congrArg ak (by have h1:=wJ hb6;have h2:sz a≤1800:=(by omega);have h3:=(XR a 1800).1 h2;exact decide_eq_false (Nat.not_le.2 (Nat.lt_trans h3 Fh)))) (fun _ _=>trivial)
theorem Bz {w:ag} {F:Gs} {x:Fr} {r:Rat} (hF:Fits F w) (hG:JB F) (h:JY F x r) (hz:JL r≤100000000):QZ Tryz.prog 196 [x.v] w F (.bool (XN r)):=by
 refine QT.intro (G:=fun F=>JB F∧JY F x r) Tryz.func196 rfl (by rfl) rfl rfl hF (fun F' hF'=>⟨hG.le hF',h.le hF'⟩)<|wE<|Q2 rfl (vs:=[_,_,_,_]) rfl (fun b1=>wD rfl<|wE<|QA (QI rfl ZS QY)<|QA (QJ (vs:=[_,_]) rfl QY .here .h2 rfl)<|QH rfl (fun w F hF h9=>CG (g:=x.n) hF h9.1 h9.2.1 (ab (Jl r) hz)) (fun _=>wA rfl ?_))
 refine Qn (t:=6) rfl (fun hb6=>?_) (fun hb6=>?_)
 ·
  refine QN rfl rfl rfl<|QN rfl rfl rfl<|QN rfl rfl rfl<|QA (Qi rfl rfl rfl)<|wD rfl<|QS ?_
  exact QP () rfl (.tmp rfl .nil) (congrArg ak (by unfold XN;rw [hb6,Bool.true_or])) (fun _ _=>trivial)
 ·
  refine QL rfl rfl<|QA (QI rfl ZR QY)<|QL rfl rfl<|QA (QJ (vs:=[_,_]) rfl QY .here (.skip (.skip .h2)) rfl)<|QL rfl rfl<|QH rfl (fun w F hF h9=>CG (g:=x.d) hF h9.1.1 h9.1.2.2 (ab (Jf r) hz)) (fun _=>QA (Qh rfl rfl rfl)<|wD rfl<|QS ?_)
  exact QP () rfl (.tmp rfl .nil) (congrArg ak (by unfold XN;rw [hb6,fh])) (fun _ _=>trivial)
theorem Td {z:Int} {k:Nat} (h:sz z≤k):(X1 z).length≤k+2:=by
 have h2:=Hm z
 have h1:(ae z.natAbs).length≤k+1:=by
  rw [aT]
  exact Zj (aD h2 (ab (bI (by decide) (show sz z≤k+1 by omega)) (eI (by decide) _))) (by omega)
 by_cases hz:z<0
 ·rw [YU hz,aW];omega
 ·rw [J3 (by omega)];omega
theorem Fc (n:Nat):X1 (n:Int)=ae n:=by rw [J3 (by omega)];rfl
theorem MG {w:ag} {F:Gs} {x:Fr} {r:Rat} (hF:Fits F w) (hG:JB F) (h:JY F x r) (hz:JL r≤100000000):QZ Tryz.prog 197 [x.v] w F (tx (JN r)):=by
 have hl1:=Td (ab (Jl r) hz)
 have hl2:=Td (ab (Jf r) hz)
 refine QT.intro (G:=fun F=>JB F∧JY F x r) Tryz.func197 rfl (by rfl) rfl rfl hF (fun F' hF'=>⟨hG.le hF',h.le hF'⟩)<|wE<|Q2 rfl (vs:=[_,_,_,_]) rfl (fun b1=>wD rfl<|QG<|wE<|QA (QJ (vs:=[_,_,_,_]) rfl Qe .here .h4 rfl)<|QH rfl (fun w F hF h9=>Dh (x:=x) (r:=r) hF ⟨h9.2.1,h9.2.2⟩) (fun _=>QE<|QC ?_))
 refine QQ rfl (fun hc=>?_) (fun hc=>?_)
 ·
  refine wE<|QA (QI rfl ZS QY)<|QA (QJ (vs:=[_,_]) rfl QY .here .h2 rfl)<|QH rfl (fun w F hF h9=>Bc (g:=x.n) hF h9.1.1 h9.1.2.1 (ab (Jl r) hz)) (fun _=>wD rfl<|QS ?_)
  exact QP () rfl (.tmp rfl .nil) (congrArg tx (by unfold JN;rw [if_pos (by simp at hc;omega)])) (fun _ _=>trivial)
 ·
  refine QO<|QC<|QG<|JV wG mixed (by kernel_rfl)<|QK (QI rfl ZS QY)<|QK (QJ (vs:=[_,_]) rfl QY .here .h2 rfl)<|Qd rfl (fun w F hF h9=>Bc (g:=x.n) hF h9.1.1 h9.1.2.1 (ab (Jl r) hz)) (fun _=>QK (Zs rfl rfl (by simp;omega))<|QK (QI rfl ZR QY)<|QK (QJ (vs:=[_,_]) rfl QY .here (.skip (.skip .h2)) rfl)<|Qd rfl (fun w F hF h9=>Bc (g:=x.d) hF h9.1.1.1 h9.1.1.2.2 (ab (Jf r) hz)) (fun _=>QK (Zs rfl rfl (by simp;omega))<|QK (QF rfl)<|Q3<|QC<|QS ?_))
  exact QP () rfl (.tmp rfl .nil) (congrArg tx (by unfold JN;rw [if_neg (by simp at hc;omega),Fc];simp)) (fun _ _=>trivial)
theorem Hg {w:ag} {F:Gs} {s:List UInt8} {r:Rat} (hF:Fits F w) (hG:JB F) (hs:s=JN r) (hl:s.length≤10000000):ZM Tryz.prog 108 [tx s] w F r:=by
 have hcut:=Cb r
 rw [← hs] at hcut
 refine QT.intro (G:=fun F=>JB F) Tryz.func108 rfl (by rfl) rfl rfl hF (fun F' hF'=>hG.le hF')<|wE<|Qg Xs (fun b2=>wC<|wF rfl<|QH rfl (fun w F hF hGl=>Ft hF hGl (by omega)) (fun _=>?_))
 rw [hcut]
 refine wA rfl<|QA (QM rfl rfl)<|QA (QM rfl rfl)<|QA (QM rfl rfl)<|wB rfl<|wB rfl<|wD rfl<|QG<|wF rfl<|QA (Yc rfl)<|QE<|QC ?_
 refine QQ rfl (fun hc=>?_) (fun hc=>?_)
 ·
  refine wF rfl<|QH rfl (fun w F hF h9=>GX hF (by have h1:r.den=1:=(by by_cases h:r.den=1;exact h;rw [if_neg h] at hc;cases hc);rw [if_pos h1,V8];exact Jb _) (by have h1:r.den=1:=(by by_cases h:r.den=1;exact h;rw [if_neg h] at hc;cases hc);rw [if_pos h1];have e:s=X1 r.num:=(by rw [hs];unfold JN;rw [if_pos h1]);rw [← e];exact hl)) (fun g15=>QH rfl (fun w F hF h9=>BU hF h9.2) (fun x16=>QR (vs:=[_,_,_,_]) rfl rfl rfl Qe rfl .here .h4 wN<|wC<|QS ?_))
  exact QP (_) rfl (.Jd (c:=[_,_,_,_]) rfl Qe .here .nil) rfl (fun F ⟨⟨⟨hGl,_⟩,h15⟩,⟨h16,h16_⟩⟩=>(by have h1:r.den=1:=(by by_cases h:r.den=1;exact h;rw [if_neg h] at hc;cases hc);have e:((r.num:Int):Rat)=r:=(by apply Rat.ext;rfl;simp [h1]);rw [if_pos h1] at h16 h16_;rw [YS] at h16 h16_;rw [e] at h16 h16_;exact⟨h16,h16_⟩))
 ·
  refine QO<|QC<|wF rfl<|QH rfl (fun w F hF ⟨hGl,_⟩=>GX hF (by have h1:¬ r.den=1:=(by intro h;rw [if_pos h] at hc;cases hc);rw [if_neg h1,V8];exact Jb _) (by have h1:¬ r.den=1:=(by intro h;rw [if_pos h] at hc;cases hc);rw [if_neg h1];have e:s=X1 r.num++47::ae r.den:=(by rw [hs];unfold JN;rw [if_neg h1]);rw [e,ax] at hl;show(X1 r.num).length≤_;omega)) (fun g18=>wA rfl<|QH rfl (fun w F hF ⟨⟨hGl,_⟩,h18⟩=>GX hF (by have h1:¬ r.den=1:=(by intro h;rw [if_pos h] at hc;cases hc);rw [if_neg h1];show XK (ah (ae r.den) [45])=true;rw [Zf (Jb _)];exact Jb _) (by have h1:¬ r.den=1:=(by intro h;rw [if_pos h] at hc;cases hc);rw [if_neg h1];have e:s=X1 r.num++47::ae r.den:=(by rw [hs];unfold JN;rw [if_neg h1]);rw [e,ax,aW] at hl;show(ae r.den).length≤_;omega)) (fun g20=>QA (Q7 rfl H9 Xs (.cons (vs:=[_,_]) rfl rfl rfl .h2 (.cons (vs:=[_,_]) rfl rfl rfl (.skip (.skip .h2)) .nil)))<|QR (vs:=[_,_,_,_]) rfl rfl rfl Qe rfl .here .h4 wN<|wC<|QS ?_))
  exact QP (⟨g18,g20⟩:Fr) rfl (.Jd (c:=[_,_,_,_]) rfl Qe .here .nil) rfl (fun F ⟨⟨⟨hGl,_⟩,h18⟩,h20⟩=>(by have h1:¬ r.den=1:=(by intro h;rw [if_pos h] at hc;cases hc);rw [if_neg h1] at h18 h20;rw [YS] at h18;have e:YA (ae r.den)=(r.den:Int):=(by rw [XM (Jb _),XI]);exact⟨h18,e ▸ h20⟩))
def Q6 (F:Gs) (q:Option Addr) (n sz:Nat) (cs:List ai):Prop :=
 cs.length=n*sz∧(0<n→∃ b off arr T,q=some ⟨b,off,none⟩∧F b=some (arr,T)∧∀ j u,cs[j]?=some u→arr[off+j]?=some u)
theorem Q6.le {F F':Gs} {q:Option Addr} {n sz:Nat} {cs:List ai} (h:Q6 F q n sz cs) (k:Gs.le F F'):Q6 F' q n sz cs :=
 ⟨h.1,fun hn=>by obtain ⟨b,off,arr,T,e1,e2,e3⟩:=h.2 hn;exact⟨b,off,arr,T,e1,k _ _ e2,e3⟩⟩
theorem Q6.of {F:Gs} {b n sz:Nat} {cs:List ai} {T:aB} (h:F b=some (cs.toArray,T)) (hl:cs.length=n*sz):Q6 F (some ⟨b,0,none⟩) n sz cs :=
 ⟨hl,fun _=>⟨b,0,_,T,rfl,h,fun j u hu=>by rw [bB];simpa using hu⟩⟩
theorem Q6.nil (F:Gs) (q:Option Addr) (sz:Nat):Q6 F q 0 sz []:=⟨by simp,fun h=>absurd h (Nat.lt_irrefl 0)⟩
theorem Q6.ptr {F:Gs} {q:Option Addr} {n sz:Nat} {cs:List ai} (h:Q6 F q n sz cs) (hn:0<n):∃ b off,q=some ⟨b,off,none⟩:=by
 obtain ⟨b,off,_,_,e,_⟩:=h.2 hn;exact⟨b,off,e⟩
section
variable [Dr] [df:Df] {P:bm} {Q:Exit→Act→ag→Prop} {N:Nat} {m:Sl} {E E0:Env} {ops:Array Oper} {l:List Oper} {w0:ag} {F0:Gs} {bs:List (Nat×Obj)} {G:Gs→Prop}
theorem VA {w:ag} (hw:St ⟨w0,F0,bs,G⟩ w) {b off n sz j:Nat} {cs:List ai} {u:ai} (hr:∀ F,G F→Q6 F (some ⟨b,off,none⟩) n sz cs) (hn:0<n) (hu:cs[j]?=some u):w.cell? ⟨b,off+j,none⟩=some u:=by
 obtain ⟨F,hw⟩:=hw
 obtain ⟨b',off',arr,T,e,hF,ha⟩:=(hr F hw.hG).2 hn
 simp only [bL,fb] at e
 obtain ⟨rfl,rfl,_⟩:=e
 obtain ⟨fr,e⟩:=hw.fits.row _ _ _ hF
 simp [eC,e,ha j u hu]
theorem XX {T ty:aB} {x:aL} {b off n sz k j:Nat} {cs:List ai} {u:ai} (hx:ev m x=some (.pointer (some ⟨b,off+j,none⟩))) (ht:YJ P T=some (false,k)) (hr:∀ F,G F→Q6 F (some ⟨b,off,none⟩) n sz cs) (hn:0<n) (hu:cs[j]?=some u) :
  Qt P N m (St ⟨w0,F0,bs,G⟩) (.load T x) ty u:=fun a w _ _ _ _ ha hw=>by
 have hrun:=Zi (P:=P) ht (VA hw hr hn hu)
 simp only [execOp,ha.ev hx,eM,eD,ef,ee,bz,hrun]
theorem DZ {T ty:aB} {x:aL} {b off n sz k j:Nat} {cs vs:List ai} (hx:ev m x=some (.pointer (some ⟨b,off+j,none⟩))) (ht:YJ P T=some (true,k)) (hr:∀ F,G F→Q6 F (some ⟨b,off,none⟩) n sz cs) (hn:0<n) (hl:vs.length=k) (hu:∀ i v,vs[i]?=some v→cs[j+i]?=some v) :
  Qt P N m (St ⟨w0,F0,bs,G⟩) (.load T x) ty (.agg vs.toArray):=fun a w _ _ _ _ ha hw=>by
 have hrun:=K2 (P:=P) ht hl (w:=w) (b:=b) (off:=off+j) (fun i v hv=>by rw [eJ];exact VA hw hr hn (hu i v hv))
 simp only [execOp,ha.ev hx,eM,eD,ef,ee,bz,hrun]
theorem Ju {d:Nat} {ty:aB} {pos:String} {aft:Array Edge} {bs0:List (Nat×Obj)} {G0:Gs→Prop} {t e:aB} {n sz:Nat} {z:List ai} {g:Bool} {parts:Array (Nat×aL)} {ps:List (Nat×ai)} {cs:List ai} (hp:Vz m parts.toList=some ps) (ht:P.underlying t=some (.slice e)) (hs:YJ P e=some (g,sz)) (hz:XL P e=some z)
  (hc:Yy sz 0 ps=some cs) (hl:cs.length=n*sz) (k:∀ b,JD P ops Q ⟨w0,F0,bs0,G0⟩ l N ((d,.slice (some ⟨b,0,none⟩) n n)::m) ⟨w0,F0,bs,fun F=>G F∧F b=some (cs.toArray,e)⟩) (hE:∀ w,St ⟨w0,F0,bs,G⟩ w→St ⟨w0,F0,bs0,G0⟩ w) (h24:iv (n*sz) 16777216=true:=by rfl) (hn:Nat.beq (n*sz) 0=false:=by rfl)
  (hd:J5 N (some d)=true:=by rfl):JD P ops Q ⟨w0,F0,bs0,G0⟩ (⟨some d,.buildSlice t n parts,ty,pos,aft,none⟩::l) N m ⟨w0,F0,bs,G⟩:=fun _ a w ha hw=>by
 have hS:=hw.Ci cs.toArray e
 have sub:∀ w' b,St ⟨w0,F0,bs,fun F=>G F∧F b=some (cs.toArray,e)⟩ w'→St ⟨w0,F0,bs0,G0⟩ w':=fun w' b h=>hE w' (h.Bu fun _ h=>h.1)
 refine .inr ⟨rfl,?_⟩
 rw [if_pos (by simp [fc])]
 exact upon_value (KJ ha hp ht hs hz hc hl h24 hn) ⟨sub _ _ hS,k _ (fun w' h=>sub w' _ h) _ _ (ha.put hd _) hS⟩
end
section
variable [Dr] [df:Df] {P:bm} {Q:Exit→Act→ag→Prop} {N:Nat} {m:Sl} {E E0:Env} {ops:Array Oper} {l:List Oper} {ty:aB} {pos:String} {aft:Array Edge} {o:Op} {g t:Nat} {want:Bool}
theorem PD {a:Act} (ha:Jx N m a) {g t:Nat} (hg:(ops[g]?).bind (·.dst)=some t) (hb:look m t=some undef):yielded ops a.tmps g=none:=by
 unfold yielded
 rw [hg]
 have:=ha.get t _ hb
 simp [this,undef]
theorem JX {d:Nat} (hg:(ops[g]?).bind (·.dst)=some t) (hb:look m t=some undef) (hf:JS P ops Q l N ((d,undef)::m) E) (hd:J5 N (some d)=true:=by rfl):JS P ops Q (⟨some d,o,ty,pos,aft,some (g,want)⟩::l) N m E:=by
 intro a w ha hw
 unfold wpList
 have hy:=PD ha hg hb
 rw [if_neg (by simp [fc,hy])]
 exact hf _ w (ha.put hd undef) hw
end
def Ql:List Int→Int
 |[]=>0
 |x::l=>if x=0 then Ql l else x
theorem KY {l:List Int} {i:Nat} (hi:i<l.length) (h:l[i]=0):Ql (l.drop i)=Ql (l.drop (i+1)):=by
 rw [bT hi,Ql,if_pos h]
theorem Wg {l:List Int} {i:Nat} (hi:i<l.length) (h:l[i]≠0):Ql (l.drop i)=l[i]:=by
 rw [bT hi,Ql,if_neg h]
def Qy (x:Int):ai:=.int .i64 x
structure BL (n:Nat) (p:Nat→Prop) where
 i:Nat
 le:i≤n
 h:p i
theorem Z1 {w:ag} {F:Gs} {b:Bool} {e:Int} (hF:Fits F w):QZ Tryz.prog 122 [.bool b,.int .i64 e] w F (.int .i64 (if b=true then e else 0)):=by
 refine QT.intro (G:=fun _=>True) Tryz.func122 rfl (by rfl) rfl rfl hF (fun F' hF'=>trivial)<|wE<|wD rfl<|QG<|wF rfl<|QE<|QC ?_
 refine QQ rfl (fun hc=>?_) (fun hc=>?_)
 ·
  refine wF rfl<|wD rfl<|QS ?_
  exact QP () rfl (.tmp rfl .nil) (by rw [if_pos hc]) (fun _ _=>trivial)
 ·
  refine QO<|QC<|wE<|wD rfl<|QS ?_
  exact QP () rfl (.tmp rfl .nil) (by rw [if_neg (by rw [hc];decide)]) (fun _ _=>trivial)
theorem Zz {w:ag} {F:Gs} {q:Option Addr} {n c:Nat} {l:List Int} (hF:Fits F w) (hR:Q6 F q n 1 (l.map Qy)) (hn:n≤1000000000):QZ Tryz.prog 104 [.slice q n c] w F (.int .i64 (Ql l)):=by
 have hln:l.length=n:=by have:=hR.1;simpa using this
 refine QT.intro (G:=fun F=>Q6 F q n 1 (l.map Qy)) Tryz.func104 rfl (by rfl) rfl rfl hF (fun F' hF'=>hR.le hF')<|wE<|wD rfl<|QG<|wF rfl<|QA (Qj rfl Zn)<|wA rfl<|wC<|QX<|Xb (ι:=BL n (fun i=>Ql (l.drop i)=Ql l)) (fun i=>[(5,.slice q n c),(6,.int .i64 n),(7,.int .i64 i.i)]) (fun _=>[]) (fun _ F=>Q6 F q n 1 (l.map Qy)) (fun i=>n - i.i) ⟨0,bH _,rfl⟩ wM wG (fun _ h=>h) (fun i=>?_)
 have hle:=i.le
 refine wE<|QA (QU rfl rfl rfl)<|wC<|QG ?_
 refine QQ rfl (fun hc=>?_) (fun hc=>?_)
 ·
  have hi:i.i<n:=by simp at hc;omega
  have hil:i.i<l.length:=by omega
  refine ZA _ (fun w F hF h=>h.ptr (by omega)) (fun hq=>?_)
  obtain ⟨qb,qo,rfl⟩:=hq
  refine QO<|QC<|QG<|QX<|wE<|QA (Qw rfl rfl Zn Y7 hi)<|QA (XX rfl Y7 (fun F h=>h) (by omega) (u:=.int .i64 l[i.i]) (by simp [hil,Qy]))<|wD rfl<|wF rfl<|QA (QU rfl rfl rfl)<|QE<|QC ?_
  refine QQ rfl (fun hc=>?_) (fun hc=>?_)
  ·
   refine wF rfl<|wD rfl<|QS ?_
   repeat (first | refine JC ?_ | refine Q5 ?_)
   exact QP () rfl (.tmp rfl .nil) (congrArg (aq .i64) (i.h.symm.trans (Wg hil (by simpa using hc)))) (fun _ _=>trivial)
  ·
   refine QO<|Qk<|QC<|QB<|QA (Qs rfl rfl (by omega))<|wA rfl<|QE ?_
   exact Qo (⟨i.i+1,by omega,by rw [← KY hil (by simpa using hc)];exact i.h⟩:BL n (fun i=>Ql (l.drop i)=Ql l)) (by show n - (i.i+1)<n - i.i;omega) wM wG (fun _ h=>h)
 ·
  refine Qz ?_
  repeat (first | refine Qb ?_ | refine QV (by rfl) ?_)
  refine Qc<|QC<|wE<|wD rfl<|QS ?_
  exact QP () rfl (.tmp rfl .nil) (by rw [← i.h,bY (by simp at hc;omega)];rfl) (fun _ _=>trivial)
theorem L1 {s:List UInt8} {i:Nat} (hi:i<s.length) (h:XK (s.take i)=true) (hd:Uo s[i]=true):XK (s.take (i+1))=true:=by
 rw [List.take_succ_eq_append_getElem hi,ZG,h];simp [XK,hd]
theorem SA {s:List UInt8} {i:Nat} (hi:i<s.length) (hd:Uo s[i]=false):XK s=false:=by
 cases h:XK s with
 |false=>rfl
 |true=>rw [XK,fZ] at h;rw [h _ (fX hi)] at hd;cases hd
def Wq (s:List UInt8):Bool:=XK s&&!s.isEmpty
theorem B6 {w:ag} {F:Gs} {s:List UInt8} (hF:Fits F w) (hl:s.length≤1000000000):QZ Tryz.prog 168 [tx s] w F (.bool (Wq s)):=by
 refine QT.intro (G:=fun _=>True) Tryz.func168 rfl (by rfl) rfl rfl hF (fun F' hF'=>trivial)<|wE<|wD rfl<|QG<|wF rfl<|QA (XF rfl Xp)<|wA rfl<|wC<|QX<|Xb (ι:=BL s.length (fun i=>XK (s.take i)=true)) (fun i=>[(0,tx s),(5,.int .i64 s.length),(6,.int .i64 i.i)]) (fun _=>[]) (fun _ _=>True) (fun i=>s.length - i.i) ⟨0,bH _,rfl⟩ wM wG (fun _ h=>h) (fun i=>?_)
 have hle:=i.le
 refine wE<|QA (QU rfl rfl rfl)<|wC<|QG ?_
 refine QQ rfl (fun hc=>?_) (fun hc=>?_)
 ·
  have hi:i.i<s.length:=by simp at hc;omega
  refine QO<|QC<|QG<|QX<|wF rfl<|wD rfl<|wF rfl<|wA rfl<|QA (WA rfl rfl Xp (hi))<|QA (QU rfl rfl rfl)<|wA rfl ?_
  refine Qn (t:=13) rfl (fun hb13=>?_) (fun hb13=>?_)
  ·
   refine QN rfl rfl rfl<|QN rfl rfl rfl<|QN rfl rfl rfl<|QN rfl rfl rfl<|QA (Qi rfl rfl rfl)<|QE<|QC ?_
   refine QQ rfl (fun hc=>?_) (fun hc=>?_)
   ·
    refine wE<|wD rfl<|QS ?_
    repeat (first | refine JC ?_ | refine Q5 ?_)
    exact QP () rfl (.tmp rfl .nil) (congrArg ak (by unfold Wq;rw [SA hi (by have h1:=wI hb13;cases hd:Uo s[i.i] with | false=>rfl | true=>(have:=Ys.1 hd;omega))];rfl)) (fun _ _=>trivial)
   ·
    refine QO<|Qk<|QC<|QB<|QA (Qs rfl rfl (by omega))<|wA rfl<|QE ?_
    cases hc
  ·
   refine QL rfl rfl<|wA rfl<|QL rfl rfl<|wA rfl<|QL rfl rfl<|QA (WA rfl rfl Xp (hi))<|QL rfl rfl<|QA (QU rfl rfl rfl)<|QA (Qh rfl rfl rfl)<|QE<|QC ?_
   refine QQ rfl (fun hc=>?_) (fun hc=>?_)
   ·
    refine wE<|wD rfl<|QS ?_
    repeat (first | refine JC ?_ | refine Q5 ?_)
    exact QP () rfl (.tmp rfl .nil) (congrArg ak (by unfold Wq;rw [SA hi (by have h1:=wI hc;cases hd:Uo s[i.i] with | false=>rfl | true=>(have:=Ys.1 hd;omega))];rfl)) (fun _ _=>trivial)
   ·
    refine QO<|Qk<|QC<|QB<|QA (Qs rfl rfl (by omega))<|wA rfl<|QE ?_
    exact Qo (⟨i.i+1,by omega,L1 hi i.h (Ys.2 (by have h1:=wJ hb13;have h2:=wJ hc;constructor<;>omega))⟩:BL s.length (fun i=>XK (s.take i)=true)) (by show s.length - (i.i+1)<s.length - i.i;omega) wM wG (fun _ h=>h)
 ·
  refine Qz ?_
  repeat (first | refine Qb ?_ | refine QV (by rfl) ?_)
  refine Qc<|QC<|wF rfl<|QA (OY rfl rfl)<|wD rfl<|QS ?_
  exact QP () rfl (.tmp rfl .nil) (congrArg ak (by have h1:=i.h;rw [ar (by simp at hc;omega)] at h1;unfold Wq;rw [h1];cases s<;>rfl)) (fun _ _=>trivial)
theorem head_ne {s:List UInt8} (h:0<s.length):((s[0].toNat:Int) != 48)=!(s.head?==some 48):=by
 cases s with
 |nil=>simp at h
 |cons c s =>
  simp only [List.getElem_cons_zero,List.head?_cons]
  by_cases e:c=48
  ·subst e;rfl
  ·have e1:c.toNat≠48:=fun h=>e (eH (by rw [h];rfl))
   have e2:((c.toNat:Int) != 48)=true:=by simp only [bne_iff_ne,ne_eq];omega
   have e3:(some c==some 48)=false:=by simp [e]
   rw [e2,e3];rfl
theorem UK {s:List UInt8} (h:Wq s=true):0<s.length:=by
 cases s with
 |nil=>cases h
 |cons=>simp
theorem Nl {w:ag} {F:Gs} {s:List UInt8} (hF:Fits F w) (hl:s.length≤1000000000):QZ Tryz.prog 162 [tx s] w F (.bool (XV s)):=by
 refine QT.intro (G:=fun _=>True) Tryz.func162 rfl (by rfl) rfl rfl hF (fun F' hF'=>trivial)<|wE<|wD rfl<|wF rfl<|QH rfl (fun w F hF _=>B6 hF hl) (fun _=>wA rfl ?_)
 refine Qn (t:=5) rfl (fun hb5=>?_) (fun hb5=>?_)
 ·
  refine QL rfl rfl<|wA rfl<|QL rfl rfl<|QA (K3 rfl rfl)<|QL rfl rfl<|wA rfl ?_
  refine Qn (t:=8) rfl (fun hb8=>?_) (fun hb8=>?_)
  ·
   refine QN rfl rfl rfl<|QN rfl rfl rfl<|QN rfl rfl rfl<|QL rfl rfl<|QA (Qi rfl rfl rfl)<|QA (Qi rfl rfl rfl)<|wD rfl<|QS ?_
   exact QP () rfl (.tmp rfl .nil) (congrArg ak (by have h:=hb5;unfold Wq at h;unfold XV;rw [h,hb8];rfl)) (fun _ _=>trivial)
  ·
   refine QL rfl rfl<|wA rfl<|QL rfl rfl<|QA (WA (i:=0) rfl rfl Xp (UK hb5))<|QL rfl rfl<|QA (QU rfl rfl rfl)<|QL rfl rfl<|QA (Qh rfl rfl rfl)<|QA (Qi rfl rfl rfl)<|wD rfl<|QS ?_
   exact QP () rfl (.tmp rfl .nil) (congrArg ak (by have h:=hb5;unfold Wq at h;unfold XV;rw [h,hb8,head_ne (UK hb5)];rfl)) (fun _ _=>trivial)
 ·
  refine QN rfl rfl rfl<|QN rfl rfl rfl<|QN rfl rfl rfl<|JX rfl rfl<|JX rfl rfl<|JX rfl rfl<|QN rfl rfl rfl<|QA (Qh rfl rfl rfl)<|wD rfl<|QS ?_
  exact QP () rfl (.tmp rfl .nil) (congrArg ak (by have h:=hb5;unfold Wq at h;unfold XV;rw [h];rfl)) (fun _ _=>trivial)
def Us (size d:List UInt8) (neg fr:Bool):Bool:=!XV size||(neg&&size==[48])||(fr&&(!XV d||d==[48]||d==[49]))
def W7 (n d:List UInt8) (fr:Bool):Int :=
 if Us (ah n [45]) d (aE n [45]) fr=true then 1
 else if(decide (600<(ah n [45]).length)||decide (600<d.length))=true then 4
 else if(fr&&!(iu (JA (ah n [45])) (JA d)==1))=true then 1 else 0
def Jg (s:List UInt8):Int:=W7 (Zb 47 s).1 (Zb 47 s).2.1 (Zb 47 s).2.2
theorem DA (c:UInt8) (s:List UInt8):(Zb c s).1.length≤s.length∧(Zb c s).2.1.length≤s.length:=by
 have h:=VG (· != c) s
 have h1:=congrArg eT h.1
 have h2:=congrArg eT h.2
 simp at h1 h2
 unfold Zb
 split
 ·refine⟨?_,?_⟩
  ·show(s.takeWhile (· != c)).length≤_
   exact(List.takeWhile_sublist _).length_le
  ·show((s.dropWhile (· != c)).drop 1).length≤_
   rw [bf]
   have:=(List.dropWhile_sublist (l:=s) (· != c)).length_le
   omega
 ·exact⟨aK _,by simp⟩
theorem VM {s:List UInt8} (h:XV s=true):XK s=true:=by
 simp only [XV,aJ] at h;exact h.1.1
theorem D5 (s p:List UInt8):(ah s p).length≤s.length:=by unfold ah;split<;>simp
theorem MM {w:ag} {F:Gs} {s:List UInt8} (hF:Fits F w) (hG:JB F) (hl:s.length≤1000000):QZ Tryz.prog 68 [tx s] w F (.int .i64 (Jg s)):=by
 have hcl:=DA 47 s
 unfold Jg
 refine QT.intro (G:=fun F=>JB F) Tryz.func68 rfl (by rfl) rfl rfl hF (fun F' hF'=>hG.le hF')<|wE<|wD rfl<|wF rfl<|QH rfl (fun w F hF hGl=>Ft hF hGl (by omega)) (fun _=>?_)
 rw [Sd]
 generalize Zb 47 s=cp at hcl ⊢
 obtain ⟨n,d,fr⟩:=cp
 dsimp only at hcl ⊢
 have htl:=D5 n [45]
 refine wA rfl<|QA (QM rfl rfl)<|QA (QM rfl rfl)<|QA (QM rfl rfl)<|wB rfl<|wB rfl<|wD rfl<|wF rfl<|QH rfl (fun w F hF h9=>EV hF ) (fun _=>wA rfl<|QA (QM rfl rfl)<|QA (QM rfl rfl)<|wB rfl<|wD rfl<|QG ?_)
 refine VZ 46 (.bool (Us (ah n [45]) d (aE n [45]) fr)) ?_ ?_
 ·
  refine QB<|wA rfl<|QH rfl (fun w F hF h9=>Nl hF (by omega)) (fun _=>QA (Yc rfl)<|wA rfl ?_)
  refine Qn (t:=24) rfl (fun hb24=>?_) (fun hb24=>?_)
  ·
   refine QN rfl rfl rfl<|QN rfl rfl rfl<|JX rfl rfl<|JX rfl rfl<|QN rfl rfl rfl<|QA (Qi rfl rfl rfl)<|wA rfl<|QN rfl rfl rfl<|QN rfl rfl rfl<|JX rfl rfl<|JX rfl rfl<|JX rfl rfl<|JX rfl rfl<|JX rfl rfl<|JX rfl rfl<|JX rfl rfl<|JX rfl rfl<|JX rfl rfl<|JX rfl rfl<|JX rfl rfl<|QN rfl rfl rfl<|QA (Qi rfl rfl rfl)<|QE ?_
   exact Js (exd 27 rfl rfl) (congrArg (fun b=>some (ak b)) (by rw [av];simp_all [Us])) wG (fun _ h=>h.1)
  ·
   refine QL rfl rfl<|wA rfl<|QL rfl rfl<|wA rfl ?_
   refine Qn (t:=26) rfl (fun hb26=>?_) (fun hb26=>?_)
   ·
    refine QL rfl rfl<|wA rfl<|QL rfl rfl<|QA (K3 rfl rfl)<|QL rfl rfl<|QA (Qi rfl rfl rfl)<|QA (Qh rfl rfl rfl)<|wA rfl ?_
    refine Qn (t:=31) rfl (fun hb31=>?_) (fun hb31=>?_)
    ·
     refine QN rfl rfl rfl<|QN rfl rfl rfl<|JX rfl rfl<|JX rfl rfl<|JX rfl rfl<|JX rfl rfl<|JX rfl rfl<|JX rfl rfl<|JX rfl rfl<|JX rfl rfl<|JX rfl rfl<|JX rfl rfl<|JX rfl rfl<|QN rfl rfl rfl<|QA (Qi rfl rfl rfl)<|QE ?_
     exact Js (exd 29 rfl rfl) (congrArg (fun b=>some (ak b)) (by rw [av];simp_all [Us])) wG (fun _ h=>h.1)
    ·
     refine QL rfl rfl<|wA rfl<|QL rfl rfl<|wA rfl ?_
     refine Qn (t:=33) rfl (fun hb33=>?_) (fun hb33=>?_)
     ·
      refine QL rfl rfl<|wA rfl<|QL rfl rfl<|QH rfl (fun w F hF h9=>Nl hF (by omega)) (fun _=>QL rfl rfl<|QA (Yc rfl)<|QL rfl rfl<|wA rfl ?_)
      refine Qn (t:=37) rfl (fun hb37=>?_) (fun hb37=>?_)
      ·
       refine QN rfl rfl rfl<|QN rfl rfl rfl<|QL rfl rfl<|QA (Qi rfl rfl rfl)<|QL rfl rfl<|wA rfl<|QN rfl rfl rfl<|QN rfl rfl rfl<|QL rfl rfl<|QA (Qi rfl rfl rfl)<|QL rfl rfl<|QA (Qi rfl rfl rfl)<|QA (Qh rfl rfl rfl)<|QE ?_
       exact Js (exd 31 rfl rfl) (congrArg (fun b=>some (ak b)) (by rw [av];simp_all [Us])) wG (fun _ h=>h.1.1)
      ·
       refine QL rfl rfl<|wA rfl<|QL rfl rfl<|QA (K3 rfl rfl)<|QL rfl rfl<|QA (Qh rfl rfl rfl)<|QL rfl rfl<|wA rfl ?_
       refine Qn (t:=41) rfl (fun hb41=>?_) (fun hb41=>?_)
       ·
        refine QN rfl rfl rfl<|QN rfl rfl rfl<|QL rfl rfl<|QA (Qi rfl rfl rfl)<|QL rfl rfl<|QA (Qi rfl rfl rfl)<|QA (Qh rfl rfl rfl)<|QE ?_
        exact Js (exd 32 rfl rfl) (congrArg (fun b=>some (ak b)) (by rw [av];simp_all [Us])) wG (fun _ h=>h.1.1)
       ·
        refine QL rfl rfl<|wA rfl<|QL rfl rfl<|QA (K3 rfl rfl)<|QL rfl rfl<|QA (Qh rfl rfl rfl)<|QL rfl rfl<|QA (Qi rfl rfl rfl)<|QA (Qh rfl rfl rfl)<|QE ?_
        exact Js (exd 32 rfl rfl) (congrArg (fun b=>some (ak b)) (by rw [av];simp_all [Us])) wG (fun _ h=>h.1.1)
     ·
      refine QN rfl rfl rfl<|QN rfl rfl rfl<|QN rfl rfl rfl<|QN rfl rfl rfl<|JX rfl rfl<|JX rfl rfl<|QN rfl rfl rfl<|QN rfl rfl rfl<|JX rfl rfl<|JX rfl rfl<|QN rfl rfl rfl<|QL rfl rfl<|QA (Qh rfl rfl rfl)<|QA (Qh rfl rfl rfl)<|QE ?_
      exact Js (exd 30 rfl rfl) (congrArg (fun b=>some (ak b)) (by rw [av];simp_all [Us])) wG (fun _ h=>h.1)
   ·
    refine QN rfl rfl rfl<|QN rfl rfl rfl<|QL rfl rfl<|QA (Qh rfl rfl rfl)<|QA (Qh rfl rfl rfl)<|wA rfl<|QL rfl rfl<|wA rfl<|QL rfl rfl<|wA rfl ?_
    refine Qn (t:=33) rfl (fun hb33=>?_) (fun hb33=>?_)
    ·
     refine QL rfl rfl<|wA rfl<|QL rfl rfl<|QH rfl (fun w F hF h9=>Nl hF (by omega)) (fun _=>QL rfl rfl<|QA (Yc rfl)<|QL rfl rfl<|wA rfl ?_)
     refine Qn (t:=37) rfl (fun hb37=>?_) (fun hb37=>?_)
     ·
      refine QN rfl rfl rfl<|QN rfl rfl rfl<|QL rfl rfl<|QA (Qi rfl rfl rfl)<|QL rfl rfl<|wA rfl<|QN rfl rfl rfl<|QN rfl rfl rfl<|QL rfl rfl<|QA (Qi rfl rfl rfl)<|QL rfl rfl<|QA (Qi rfl rfl rfl)<|QA (Qh rfl rfl rfl)<|QE ?_
      exact Js (exd 30 rfl rfl) (congrArg (fun b=>some (ak b)) (by rw [av];simp_all [Us])) wG (fun _ h=>h.1.1)
     ·
      refine QL rfl rfl<|wA rfl<|QL rfl rfl<|QA (K3 rfl rfl)<|QL rfl rfl<|QA (Qh rfl rfl rfl)<|QL rfl rfl<|wA rfl ?_
      refine Qn (t:=41) rfl (fun hb41=>?_) (fun hb41=>?_)
      ·
       refine QN rfl rfl rfl<|QN rfl rfl rfl<|QL rfl rfl<|QA (Qi rfl rfl rfl)<|QL rfl rfl<|QA (Qi rfl rfl rfl)<|QA (Qh rfl rfl rfl)<|QE ?_
       exact Js (exd 31 rfl rfl) (congrArg (fun b=>some (ak b)) (by rw [av];simp_all [Us])) wG (fun _ h=>h.1.1)
      ·
       refine QL rfl rfl<|wA rfl<|QL rfl rfl<|QA (K3 rfl rfl)<|QL rfl rfl<|QA (Qh rfl rfl rfl)<|QL rfl rfl<|QA (Qi rfl rfl rfl)<|QA (Qh rfl rfl rfl)<|QE ?_
       exact Js (exd 31 rfl rfl) (congrArg (fun b=>some (ak b)) (by rw [av];simp_all [Us])) wG (fun _ h=>h.1.1)
    ·
     refine QN rfl rfl rfl<|QN rfl rfl rfl<|QN rfl rfl rfl<|QN rfl rfl rfl<|JX rfl rfl<|JX rfl rfl<|QN rfl rfl rfl<|QN rfl rfl rfl<|JX rfl rfl<|JX rfl rfl<|QN rfl rfl rfl<|QL rfl rfl<|QA (Qh rfl rfl rfl)<|QA (Qh rfl rfl rfl)<|QE ?_
     exact Js (exd 29 rfl rfl) (congrArg (fun b=>some (ak b)) (by rw [av];simp_all [Us])) wG (fun _ h=>h.1)
 ·
  refine QQ rfl (fun hc46=>?_) (fun hc46=>?_)
  ·
   refine wE<|wD rfl<|QS ?_
   exact QP () rfl (.tmp rfl .nil) (congrArg (aq .i64) (by unfold W7;rw [if_pos hc46])) (fun _ _=>trivial)
  ·
   refine QO<|QC<|QG ?_
   refine VZ 54 (.bool (decide (600<(ah n [45]).length)||decide (600<d.length))) ?_ ?_
   ·
    refine QB<|wA rfl<|QA (XF rfl Xp)<|QA (QU rfl rfl rfl)<|wA rfl ?_
    refine Qn (t:=50) rfl (fun hb50=>?_) (fun hb50=>?_)
    ·
     refine QN rfl rfl rfl<|QN rfl rfl rfl<|QN rfl rfl rfl<|QA (Qi rfl rfl rfl)<|QE ?_
     exact Js (exd 9 rfl rfl) (congrArg (fun b=>some (ak b)) (by simp at *;first | omega | (rw [av];simp;omega))) wG (fun _ h=>h)
    ·
     refine QL rfl rfl<|wA rfl<|QL rfl rfl<|QA (XF rfl Xp)<|QL rfl rfl<|QA (QU rfl rfl rfl)<|QA (Qh rfl rfl rfl)<|QE ?_
     exact Js (exd 9 rfl rfl) (congrArg (fun b=>some (ak b)) (by simp at *;first | omega | (rw [av];simp;omega))) wG (fun _ h=>h)
   ·
    refine QQ rfl (fun hc54=>?_) (fun hc54=>?_)
    ·
     refine wE<|wD rfl<|QS ?_
     exact QP () rfl (.tmp rfl .nil) (congrArg (aq .i64) (by unfold W7;rw [if_neg (by rw [hc46];decide),if_pos hc54])) (fun _ _=>trivial)
    ·
     refine QO<|QC<|QG<|wF rfl<|QE<|QC ?_
     refine QQ rfl (fun hc55=>?_) (fun hc55=>?_)
     ·
      have hl54:(ah n [45]).length≤600∧d.length≤600:=by simp at hc54;omega
      have hwh:XV (ah n [45])=true∧XV d=true:=by
       subst hc55
       simp only [Us,bG,fg,eK] at hc46
       exact⟨hc46.1.1,hc46.2.1.1⟩
      have hsa:=VM hwh.1
      have hda:=VM hwh.2
      have hz1:=VO hsa
      have hz2:=VO hda
      refine wF rfl<|QH rfl (fun w F hF h9=>GX hF (by rw [Zf hsa];exact hsa) (by omega)) (fun g58=>wA rfl<|QH rfl (fun w F hF h9=>GX hF (by rw [Zf hda];exact hda) (by omega)) (fun g60=>QH rfl (fun w F hF h9=>zM hF h9.1.2 h9.2 (by rw [XM hsa];omega) (by rw [XM hda];omega)) (fun g61=>QH rfl (fun w F hF ⟨⟨⟨⟨⟨hGl,_⟩,_⟩,h58⟩,h60⟩,h61⟩=>qe hF (by assumption)) (fun c62=>JO _ (fun w F hF h=>h.2) (fun hsm=>?_)))))
      rw [XM hsa,XM hda,Int.gcd_natCast_natCast] at hsm
      refine wA rfl<|QA (QM rfl rfl)<|QA (QM rfl rfl)<|wB rfl<|wB rfl<|QE<|QC ?_
      refine VZ 70 (.bool (!(iu (JA (ah n [45])) (JA d)==1))) ?_ ?_
      ·
       refine QB<|wA rfl<|QA (Yc rfl)<|wA rfl ?_
       refine Qn (t:=67) rfl (fun hb67=>?_) (fun hb67=>?_)
       ·
        refine QN rfl rfl rfl<|QN rfl rfl rfl<|QA (Qi rfl rfl rfl)<|QE ?_
        exact Js (exd 7 rfl rfl) (congrArg (fun b=>some (ak b)) (by rcases hsm with ⟨e1,e2,e3⟩ | ⟨e1,e2⟩<;>rw [av]<;>simp_all<;>omega)) wG (fun _ h=>h)
       ·
        refine QL rfl rfl<|wA rfl<|QL rfl rfl<|QA (QU rfl rfl rfl)<|QA (Qh rfl rfl rfl)<|QE ?_
        exact Js (exd 7 rfl rfl) (congrArg (fun b=>some (ak b)) (by rcases hsm with ⟨e1,e2,e3⟩ | ⟨e1,e2⟩<;>rw [av]<;>simp_all<;>omega)) wG (fun _ h=>h)
      ·
       refine QQ rfl (fun hc70=>?_) (fun hc70=>?_)
       ·
        refine wE<|wD rfl<|QS ?_
        exact QP () rfl (.tmp rfl .nil) (congrArg (aq .i64) (by unfold W7;rw [if_neg (by rw [hc46];decide),if_neg (by rw [hc54];decide),if_pos (by rw [hc55,hc70];rfl)])) (fun _ _=>trivial)
       ·
        refine QO<|QC<|wE<|wD rfl<|QS ?_
        exact QP () rfl (.tmp rfl .nil) (congrArg (aq .i64) (by unfold W7;rw [if_neg (by rw [hc46];decide),if_neg (by rw [hc54];decide),if_neg (by rw [hc55,hc70];decide)])) (fun _ _=>trivial)
     ·
      refine QO<|QC<|wE<|wD rfl<|QS ?_
      exact QP () rfl (.tmp rfl .nil) (congrArg (aq .i64) (by unfold W7;rw [if_neg (by rw [hc46];decide),if_neg (by rw [hc54];decide),if_neg (by rw [hc55];simp)])) (fun _ _=>trivial)
def Jj (s:List UInt8):Rat:=if(Zb 47 s).2.2=true then mkRat (YA (Zb 47 s).1) (JA (Zb 47 s).2.1) else((YA (Zb 47 s).1:Int):Rat)
theorem D2 {c:UInt8} {s:List UInt8} (h:c∈s):∃ r,s.dropWhile (· != c)=c::r:=by
 induction s with
 |nil=>cases h
 |cons b s ih =>
  simp only [List.dropWhile_cons]
  by_cases e:b=c
  ·subst e;exact⟨s,by simp⟩
  ·have h1:(b != c)=true:=by simp [e]
   rw [if_pos h1]
   exact ih (by rcases List.mem_cons.1 h with h | h;exact absurd h.symm e;exact h)
theorem I8 (c:UInt8) (s:List UInt8):((Zb c s).2.2=true→s=(Zb c s).1++c::(Zb c s).2.1)∧((Zb c s).2.2=false→s=(Zb c s).1∧(Zb c s).2.1=[]):=by
 unfold Zb
 by_cases h:s.contains c=true
 ·rw [if_pos h]
  refine⟨fun _=>?_,fun e=>(by cases e)⟩
  obtain ⟨r,hr⟩:=D2 (c:=c) (s:=s) (by simpa using h)
  have hh:s.dropWhile (· != c)=c::(s.dropWhile (· != c)).drop 1:=by rw [hr];rfl
  show s=s.takeWhile (· != c)++c::(s.dropWhile (· != c)).drop 1
  rw [← hh,List.takeWhile_append_dropWhile]
 ·rw [if_neg h]
  exact⟨fun e=>(by cases e),fun _=>⟨rfl,rfl⟩⟩
theorem Pd {l:List UInt8} (h:XV l=true) (h0:l≠[48]):0<JA l:=by
 simp only [XV,aJ,ig,beq_iff_eq,fV,List.isEmpty_eq_false_iff] at h
 rcases h.2 with h1 | h1
 ·exact absurd h1 h0
 ·exact(B8 h.1.1 h.1.2 (by simpa using h1)).2
theorem IF {l:List UInt8} (h:XV l=true) (h0:l≠[48]) (h1:l≠[49]):2≤JA l:=by
 have hp:=Pd h h0
 have hd:=Gg h
 rcases bg (JA l) 2 with g | g
 ·have:JA l=1:=by omega
  rw [this] at hd
  exact absurd (hd.symm.trans (by rw [ae];rfl)) h1
 ·exact g
theorem jJ {n:List UInt8} (h:XV (ah n [45])=true) (h0:(aE n [45]&&ah n [45]==[48])=false):X1 (YA n)=n∧(YA n).natAbs=JA (ah n [45]):=by
 unfold YA
 by_cases hp:aE n [45]=true
 ·have hn:n=45::n.drop 1:=by
   cases n with
   |nil=>cases hp
   |cons c r =>
    have h45:(45==c)=true:=by simpa [aE,cb] using hp
    have:45=c:=by simpa using h45
    rw [← this];rfl
  have ht:ah n [45]=n.drop 1:=by unfold ah;rw [if_pos hp];rfl
  rw [ht] at h h0 ⊢
  rw [hp,fg] at h0
  have hpos:=Pd h (by simpa using h0)
  rw [if_pos hp]
  refine⟨?_,by omega⟩
  rw [YU (by omega),show(-(JA (n.drop 1):Int)).natAbs=JA (n.drop 1) by omega,Gg h,← hn]
 ·have ht:ah n [45]=n:=by unfold ah;rw [if_neg hp]
  rw [ht] at h ⊢
  rw [if_neg hp]
  refine⟨?_,by omega⟩
  rw [J3 (by omega),show((JA n:Nat):Int).natAbs=JA n by omega,Gg h]
theorem TN {l:List UInt8} (h:XK l=true) (hl:l.length≤600):JA l<lim:=by
 have h1:=Vn h
 have h2:10^l.length≤lim:=by have key:∀ k,l.length≤k→10^l.length≤10^k:=fun k h=>bI (by decide) h;unfold lim;exact key 600 hl
 omega
theorem X6 {s:List UInt8} (h:Jg s=0):s=JN (Jj s)∧XN (Jj s)=false:=by
 unfold Jg at h
 have hj:=I8 47 s
 unfold Jj
 generalize Zb 47 s=c at h hj ⊢
 obtain ⟨n,d,fr⟩:=c
 dsimp only at h hj ⊢
 unfold W7 at h
 split at h
 ·cases h
 rename_i h1
 split at h
 ·cases h
 rename_i h2
 split at h
 ·cases h
 rename_i h3
 have h1':=eq_false_of_ne_true h1
 simp only [Us,bG,eK] at h1'
 obtain ⟨⟨hw,hz⟩,hf⟩:=h1'
 have hsa:=VM hw
 have hl:(ah n [45]).length≤600∧d.length≤600:=by simp at h2;omega
 obtain ⟨hn1,hn2⟩:=jJ hw hz
 have hlim:=TN hsa hl.1
 cases fr with
 |false =>
  rw [if_neg (by decide)]
  obtain ⟨hs,_⟩:=hj.2 rfl
  refine⟨?_,?_⟩
  ·unfold JN
   rw [ek,if_pos rfl,ej,hn1];exact hs
  ·unfold XN Br
   rw [ej,ek,hn2]
   rw [decide_eq_false (by omega),fh]
   refine decide_eq_false ?_
   have:((1:Nat):Int).natAbs<lim:=by decide +kernel
   omega
 |true =>
  rw [if_pos rfl]
  simp only [fg,bG,eK] at hf
  obtain ⟨⟨hwd,hd0⟩,hd1⟩:=hf
  have hd2:=IF hwd (by simpa using hd0) (by simpa using hd1)
  have hda:=VM hwd
  have hg:iu (JA (ah n [45])) (JA d)=1:=by simpa using h3
  have hco:Nat.Coprime (YA n).natAbs (JA d):=by rw [hn2];exact hg
  have hmk:=Rat.mk_eq_mkRat (YA n) (JA d) (by omega) hco
  rw [← hmk]
  refine⟨?_,?_⟩
  ·unfold JN
   show s=if JA d=1 then _ else X1 (YA n)++47::ae (JA d)
   rw [if_neg (by omega),hn1,Gg hwd];exact hj.1 rfl
  ·unfold XN Br
   show(decide (lim≤(YA n).natAbs)||decide (lim≤((JA d:Nat):Int).natAbs))=false
   have:=TN hda hl.2
   rw [hn2,decide_eq_false (by omega),decide_eq_false (by omega)];rfl
theorem Rh {r:Rat} (h:XN r=false):JL r≤2400:=by
 unfold XN Br at h
 rw [bG] at h
 have h1:=wJ h.1
 have h2:=wJ h.2
 have e:lim≤2^2400:=by
  decide +kernel
 unfold JL
 have a:=(XR r.num 2400).2 (aD (ia h1) e)
 have b:=(XR (r.den:Int) 2400).2 (aD (ia h2) e)
 omega
theorem XE {s:List UInt8} (h:Jg s=0):JL (Jj s)≤2400:=Rh (X6 h).2
theorem Yt.all {l vs:List ai} (h:vs.length=l.length):Yt l 0 vs vs:=by
 induction vs generalizing l with
 |nil=>cases l with | nil=>exact .nil | cons=>simp at h
 |cons v vs ih =>
  cases l with
  |nil=>simp at h
  |cons x l=>exact .here (ih (by simpa using h))
theorem Ha.all:∀ l:List ai,Ha l 0 l
 |[]=>.nil
 |_::l=>.here (Ha.all l)
theorem P0:∀ {l:List ai},(∀ v∈l,v.oneCell'=true)→BB l
 |[],_=>trivial
 |v::l,h=>⟨h v (by simp),P0 (fun u hu=>h u (by simp [hu]))⟩
theorem I3 {w:ag} {F:Gs} {q:Option Addr} {n c f:Nat} {cs:List ai} {vs:Nat→ai} {es:List Int} {c1 c2:List ai} {G0:Gs→Prop} (hF:Fits F w) (hg:∀ F F',Gs.le F F'→G0 F→G0 F') (h0:G0 F) (hR:Q6 F q n 1 cs) (hn:es.length=n) (hb:n≤1000000000)
  (hv:∀ i,i<n→cs[i*1]?=some (vs i)) (hc:∀ i (hi:i<es.length) w F,Fits F w→G0 F→QZ Tryz.prog f (c1++[vs i]++c2) w F (.int .i64 es[i])) :
  QZ Tryz.prog 202 [.slice q n c,.func (.func f) c1.toArray c2.toArray] w F (.int .i64 (Ql es)):=by
 refine QT.intro (G:=fun F=>G0 F∧Q6 F q n 1 cs) Tryz.func202 rfl (by rfl) rfl rfl hF (fun F' hF'=>⟨hg F F' hF' h0,hR.le hF'⟩)<|wE<|wD rfl<|QG<|wF rfl<|QA (Qj rfl E4)<|wA rfl<|wC<|QX<|Xb (ι:=BL n (fun i=>Ql (es.drop i)=Ql es)) (fun i=>[(1,.func (.func f) c1.toArray c2.toArray),(8,.slice q n c),(9,.int .i64 n),(10,.int .i64 i.i)]) (fun _=>[]) (fun _ F=>G0 F∧Q6 F q n 1 cs) (fun i=>n - i.i) ⟨0,bH _,rfl⟩ wN wG (fun _ h=>h) (fun i=>?_)
 have hle:=i.le
 refine wE<|QA (QU rfl rfl rfl)<|wC<|QG ?_
 refine QQ rfl (fun hc1=>?_) (fun hc1=>?_)
 ·
  have hi:i.i<n:=by simp at hc1;omega
  have hil:i.i<es.length:=by omega
  refine ZA _ (fun w F hF h=>h.2.ptr (by omega)) (fun hq=>?_)
  obtain ⟨qb,qo,rfl⟩:=hq
  refine QO<|QC<|QG<|QX<|wE<|QA (Qw rfl rfl E4 Jo hi)<|QA (XX rfl Jo (fun F h=>h.2) (by omega) (hv i.i hi))<|wD rfl<|wF rfl<|wA rfl<|Gm rfl rfl (fun w F hF h=>hc i.i hil w F hF h.1) (fun _=>wD rfl<|wF rfl<|QA (QU rfl rfl rfl)<|QE<|QC ?_)
  refine QQ rfl (fun hc1=>?_) (fun hc1=>?_)
  ·
   refine wF rfl<|wD rfl<|QS ?_
   repeat (first | refine JC ?_ | refine Q5 ?_)
   exact QP () rfl (.tmp rfl .nil) (congrArg (aq .i64) (i.h.symm.trans (Wg hil (by simpa using hc1)))) (fun _ _=>trivial)
  ·
   refine QO<|Qk<|QC<|QB<|QA (Qs rfl rfl (by omega))<|wA rfl<|QE ?_
   exact Qo (⟨i.i+1,by omega,by rw [← KY hil (by simpa using hc1)];exact i.h⟩:BL n (fun i=>Ql (es.drop i)=Ql es)) (by show n - (i.i+1)<n - i.i;omega) wN wG (fun _ h=>h.1)
 ·
  refine Qz ?_
  repeat (first | refine Qb ?_ | refine QV (by rfl) ?_)
  refine Qc<|QC<|wE<|wD rfl<|QS ?_
  exact QP () rfl (.tmp rfl .nil) (by rw [← i.h,bY (by simp at hc1;omega)];rfl) (fun _ _=>trivial)
theorem Al {w:ag} {F:Gs} {q:Option Addr} {n c f:Nat} {cs:List ai} {vs:Nat→List ai} {es:List Int} {c1 c2:List ai} {G0:Gs→Prop} (hF:Fits F w) (hg:∀ F F',Gs.le F F'→G0 F→G0 F') (h0:G0 F) (hR:Q6 F q n 2 cs) (hn:es.length=n) (hb:n≤1000000000)
  (hv:∀ i,i<n→(vs i).length=2∧∀ j v,(vs i)[j]?=some v→cs[i*2+j]?=some v) (h1:∀ i,i<n→∀ v∈vs i,v.oneCell'=true) (hc:∀ i (hi:i<es.length) w F,Fits F w→G0 F→QZ Tryz.prog f (c1++[.agg (vs i).toArray]++c2) w F (.int .i64 es[i])) :
  QZ Tryz.prog 151 [.slice q n c,.func (.func f) c1.toArray c2.toArray] w F (.int .i64 (Ql es)):=by
 refine QT.intro (G:=fun F=>G0 F∧Q6 F q n 2 cs) Tryz.func151 rfl (by rfl) rfl rfl hF (fun F' hF'=>⟨hg F F' hF' h0,hR.le hF'⟩)<|wE<|wD rfl<|QG<|wF rfl<|QA (Qj rfl GC)<|wA rfl<|wC<|QX<|Xb (ι:=BL n (fun i=>Ql (es.drop i)=Ql es)) (fun i=>[(1,.func (.func f) c1.toArray c2.toArray),(8,.slice q n c),(9,.int .i64 n),(10,.int .i64 i.i)]) (fun _=>[]) (fun _ F=>G0 F∧Q6 F q n 2 cs) (fun i=>n - i.i) ⟨0,bH _,rfl⟩ wN wG (fun _ h=>h) (fun i=>?_)
 have hle:=i.le
 refine wE<|QA (QU rfl rfl rfl)<|wC<|QG ?_
 refine QQ rfl (fun hc1=>?_) (fun hc1=>?_)
 ·
  have hi:i.i<n:=by simp at hc1;omega
  have hil:i.i<es.length:=by omega
  refine ZA _ (fun w F hF h=>h.2.ptr (by omega)) (fun hq=>?_)
  obtain ⟨qb,qo,rfl⟩:=hq
  refine QO<|QC<|QG<|QX<|wE<|QA (Qw rfl rfl GC JU hi)<|QA (DZ rfl JU (fun F h=>h.2) (by omega) (hv i.i hi).1 (hv i.i hi).2)<|Qg Zy (fun b6=>QR (vs:=vs i.i) (l':=vs i.i) rfl rfl rfl JU (hv i.i hi).1 .here (Yt.all (hv i.i hi).1) (P0 (h1 i.i hi))<|wC<|wF rfl<|QA (QJ (vs:=vs i.i) rfl JU .here (Ha.all _) (hv i.i hi).1)<|Gm rfl rfl (fun w F hF h=>hc i.i hil w F hF h.1) (fun _=>wD rfl<|wF rfl<|QA (QU rfl rfl rfl)<|QE ?_))
  refine QC ?_
  refine QQ rfl (fun hc1=>?_) (fun hc1=>?_)
  ·
   refine wF rfl<|wD rfl<|QS ?_
   repeat (first | refine JC ?_ | refine Q5 ?_)
   exact QP () rfl (.tmp rfl .nil) (congrArg (aq .i64) (i.h.symm.trans (Wg hil (by simpa using hc1)))) (fun _ _=>trivial)
  ·
   refine QO<|Qk<|QC<|QB<|QA (Qs rfl rfl (by omega))<|wA rfl<|QE ?_
   exact Qo (⟨i.i+1,by omega,by rw [← KY hil (by simpa using hc1)];exact i.h⟩:BL n (fun i=>Ql (es.drop i)=Ql es)) (by show n - (i.i+1)<n - i.i;omega) wN (fq _ _) (fun _ h=>h.1)
 ·
  refine Qz ?_
  repeat (first | refine Qb ?_ | refine QV (by rfl) ?_)
  refine Qc<|QC<|wE<|wD rfl<|QS ?_
  exact QP () rfl (.tmp rfl .nil) (by rw [← i.h,bY (by simp at hc1;omega)];rfl) (fun _ _=>trivial)
theorem Fv {w:ag} {F:Gs} {q:Option Addr} {n c:Nat} {l:List (List UInt8)} (hF:Fits F w) (hG:JB F) (hR:Q6 F q n 1 (l.map tx)) (hl:n≤1000000∧∀ s∈l,s.length≤1000000):QZ Tryz.prog 121 [.slice q n c] w F (.int .i64 (Ql (l.map Jg))):=by
 have hln:l.length=n:=by have:=hR.1;simpa using this
 refine QT.intro (G:=fun F=>JB F∧Q6 F q n 1 (l.map tx)) Tryz.func121 rfl (by rfl) rfl rfl hF (fun F' hF'=>⟨hG.le hF',hR.le hF'⟩)<|wE<|wD rfl<|wE<|wA rfl ?_
 refine QH rfl (fun w F hF ⟨hGl,hR⟩=>I3 (c1:=[]) (c2:=[]) (vs:=fun i=>tx (l.getD i [])) (es:=l.map Jg) (G0:=JB) hF (fun _ _ h k=>k.le h) hGl hR (by simpa using hln) (by omega) (fun i hi=>by
  have:i<l.length:=by omega
  simp [this]) (fun i hi w F hF hG=>by
  have hi':i<l.length:=by simpa using hi
  have e:l.getD i []=l[i]:=by simp [hi']
  have:=MM hF hG (hl.2 l[i] (fX hi'))
  rw [List.getElem_map]
  show QZ _ _ [tx (l.getD i [])] _ _ _
  rw [e];exact this)) (fun c4=>?_)
 refine wD rfl<|QS ?_
 exact QP () rfl (.tmp rfl .nil) rfl (fun _ _=>trivial)
def Nd (r:Rat):List UInt8×Int:=if XN r=true then([],4) else(JN r,0)
theorem Iy {w:ag} {F:Gs} {x:Fr} {r:Rat} (hF:Fits F w) (hG:JB F) (h:JY F x r) (hz:JL r≤100000000):QZ Tryz.prog 106 [x.v] w F (.tuple #[tx (Nd r).1,.int .i64 (Nd r).2]):=by
 refine QT.intro (G:=fun F=>JB F∧JY F x r) Tryz.func106 rfl (by rfl) rfl rfl hF (fun F' hF'=>⟨hG.le hF',h.le hF'⟩)<|wE<|Q2 rfl (vs:=[_,_,_,_]) rfl (fun b1=>wB rfl<|wD rfl<|QG<|wE<|QA (QJ (vs:=[_,_,_,_]) rfl Qe .here .h4 rfl)<|QH rfl (fun w F hF h9=>Bz (x:=x) (r:=r) hF h9.1 ⟨h9.2.1,h9.2.2⟩ hz) (fun _=>QE<|QC ?_))
 refine QQ rfl (fun hc=>?_) (fun hc=>?_)
 ·
  refine wE<|wB rfl<|wD rfl<|QS ?_
  exact Ja () rfl (.tmp rfl (.tmp rfl .nil)) (by unfold Nd;rw [if_pos hc]) (fun _ _=>trivial)
 ·
  refine QO<|QC<|wE<|QA (QJ (vs:=[_,_,_,_]) rfl Qe .here .h4 rfl)<|QH rfl (fun w F hF h9=>MG (x:=x) (r:=r) hF h9.1.1 ⟨h9.1.2.1,h9.1.2.2⟩ hz) (fun _=>wB rfl<|wD rfl<|QS ?_)
  exact Ja () rfl (.tmp rfl (.tmp rfl .nil)) (by unfold Nd;rw [if_neg (by rw [hc];decide)]) (fun _ _=>trivial)
theorem UQ {w:ag} {F:Gs} {b:Int} (hF:Fits F w):QZ Tryz.prog 105 [.int .i64 b] w F (.int .i64 (if b<0∨b>64 then 3 else 0)):=by
 refine QT.intro (G:=fun _=>True) Tryz.func105 rfl (by rfl) rfl rfl hF (fun F' hF'=>trivial)<|wE<|wD rfl<|wF rfl<|QA (QU rfl rfl rfl)<|wA rfl ?_
 refine Qn (t:=5) rfl (fun hb5=>?_) (fun hb5=>?_)
 ·
  refine QN rfl rfl rfl<|QN rfl rfl rfl<|QA (Qi rfl rfl rfl)<|QH rfl (fun w F hF _=>Z1 hF ) (fun _=>wD rfl<|QS ?_)
  exact QP () rfl (.tmp rfl .nil) (congrArg (aq .i64) (by simp at *;try omega)) (fun _ _=>trivial)
 ·
  refine QL rfl rfl<|wA rfl<|QL rfl rfl<|QA (QU rfl rfl rfl)<|QA (Qh rfl rfl rfl)<|QH rfl (fun w F hF _=>Z1 hF ) (fun _=>wD rfl<|QS ?_)
  exact QP () rfl (.tmp rfl .nil) (congrArg (aq .i64) (by simp at *;try omega)) (fun _ _=>trivial)
theorem Af {w:ag} {F:Gs} {b:Int} (hF:Fits F w) (h0:0≤b) (h1:b≤64):Xh Tryz.prog 111 [.int .i64 b] w F (2^b.toNat):=by
 refine QT.intro (G:=fun _=>True) Tryz.func111 rfl (by rfl) rfl rfl hF (fun F' hF'=>trivial)<|wE<|Qg Ze (fun b2=>wC<|wE<|QH rfl (fun w F hF _=>NL hF (by omega) (by omega)) (fun g3=>wA rfl<|QH rfl (fun w F hF ⟨_,h3⟩=>TU hF (by assumption) h0 (by omega) (by have e:sz 2=2:=(by decide);rw [e];omega)) (fun g5=>QR (vs:=[_,_]) rfl rfl rfl QY rfl .here .h2 wL<|wC<|QS ?_)))
 exact QP (_) rfl (.Jd (c:=[_,_]) rfl QY .here .nil) rfl (fun F h9=>h9.2)
theorem NJ {w:ag} {F:Gs} {g:Bg} {a b:Int} (hF:Fits F w) (h:Jv F g a) (h0:0≤b) (h1:b≤64) (hz:sz a≤100000000):ZM Tryz.prog 107 [g.v,.int .i64 b] w F (aF a (2^b.toNat)):=by
 refine QT.intro (G:=fun F=>Jv F g a) Tryz.func107 rfl (by rfl) rfl rfl hF (fun F' hF'=>h.le hF')<|wE<|Q2 rfl (vs:=[_,_]) rfl (fun b2=>Qg Xs (fun b4=>wC<|QG<|JV (.cons _ (.cons_cons _ .slnil)) mixed (by kernel_rfl)<|QK (QJ (vs:=[_,_]) rfl QY .here .h2 rfl)<|QK (QD rfl)<|Qd rfl (fun w F hF hB=>Af hF h0 h1) (fun g7=>Qd rfl (fun w F hF ⟨hB,h7⟩=>NV hF hB (by assumption) (Int.ne_of_gt (iE (by decide))) (ab hz (by decide)) (by have:=H5 2 b.toNat;have e:sz 2=2:=(by decide);rw [e] at this;omega)) (fun x8=>JE (vs:=[_,_,_,_]) rfl rfl rfl Qe rfl .here (.cons_cons _ .slnil) (fun _ h=>h.1.1) .h4 wN<|Q3<|QC<|QS ?_))))
 exact QP (_) rfl (.Jd (c:=[_,_,_,_]) rfl Qe .here .nil) rfl (fun F h9=>⟨h9.2.1,h9.2.2⟩)
end Go.Proofs.YtknegjaeoffnbaaGreatDoor
