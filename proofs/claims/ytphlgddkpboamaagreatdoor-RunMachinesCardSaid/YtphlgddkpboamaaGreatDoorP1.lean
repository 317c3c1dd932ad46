/- Steps of the proof of the theorem in the last file. -/
import Derived.Test.YtphlgddkpboamaaGreatDoorP0
import Derived.Lib.AppendStr
import Derived.Lib.Builder
import Derived.Lib.ItoaNum
import Derived.Lib.Atoi
import Derived.Lib.Repeat
import Derived.Lib.IndexMore
import Derived.Lib.IndexBytes
set_option linter.all false
set_option maxHeartbeats 4000000
open Go.Proofs.Tryz
open Go.Lib renaming hid -> aa,trimPrefix -> af,decDigits -> aj,run_eql_slice_nil -> aA,hasPrefix -> aB,decDigits_one -> ff,repeatL -> fm,cut -> fz,decFrom -> fX,itoa -> iI,atoi -> iJ,indexByte -> iO
open Nat renaming le_trans -> ae,le_refl -> ax,zero_le -> aM,zero_add -> aV,lt_or_ge -> aW,add_assoc -> bj,pow_le_pow_right -> bw,lt_of_lt_of_le -> bF,eq_zero_or_pos -> bH,add_sub_cancel_left -> bI,pow_succ -> ee,add_sub_cancel -> er,add_mul -> eD,zero_mul -> eY,mod_lt -> fA,mul_assoc -> fG,sub_zero -> fL,gcd -> fM,mul_le_mul_right -> fU,pow_le_pow_left -> fY,mod_eq_of_lt -> iy,lt_of_not_le -> iz,strongRecOn -> iE,lt_irrefl -> iL,mul_comm -> iR,gcd_comm -> iS,ble -> iT,pow_one -> lB
open List renaming take_of_length_le -> ah,length_set -> ay,drop_eq_getElem_cons -> aC,take_succ_eq_append_getElem -> aD,drop_drop -> aF,take_set_of_le -> aG,replicate -> aH,drop_zero -> aK,length_cons -> aQ,getElem?_toArray -> aS,take_succ_cons -> aY,drop_succ_cons -> aZ,drop_set_of_lt -> ba,getElem?_append -> bm,take_zero -> bK,drop_eq_nil_of_le -> bL,take_append_drop -> bO,length_singleton -> bP,getElem?_eq_none -> bQ,eq_nil_of_length_eq_zero -> bU,isPrefixOf -> bY,length_append -> ep,getLast?_eq_getElem? -> eB,append_nil -> eI,perm_append_comm -> eO,takeWhile_cons -> eT,drop_set -> eV,length_take -> fg,getElem_mem -> fh,all_eq_true -> fi,isEmpty_eq_false_iff -> fB,getElem?_eq_getElem -> fC,takeWhile_sublist -> fI,getElem_cons_zero -> fJ,drop_of_length_le -> fK,replicate_succ' -> fR,length -> fS,dropWhile_cons -> fV,flatMap_cons -> ic,append_assoc -> ig,take_length -> im,getD -> iq,drop -> ir,append_cons -> iv,length_nil -> iA,set_set -> iM
open Int renaming mul_le_mul_of_nonneg_left -> ai,mul_le_mul_of_nonneg_right -> ao,mul_comm -> aq,one_mul -> aR,emod_lt_of_pos -> aT,pow_succ -> aX,emod_nonneg -> bh,sub_mul -> bz,mul_nonneg -> bA,le_of_lt -> bB,add_mul -> bJ,toNat_natCast -> bN,emod_add_mul_ediv -> bS,ediv_lt_of_lt_mul -> bT,neg_mul -> bV,mul_sub -> bW,ediv_nonneg -> bZ,tmod_lt_of_pos -> eu,sub_add_cancel -> ew,natAbs_ediv_le_natAbs -> eC,pow_add -> eE,mul_add -> eF,le_refl -> eG,gcd -> eH,mul_ne_zero -> eP,mul_le_mul -> eR,mul_assoc -> eW,lt_trichotomy -> eZ,lt_or_le -> fb,mul_one -> fk,natCast_mul -> fu,mul_lt_mul_of_pos_right -> fy,lt_of_mul_lt_mul_left -> fD,eq_of_mul_eq_mul_left -> fF,mul_ediv_cancel_left -> fH,mul_zero -> fN,ediv_eq_zero_of_lt -> fO,mul_ediv_add_emod -> fT,natAbs_of_nonneg -> fW,emod_eq_of_lt -> iw,zero_add -> iU,pow_zero -> iV,neg_tmod -> iW,lt_trans -> iX,gcd_comm -> iY,emod_def -> iZ,add_comm -> lz,mul_neg -> lD
open Go.Value renaming bool -> ak,int -> au,slice -> iN
open Bool renaming eq_iff_iff -> ar,and_eq_true -> aE,or_eq_false_iff -> eQ,not_eq_false' -> fZ,not_eq_true' -> il,or_eq_true -> iD
open Rat renaming divInt -> bg,num_intCast -> fp,den_intCast -> fq,neg_divInt_neg -> ia,lt_iff -> ib,divInt_ofNat -> ix,num_divInt -> iF,den_divInt -> iG,add_def' -> iQ
open UInt8 renaming ofNat -> bD
open UInt8.toNat renaming inj -> ey
open Go.IntWalk renaming i64_in -> eM
open Option renaming none -> eN,some -> iH
open And renaming intro -> eU
open Go.Result renaming andThen_ok -> eX
open Go.RowKit.Below renaming heap_alloc -> fe
open Go.World renaming cell? -> fj
open Go.Lib.decDigits renaming eq_1 -> fv
open Array renaming ext' -> fw
open Go.Sem renaming run_pure -> fP,run_bind -> fQ
open Go.Instr renaming buildSlice -> ij,sureAddr -> iC,loadAt -> iK,slice -> iP,fill -> lA
open Go.Region renaming wanted -> iB
open List.Sublist renaming refl -> lC
namespace Go.Proofs.YtphlgddkpboamaaGreatDoor
variable{w w':World}{q:Option Addr}{b la lb o u:List Int}{α γ ι:Type}{a s:List UInt8}{cap i k m:Nat}{t z:Int}{x y:Operand}{F F':Gs}{P:Program}{f:FuncId}{args cs rest vs:List Value}{T e ty:TypeId}{vh:Option Value}{bs' ob:List (Nat×Obj)}{fn:Func}{c:UInt8}{E':Env}
open Go.RowKit Ig
theorem Cells.BH{l:List Int}{b o:Nat}{v:Value}(h:Cells w q JM l)(hb:∀a,q=some a->a.block≠b):Cells (w.setCell ⟨b,o,none⟩ v) q JM l:=by
 intro i hi;obtain⟨b',off,h1,h2,h3⟩:=h i hi;exact⟨b',off,h1,h2.set _ _ _,XM (hb _ h1) h3⟩
def Cells.old{l:List Int}(h:Cells w q JM l)(hl:l≠[])(b:Nat)(hb:w.heap.size<=b):∀a,q=some a->a.block≠b:=by
 intro a ha;obtain⟨b',off,h1,h2,_⟩:=h 0 (List.length_pos_iff.2 hl);rw[h1]at ha;cases ha;show b'≠b;have:=h2.lt;omega
def Zy.BH{b E b' o:Nat}{enc:BA α}{l:List α}{v:Value}(h:Zy w b E enc l)(hb:b≠b'):Zy (w.setCell ⟨b',o,none⟩ v) b E enc l:=by
 unfold Zy;rw[Below.heap_setCell _ _ _ _ hb];exact h
theorem Ty{n s:Nat}(hb:DG W lb)(hl:lb.length=n+2)(hs:s<64)(h1:Qb lb (n+1)*p2 s<W)(h2:9223372036854775808<=Qb lb (n+1)*p2 s):
  W^(n+1)*9223372036854775808<=dv W lb*p2 s/\dv W lb*p2 s<W^(n+2):=by
 have e:=Jr lb (n+1);rw[ah (by omega:lb.length<=n+1+1)]at e;have t0:=Qw JX (hb.take (n+1));have t1:=Zh JX (hb.take (n+1));rw[fg,Nat.min_eq_left O]at t1;have hp:=pow_pos JX (n+1);have hp0:=Zk s;have top:(Qb lb (n+1)+1)*p2 s<=W:=by
  have e3:=V6 hs;have:Qb lb (n+1)<p2 (64-s):=by
   refine Int.not_le.1 λhc=>?_;have:=ao hc (bB hp0);omega
  have:=ao (show Qb lb (n+1)+1<=p2 (64-s) by omega) (bB hp0);omega
 constructor
 ·have k1:W^(n+1)*9223372036854775808<=W^(n+1)*(Qb lb (n+1)*p2 s):=ai h2 (bB hp);have k2:0<=dv W (lb.take (n+1))*p2 s:=bA t0 (bB hp0);have e2:dv W lb*p2 s=dv W (lb.take (n+1))*p2 s+W^(n+1)*(Qb lb (n+1)*p2 s):=by rw[e];grind
  omega
 have k1:(dv W (lb.take (n+1))+1)*p2 s<=W^(n+1)*p2 s:=ao O (bB hp0);have k2:W^(n+1)*((Qb lb (n+1)+1)*p2 s)<=W^(n+1)*W:=ai top (bB hp);have e2:dv W lb*p2 s=dv W (lb.take (n+1))*p2 s+W^(n+1)*(Qb lb (n+1)*p2 s):=by rw[e];grind
 rw[aX W (n+1)];have e3:W^(n+1)*((Qb lb (n+1)+1)*p2 s)=W^(n+1)*(Qb lb (n+1)*p2 s)+W^(n+1)*p2 s:=by grind
 rw[bJ]at k1;omega
set_option maxRecDepth 100000 in
set_option maxHeartbeats 2000000 in
theorem Sg(v v':Value)(la lb:List Int)(n:Nat)(w:World)(ha:DG W la)(hb:DG W lb)(na:NZ la)(nb:NZ lb)(hs:SL w v JM la)(hs':SL w v' JM lb)(hge:dv W lb<=dv W la)
  (hn:lb.length=n+2) (h1:la.length<=10000000000) (h2:lb.length<=10000000000) :
  Calls prog 221 #[v,v'] w λe w'=>Xt w (P9 (dv W la) (dv W lb)) e w':=by
 have H3:0<=YY (dv W la) (dv W lb):=Wv hge;have hm:n+2<=la.length:=by
  refine Nat.not_lt.1 λhc=>?_;have:=XH DV ha hb nb O;omega
 have HS:=aa hs;obtain⟨q,cap,rfl,hcap,hmax,hca⟩:=hs;have HA:=aa hca;have HS':=aa hs';obtain⟨q2,cap2,rfl,hcap2,hmax2,hcb⟩:=hs';have HB:=aa hcb;obtain⟨bb,ob,rfl,hbb,hcy⟩:=hcb (n+1) O;rw[ZG O]at hcy;simp only[JM]at hcy;clear hca hcb;have hL:=aa hn;rw[hn]at HS' hcap2 ⊢;have hyp:0<Qb lb (n+1)/\Qb lb (n+1)<W:=by
  have:=JH hb (n+1);have hz:Qb lb (n+1)≠0:=by
   intro e;apply nb;rw[eB,hn];rw[Xz O]at e;simp[hn,e]
  omega
 clear hn;have hb1:((n:Int)+2==1)=false:=wy;have e57:(n:Int)+2-1=(n:Int)+1:=O;go_enter func221,ntmps221
 go_wp2_with (first | (go_at_call 280;refine(X1 _ _ _ _ _ ha hb na nb HS.out HS'.out).mono ?_;rintro e w1 ⟨rfl,hx1⟩;have hcy:=hx1.cell hcy) | (go_at_call 307;fail))
 go_wp2_with fail
 refine(O3 _ _ hyp).mono ?_;rintro e w' ⟨⟨s,rfl,hs,hs1,hs2⟩,rfl⟩;have hbv:=Ty hb hL.out hs hs1 hs2;have HBV:=aa hbv;clear hs1 hs2 hcy hbv;go_wp2_with fail
 refine(Bm s _ lb _ hs hb (HS'.out.ext hx1) O).mono ?_;rintro e w2 ⟨_,rfl,⟨l1,rfl,hB1,hl1,hd1,hv1⟩,hx2⟩;rw[hL.out]at hl1;have hSL1:=SL.Wn hB1 (n+3) O O;rw[ah O,hl1]at hSL1;have HSL1:=aa hSL1;rw[hL.out];clear hSL1 hB1 hl1;go_wp2_with fail
 refine(Yn _ _ _ HSL1.out).mono ?_;rintro e w' ⟨⟨_,rfl,qv,capv,rfl,hcv1,hcv2,hcv⟩,rfl⟩;have hlv:(Qx l1).length=n+2:=UD hd1.Qx (XN _) (by rw[Ju,hv1];have:=HBV.out.1;have:=ai (show(1:Int)<=9223372036854775808 by decide) (bB (pow_pos JX (n+1)));omega) (by rw[Ju,hv1];exact HBV.out.2);have hdv:DG W (Qx l1):=hd1.Qx;have hnv:NZ (Qx l1):=XN _;have HVV:Hid (dv W (Qx l1)=dv W lb*p2 s):=by show _=_;rw[Ju,hv1]
 generalize Qx l1=lv at *
 rw[hlv]at hcv1 ⊢;have HLV:=aa hlv;have HCV:=aa hcv;clear hv1 hd1 hcv hlv;go_wp2_with fail
 refine(Bm s _ la _ hs ha ((HS.out.ext hx1).ext hx2) O).mono ?_;rintro e w3 ⟨_,rfl,⟨o0,rfl,hB3,hl3,hd3,hv3⟩,hx3⟩;have hmk:=λw=>Za (la.length-(n+2)+1) O w;have ec:((la.length-(n+2)+1:Nat):Int)=(la.length:Int)-((n:Int)+2)+1:=O;simp only[ec]at hmk;clear ec;have hvne:lv≠[]:=by intro e;have:=HLV.out;rw[e]at this;simp at this
 have hne1:=HCV.out.old hvne w2.heap.size (ax _);have hne2:=HCV.out.old hvne w3.heap.size hx3.size;have HSTART:Hid (K1 (dv W la*p2 s) (dv W lb*p2 s) n (la.length-(n+2)+1) la.length o0 []) :=
  K1.start hl3 hd3 hv3 hs (Zh JX ha) HBV.out.1 hm
 have HB3:=aa hB3;have HX2:Hid (Ext w w2):=hx1.trans hx2;have HXB:=aa hx3;have hsz:w2.heap.size<w3.heap.size:=hB3.lt;have HN1:=aa hne1;have HN2:=aa hne2;clear hB3 hl3 hd3 hv3 hx1 hx2 hx3 hge H3 hne1 hne2;go_wp2
 go_loopw [14] (λi wr=>∃(k:Nat) (o qs:List Int),k<=la.length-(n+2)+1/\i = .int .i64 ((k:Int)-1)/\K1 (dv W la*p2 s) (dv W lb*p2 s) n k la.length o qs /\
   Zy wr w2.heap.size 283 JM o/\Zy wr w3.heap.size 283 JM (aH k 0++qs)/\Cells wr qv JM lv/\Ext w2 wr)
  (λi _=>(intOf i+1).toNat)
 case atStart=>exact⟨la.length-(n+2)+1,o0,[],ax _,by go_num,HSTART.out,HB3.out.ext ((Ext.refl _).alloc _),by rw[eI];exact Zy.made w3 _ JM 0 _ _ I,(HCV.out.ext HXB.out).ext ((Ext.refl _).alloc _),HXB.out.alloc _⟩
 case round =>
  clear HSTART hmk HB3 HCV HXB;obtain⟨k,o,qs,hk,rfl,hI,hBU,hBQ,hCV,hE⟩:=hrel;cases k with
  |zero =>
   have HI:=aa hI;obtain⟨i1,i2,i3,i4,i5,i6⟩:=hI;have HI1:=aa i1;have HI3:=aa i3;have HBU:=aa hBU;have HBQ:Hid (Zy _ w3.heap.size 283 JM qs):=hBQ;clear i1 i3 i5 i6 hBU hBQ hCV;rw[show((0:Nat):Int)-1 = -1 from rfl];go_wp2
   go_loopw [97] (λi wx=>∃(k:Nat) (ds:List Int),k<=n+2/\i = .int .i64 k/\KE o s k ds/\Zy wx w2.heap.size 283 JM (ds++o.drop k)/\Zy wx w3.heap.size 283 JM qs/\Ext w2 wx)
    (λi _=>n+2-(intOf i).toNat)
   case atStart=>exact⟨0,[],O,rfl,KE.start o s,HBU.out,HBQ.out,hE⟩
   case round =>
    clear HBU HBQ hE;obtain⟨k,ds,hk,rfl,hS,hBU,hBQ,hE⟩:=hrel;have HBQ:=aa hBQ;by_cases hlt:k<n+2
    ·have HS:=aa hS;obtain⟨hd1,hd2,hd3⟩:=hS;have HD1:=aa hd1;have hkl:k+1<o.length:=wi HI1.out;rw[XL O,XL hkl]at hBU;have hx:=JH i2 k;have hx1:=JH i2 (k+1);have hcell:=hBU.cell (i:=k) wy;have hcell1:=hBU.cell (i:=k+1) wy;have g0:(ds++Qb o k::Qb o (k+1)::ir (k+1+1) o).getD k default=Qb o k:=by rw[<-HD1.out];simp[iq]
     have g1:(ds++Qb o k::Qb o (k+1)::ir (k+1+1) o).getD (k+1) default=Qb o (k+1):=by rw[<-HD1.out];simp[iq]
     rw[g0]at hcell;rw[g1]at hcell1;simp only[JM]at hcell hcell1;have hfr:=hBU.frozen k;have HBU:=aa hBU;clear hd1 hd3 hBU hBQ g0 g1;have hk0:(0:Int)<=(k:Int):=O;have hk1:(k:Int)<(la.length:Int)+1:=O;have hk2:(k:Int)+1<(la.length:Int)+1:=O;have hk3:(0:Int)<=(k:Int)+1:=O;have hk4:IntKind.i64.wrap ((k:Int)+1)=(k:Int)+1:=eM _ O;have hk5:((k:Int)+1).toNat=k+1:=O;have hk6:IntKind.i64.wrap (64-(s:Int))=64-(s:Int):=eM _ O;have hk7:(64-(s:Int)).toNat=64-s:=O;have hk8:¬(64-(s:Int)<0):=O;by_cases hs0:0<s
     ·have hs1:(0:Int)<(s:Int):=O;go_wp2
      go_region
      go_wp2
      go_roundw
      case rel =>
       refine⟨k+1,ds++[Qb o k/p2 s+Qb o (k+1)*p2 (64-s)%W],O,by go_num,HS.out.step i2 hs hs0,?_,(HBQ.out.BH O).BH O,((hE.XR wv _).XR wv _).drew⟩;have b:=Ux hs hx;obtain⟨b1,_⟩:=PS (x:=Qb o (k+1)) (s:=64-s) O b.1 b.2;rw[ET,show Qb o k/2^s=Qb o k/p2 s from rfl,b1];have h1:=HBU.out.set k (Qb o k/p2 s);rw[W4 _ _ _ _ _ HD1.out]at h1;have h2:=h1.set k (Qb o k/p2 s+Qb o (k+1)*p2 (64-s)%W);rw[W4 _ _ _ _ _ HD1.out,iv ds,<-XL hkl]at h2;exact h2.drew
      case measure=>simp[intOf];omega
     have hs9:s=0:=O;have HS0:Hid (KE o s (k+1) (ds++[Qb o k/p2 s])):=by subst hs9;exact HS.out.Lx i2
     clear hs9;go_wp2
     go_roundw
     case rel =>
      refine⟨k+1,ds++[Qb o k/p2 s],O,by go_num,HS0.out,?_,HBQ.out.BH O,hE.XR wv _⟩;have h1:=HBU.out.set k (Qb o k/p2 s);rw[W4 _ _ _ _ _ HD1.out,iv ds,<-XL hkl]at h1;exact h1
     case measure=>simp[intOf];omega
    have hk':k=n+2:=O;subst hk';have hvp:0<dv W lb:=by
     have h7:=HBV.out.1;have h8:=pow_pos JX (n+1);refine Int.not_le.1 λhc=>?_;have:=ao hc (bB (Zk s));omega
    have HF:=aa (xO HI.out hs hvp HBV.out.2 hm hS);obtain⟨hd1,hd2,hd3⟩:=hS;have hq1:qs.length=la.length-(n+2)+1:=wi HI3.out;have hSq:=SL.Wn HBQ.out (la.length-(n+2)+1) O O;have hSr:=SL.Wn hBU (n+2) wy (by simp;have:=HI1.out;omega);rw[ah O,hq1]at hSq;rw[List.take_append_of_le_length O,ah O]at hSr;have hol:(ds++ir (n+2) o).length=la.length+1:=by simp;have:=HI1.out;omega
    rw[hol]at hSr;have HSq:=aa hSq;have HSr:=aa hSr;have hn0:(0:Int)<=(n:Int)+2:=O;have hn1:(n:Int)+2<=(la.length:Int)+1:=O;have hn2:((n:Int)+2).toNat=n+2:=O;clear hd1 hd3 hBU hBQ hSq hSr hq1 hol;go_wp2
    go_region_held3 (λ_=>True) (trivial) (first | (go_at_call 306;(with_reducible refine(Yn _ _ _ (HSq.out.ext (Ext.refl _).drew)).mono ?_);rintro e w' ⟨⟨v1,rfl,hv1⟩,rfl⟩) | (go_at_call 306;(with_reducible refine(Yn _ _ _ (HSr.out.ext (Ext.refl _).drew)).mono ?_);rintro e w' ⟨⟨v2,rfl,hv2⟩,rfl⟩))
    go_wp2
    go_ret2
    exact⟨_,rfl,⟨v1,v2,_,_,rfl,hv1,hv2,⟨i4.Qx,XN _⟩,⟨hd2.Qx,XN _⟩,by rw[Ju];exact HF.out.1,by rw[Ju];exact HF.out.2⟩,(HX2.out.trans hE).drew⟩
  |succ k =>
   obtain⟨pre,u,post,rfl,lj,hst,hpost,lpost,hjm⟩:=hI.kh hdv HLV.out (by
    have:=JH hdv (n+1);have hz:Qb lv (n+1)≠0:=by
     intro e;apply hnv;rw[eB,HLV.out];rw[Xz (wi HLV.out)]at e;simp[HLV.out,e]
    omega) HVV.out hm
   have HI:=aa hI;have LJ:=aa lj;have HBQ:=aa hBQ;have e1:((k+1:Nat):Int)-1=(k:Int):=O;have hwin:Hid (k+n+2<=la.length):=hjm;have hk3:(k:Int)+((n:Int)+2)+1<=(la.length:Int)+1:=O;obtain⟨bq,oq,rfl,_,_⟩:=hCV 0 (wi HLV.out);have HCV:=aa hCV;have HBU:=aa hBU;clear hI lj hBQ hjm lpost hCV hBU;rw[e1];clear e1;go_wp2_with fail
   rw[show k+(n+2)+1-k=n+3 from by omega];refine(FG u lv pre post n k _ _ _ bq oq _ hst LJ.out O ⟨HBU.out,HCV.out⟩ (HN1.out _ I)).mono ?_;rintro e w4 ⟨⟨rfl,u',hB',lu',du',vu'⟩,hU⟩;have hBQ4:=hU.Y1 O HBQ.out;have hlen:k<(aH (k+1) (0:Int)++qs).length:=wy;have hcell:=hBQ4.cell hlen;have hz:(aH (k+1) (0:Int)++qs).getD k default=0:=by simp[iq,List.getElem?_append_left]
   rw[hz]at hcell;simp only[JM]at hcell;have hfr:=hBQ4.frozen k;have hBs:=hBQ4.set k (dv W u/dv W lv);rw[Rh]at hBs;have HBs:=aa hBs;have hvp:0<dv W lb*p2 s:=by have:=HBV.out.1;have:=pow_pos JX (n+1);omega
   have HQL:Hid (dv W u/dv W lv<W):=by
    refine bT (by rw[HVV.out];exact hvp) ?_;exact hst.lt
   have HST:=aa (HI.out.step LJ.out hst.lu du' lu' HVV.out hvp hpost HQL.out (Qw JX hst.hu) vu');have HB':=aa hB';have HU:=aa hU;clear hBs hBQ4 hB' hU hz hlen vu';go_wp2
   go_roundw
   case rel=>exact⟨k,_,_,O,by go_num,HST.out,HB'.out.BH O,HBs.out,(HU.out.cells HN1.out HCV.out).BH HN2.out,(HU.out.vG hE (ax _)).XR wy _⟩
   case measure=>simp[intOf]
theorem UY(v v':Value)(la lb:List Int)(w:World)(ha:DG W la)(hb:DG W lb)(na:NZ la)(nb:NZ lb)(hs:SL w v JM la)(hs':SL w v' JM lb)(hb0:lb≠[])
  (h1:la.length<=10000000000) (h2:lb.length<=10000000000) :
  Calls prog 221 #[v,v'] w λe w'=>Xt w (P9 (dv W la) (dv W lb)) e w':=by
 by_cases hlt:dv W la<dv W lb
 ·exact Si v v' la lb w ha hb na nb hs hs' hlt
 match lb,hb,nb,hs',hb0,hlt,h2 with
 |[y],hb,nb,hs',_,hlt,_ =>
  have e:dv W [y]=y:=wv;rw[e]at hlt ⊢;have hy:=hb.head;have hy0:y≠0:=by intro e;subst e;exact nb rfl
  obtain⟨q',cap',e',_⟩:=id hs';subst e';exact UX v q' cap' la y w ha ⟨O,hy.2⟩ na hs hs' O O
 |x::y::l,hb,nb,hs',_,hlt,h2=>exact Sg v v' la (x::y::l) l.length w ha hb na nb hs hs' O rfl h1 h2
theorem YP.sign{s:Int}{n:Nat}(h:YP w s q n cap z):s<0↔z<0:=by
 rcases h with ⟨_,_,_,rfl,_⟩ | ⟨b,off,l,_,_,_,_,_,_,_,_,h,hz,hb⟩
 ·exact Iff.rfl
 rcases h with rfl | rfl<;>omega
def Bx.yk(w:World)(o:Obj)(T:TypeId)(c:Array Value):Bx ((w.alloc o).alloc (.cells c T)) (w.heap.size+1) T c.toList:=by
 have:=Bx.new (w.alloc o) T c;simpa using this
def Bx.Ov(w:World)(o o':Obj)(T:TypeId)(c:Array Value):Bx (((w.alloc o).alloc (.cells c T)).alloc o') (w.heap.size+1) T c.toList:=(Bx.yk w o T c).alloc o'
def Bx.AO(w:World)(o o':Obj)(T:TypeId)(c:Array Value):Bx (((w.alloc o).alloc o').alloc (.cells c T)) (w.heap.size+1+1) T c.toList:=by
 have:=Bx.new ((w.alloc o).alloc o') T c;simpa using this
def Bx.UO(w:World)(o o':Obj)(T:TypeId)(c:Array Value):Bx (((w.alloc (.cells c T)).alloc o).alloc o') w.heap.size T c.toList:=((Bx.new w T c).alloc o).alloc o'
def Ext.Gu{a:World}(h:Ext a w){R:Nat}(hR:a.heap.size<=R)(v0 v1:Value):Ext a ((w.setCell ⟨R,0,none⟩ v0).setCell ⟨R,1,none⟩ v1):=(h.XR hR v0).XR hR v1
theorem xj(v:Value)(z:Int)(w:World)(hv:J8 w v z):
  Calls prog 235 #[v] w λe w'=>Xt w (λv w'=>J8 w' v (JU z)) e w':=by
 have HV:=aa hv;obtain⟨s,q,n,cap,rfl,hp⟩:=hv;have HP:=aa hp;by_cases hs:s<0
 ·have HI:=aa (Hq (hp.sign.1 hs));have HB:=aa (Bx.yk w (.cells #[.int .i64 s,.slice q n cap] 114) 114 IZ);clear hp;go_enter func235,ntmps235
  go_wp2_with fail
  refine(PY _ z _ (HV.out.ext (((Ext.refl _).alloc _).alloc _))).mono ?_;rintro e w1 ⟨_,rfl,⟨s',q',n',cap',rfl,hp'⟩,hx⟩;obtain⟨c0,c1,f0,f1⟩:=(HB.out.ext hx).two;have HB2:=aa (HB.out.ext hx);go_wp2
  refine bodyPost_ret (v:=.agg #[.int .i64 s',.slice q' n' cap']) (by simp[results,results235,go_sem,c0,c1]) I ⟨_,rfl,?_,?_⟩
  ·rw[HI.out];exact⟨_,_,_,_,rfl,hp'.kp ((Kp.refl _).Gu HB2.out.E4 R6 _ _)⟩
  exact(((((Ext.refl w).alloc _).alloc _).trans hx).XR wv _).XR wv _
 have HI:=aa (Vj (z:=z) (wi hp.sign));clear hp;go_enter func235,ntmps235
 go_wp2
 refine bodyPost_ret (v:=.agg #[.int .i64 s,.slice q n cap]) (by simp[results,results235,go_sem]) I ⟨_,rfl,?_,((Ext.refl _).alloc _).alloc _⟩;rw[HI.out];exact⟨_,_,_,_,rfl,HP.out.ext (((Ext.refl _).alloc _).alloc _)⟩
def X9{l:List Int}(hd:DG W l)(hn:NZ l)(h:dv W l=JU z)(hz:sz z<=1000000000):l.length<=1000000000:=by
 have:=gN hd hn;rw[h,Dd]at this;omega
def Rf{a b:Int}(h:decide (a<0)=decide (b<0)):sg (decide (a<0)) (JU a+JU b)=a+b:=by
 unfold sg JU;by_cases ha:a<0<;>by_cases hb:b<0<;>simp[ha,hb]at h ⊢<;>omega
def Re{a b:Int}(h:decide (a<0)≠decide (b<0)):sg (decide (a<0)) (JU a-JU b)=a+b:=by
 unfold sg JU;by_cases ha:a<0<;>by_cases hb:b<0<;>simp[ha,hb]at h ⊢<;>omega
def PE{a b:Int}(h:decide (a<0)≠decide (b<0)):sg (decide (b<0)) (JU b-JU a)=a+b:=by
 unfold sg JU;by_cases ha:a<0<;>by_cases hb:b<0<;>simp[ha,hb]at h ⊢<;>omega
theorem BU(s s':Int)(q q':Option Addr)(n n' cap cap':Nat)(a b:Int)(w:World)(hv:YP w s q n cap a)(hv':YP w s' q' n' cap' b)
  (hc:q.isNone=false\/(q.isNone=true/\q'.isNone=false)\/(q.isNone=true/\q'.isNone=true/\(decide (s<wrap64 (s+s'))==decide (0<s'))=false))
  (ha:sz a<=1000000000) (hb:sz b<=1000000000) :
  Calls prog 202 #[.agg #[.int .i64 s,.slice q n cap],.agg #[.int .i64 s',.slice q' n' cap']] w λe w'=>Xt w (λv w'=>J8 w' v (a+b)) e w':=by
 have hn:=λw=>aA (P:=prog) w 112 283 q n cap 0 0 underlying112;have hn':=λw=>aA (P:=prog) w 112 283 q' n' cap' 0 0 underlying112;have HV:Hid (J8 w (.agg #[.int .i64 s,.slice q n cap]) a):=⟨_,_,_,_,rfl,hv⟩;have HV':Hid (J8 w (.agg #[.int .i64 s',.slice q' n' cap']) b):=⟨_,_,_,_,rfl,hv'⟩;have HBb:=aa (Bx.Ov w (.cells #[.int .i64 s,.slice q n cap] 114) (.cells IZ 114) 114 #[.int .i64 s',.slice q' n' cap']);have HBr:=aa (Bx.AO w (.cells #[.int .i64 s,.slice q n cap] 114) (.cells #[.int .i64 s',.slice q' n' cap'] 114) 114 IZ);clear hv hv';rcases hc with h1 | ⟨h1,h2⟩ | ⟨h1,h2,h3⟩
 all_goals
  rw[h1]at hn
  try rw[h2]at hn'
  go_enter func202,ntmps202
  go_wp2_with fail
  refine(Z6 _ a _ (HV.out.ext ((((Ext.refl _).alloc _).alloc _).alloc _))).mono ?_;rintro e w1 ⟨_,rfl,⟨p,la,rfl,hsa,hda,hna,hva⟩,hx⟩;have HB1:=aa (HBb.out.ext hx);have HR1:=aa (HBr.out.ext hx);obtain⟨c0,c1,f0,f1⟩:=HB1.out.two;have hlea:=X9 hda hna hva ha;have HVA:=aa hva;clear hva;go_wp2_with fail
  refine(Z6 _ b _ (HV'.out.ext (((((Ext.refl _).alloc _).alloc _).alloc _).trans hx))).mono ?_;rintro e w2 ⟨_,rfl,⟨p',lb,rfl,hsb,hdb,hnb,hvb⟩,hx2⟩;have HR2:=aa (HR1.out.ext hx2);have hleb:=X9 hdb hnb hvb hb;have HVB:=aa hvb;clear hvb c0 c1 f0 f1;have hsa2:=hsa.ext hx2;by_cases hsg:decide (a<0)=decide (b<0)
  ·have hgg:(decide (a<0)==decide (b<0))=true:=by simpa using hsg
   have HSG:Hid (sg (decide (a<0)) (dv W la+dv W lb)=a+b):=by
    show sg _ _=_;rw[HVA.out,HVB.out];exact Rf hsg
   clear hsg;go_wp2_with fail
   refine(P1 _ _ la lb _ hda hdb hsa2 hsb O O).mono ?_;rintro e w3 ⟨_,rfl,⟨l3,hs3,hd3,hn3,hv3⟩,hx3⟩;have HV3:=aa hv3;clear hv3;go_wp2_with fail
   refine(Ko _ _ l3 _ hs3 hd3 hn3).mono ?_;rw[HV3.out,HSG.out];rintro e w4 ⟨_,rfl,⟨s4,q4,n4,cap4,rfl,hp4⟩,hx4⟩;have HR4:=aa ((HR2.out.ext hx3).ext hx4);obtain⟨c0,c1,f0,f1⟩:=HR4.out.two;go_wp2
   refine bodyPost_ret (v:=.agg #[.int .i64 s4,.slice q4 n4 cap4]) (by simp[results,results202,go_sem,c0,c1]) I ⟨_,rfl,⟨_,_,_,_,rfl,hp4.kp ((Kp.refl _).Gu HR4.out.E4 R6 _ _)⟩,?_⟩;exact(((((((Ext.refl w).alloc _).alloc _).alloc _).trans hx).trans hx2).trans hx3 |>.trans hx4).Gu O _ _
  have hgg:(decide (a<0)==decide (b<0))=false:=by simpa using hsg
  have hcl:=Wv (x:=dv W la) (y:=dv W lb);have hcg:=VM (x:=dv W la) (y:=dv W lb);by_cases hge:dv W lb<=dv W la
  ·have HSG:Hid (sg (decide (a<0)) (dv W la-dv W lb)=a+b):=by
    show sg _ _=_;rw[HVA.out,HVB.out];exact Re hsg
   have hc3:=hcl hge;have hll:lb.length<=la.length:=by
    refine Nat.not_lt.1 λhlt=>?_;have:=XH DV hda hdb hnb hlt;omega
   have HGE:=aa hge;clear hsg hcl hcg hge;go_wp2_with fail
   refine(X1 _ _ la lb _ hda hdb hna hnb hsa2 hsb).mono ?_;rintro e w3 ⟨rfl,hx3⟩;have hsa3:=hsa2.ext hx3;have hsb3:=hsb.ext hx3;go_wp2_with fail
   refine(Hc _ _ la lb _ hda hdb hsa3 hsb3 O hll HGE.out).mono ?_;rintro e w4 ⟨_,rfl,⟨l3,hs3,hd3,hn3,hv3⟩,hx4⟩;have HV3:=aa hv3;clear hv3;go_wp2_with fail
   refine(Ko _ _ l3 _ hs3 hd3 hn3).mono ?_;rw[HV3.out,HSG.out];rintro e w5 ⟨_,rfl,⟨s4,q4,n4,cap4,rfl,hp4⟩,hx5⟩;have HR4:=aa (((HR2.out.ext hx3).ext hx4).ext hx5);obtain⟨c0,c1,f0,f1⟩:=HR4.out.two;go_wp2
   refine bodyPost_ret (v:=.agg #[.int .i64 s4,.slice q4 n4 cap4]) (by simp[results,results202,go_sem,c0,c1]) I ⟨_,rfl,⟨_,_,_,_,rfl,hp4.kp ((Kp.refl _).Gu HR4.out.E4 R6 _ _)⟩,?_⟩;exact(((((((Ext.refl w).alloc _).alloc _).alloc _).trans hx).trans hx2).trans hx3 |>.trans hx4 |>.trans hx5).Gu O _ _
  have HSG:Hid (sg (decide (b<0)) (dv W lb-dv W la)=a+b):=by
   show sg _ _=_;rw[HVA.out,HVB.out];exact PE hsg
  have HC3:=aa (hcg O);have hll:la.length<=lb.length:=by
   refine Nat.not_lt.1 λhlt=>?_;have:=XH DV hdb hda hna hlt;omega
  have HGE:Hid (dv W la<=dv W lb):=by show _<=_;omega
  clear hsg hcl hcg hge;go_wp2_with fail
  refine(X1 _ _ la lb _ hda hdb hna hnb hsa2 hsb).mono ?_;rw[HC3.out];rintro e w3 ⟨rfl,hx3⟩;have hsa3:=hsa2.ext hx3;have hsb3:=hsb.ext hx3;go_wp2_with fail
  refine(Hc _ _ lb la _ hdb hda hsb3 hsa3 O hll HGE.out).mono ?_;rintro e w4 ⟨_,rfl,⟨l3,hs3,hd3,hn3,hv3⟩,hx4⟩;have HV3:=aa hv3;clear hv3;go_wp2_with fail
  refine(Ko _ _ l3 _ hs3 hd3 hn3).mono ?_;rw[HV3.out,HSG.out];rintro e w5 ⟨_,rfl,⟨s4,q4,n4,cap4,rfl,hp4⟩,hx5⟩;have HR4:=aa (((HR2.out.ext hx3).ext hx4).ext hx5);obtain⟨c0,c1,f0,f1⟩:=HR4.out.two;go_wp2
  refine bodyPost_ret (v:=.agg #[.int .i64 s4,.slice q4 n4 cap4]) (by simp[results,results202,go_sem,c0,c1]) I ⟨_,rfl,⟨_,_,_,_,rfl,hp4.kp ((Kp.refl _).Gu HR4.out.E4 R6 _ _)⟩,?_⟩;exact(((((((Ext.refl w).alloc _).alloc _).alloc _).trans hx).trans hx2).trans hx3 |>.trans hx4 |>.trans hx5).Gu O _ _
set_option maxRecDepth 100000 in
set_option maxHeartbeats 800000 in
theorem IE(s s':Int)(w:World)(h0 : -9223372036854775808<=s)(h1:s<=9223372036854775807)(h0' : -9223372036854775808<=s')(h1':s'<=9223372036854775807)
  (hl : -9223372036854775808<=s+s') (hh:s+s'<=9223372036854775807) :
  Calls prog 202 #[.agg #[.int .i64 s,.slice none 0 0],.agg #[.int .i64 s',.slice none 0 0]] w λe w'=>Xt w (λv w'=>J8 w' v (s+s')) e w':=by
 have hn:=λw=>aA (P:=prog) w 112 283 none 0 0 0 0 underlying112;have hb1:(decide (s<s+s')==decide (0<s'))=true:=beq_iff_eq.2 (decide_eq_decide.2 O);have hb2:(decide (0<s')==decide (0<s'))=true:=wv;go_enter func202,ntmps202
 go_wp2_with fail
 exact bodyPost_ret (v:=.agg #[.int .i64 (s+s'),.slice none 0 0]) (by simp[results,results202,go_sem]) I ⟨_,rfl,J8.small _ hl hh,((((Ext.refl _).alloc _).alloc _).alloc _)⟩
theorem Ak(v v':Value)(a b:Int)(w:World)(hv:J8 w v a)(hv':J8 w v' b)(ha:sz a<=1000000000)(hb:sz b<=1000000000):
  Calls prog 202 #[v,v'] w λe w'=>Xt w (λv w'=>J8 w' v (a+b)) e w':=by
 obtain⟨s,q,n,cap,rfl,hp⟩:=hv;obtain⟨s',q',n',cap',rfl,hp'⟩:=hv';rcases hp.isNone with ⟨rfl,rfl,rfl,rfl,h0,h1⟩ | ⟨_,_,rfl⟩
 ·rcases hp'.isNone with ⟨rfl,rfl,rfl,rfl,h0',h1'⟩ | ⟨_,_,rfl⟩
  ·by_cases hl : -9223372036854775808<=s+s'/\s+s'<=9223372036854775807
   ·exact IE s s' w h0 h1 h0' h1' hl.1 hl.2
   refine BU _ _ _ _ _ _ _ _ _ _ w hp hp' (.inr (.inr ⟨rfl,rfl,?_⟩)) ha hb;simp only[wrap64,beq_eq_false_iff_ne,ne_eq,decide_eq_decide];omega
  exact BU _ _ _ _ _ _ _ _ _ _ w hp hp' (.inr (.inl ⟨rfl,rfl⟩)) ha hb
 exact BU _ _ _ _ _ _ _ _ _ _ w hp hp' (.inl rfl) ha hb
theorem Ut(v v':Value)(a b:Int)(w:World)(hv:J8 w v a)(hv':J8 w v' b)(ha:sz a<=1000000000)(hb:sz b<=1000000000):
  Calls prog 243 #[v,v'] w λe w'=>Xt w (λv w'=>J8 w' v (a-b)) e w':=by
 have HV:=aa hv;have HV':=aa hv';obtain⟨s,q,n,cap,rfl,hp⟩:=hv;obtain⟨s',q',n',cap',rfl,hp'⟩:=hv';have HBa:=aa (Bx.UO w (.cells #[.int .i64 s',.slice q' n' cap'] 114) (.cells IZ 114) 114 #[.int .i64 s,.slice q n cap]);have HBb:=aa (Bx.Ov w (.cells #[.int .i64 s,.slice q n cap] 114) (.cells IZ 114) 114 #[.int .i64 s',.slice q' n' cap']);have HBr:=aa (Bx.AO w (.cells #[.int .i64 s,.slice q n cap] 114) (.cells #[.int .i64 s',.slice q' n' cap'] 114) 114 IZ);have hnb:sz (-b)<=1000000000:=by rw[Y6];exact hb
 have HE:Hid (a + -b=a-b):=(Int.sub_eq_add_neg).symm;clear hp hp';go_enter func243,ntmps243
 go_wp2_with fail
 have hEW:Ext w (((w.alloc (.cells #[.int .i64 s,.slice q n cap] 114)).alloc (.cells #[.int .i64 s',.slice q' n' cap'] 114)).alloc (.cells IZ 114)):=(((Ext.refl w).alloc _).alloc _).alloc _;generalize hW:(((w.alloc (.cells #[.int .i64 s,.slice q n cap] 114)).alloc (.cells #[.int .i64 s',.slice q' n' cap'] 114)).alloc (.cells IZ 114))=W0 at *
 have HW:=aa hW;clear hW;obtain⟨ca0,ca1,fa0,fa1⟩:=HBa.out.two;obtain⟨cb0,cb1,fb0,fb1⟩:=HBb.out.two;clear fa0 fa1 fb0 fb1;go_region_held3 (λw'=>w'.cell? ⟨w.heap.size,0,none⟩=some (.int .i64 s)/\w'.cell? ⟨w.heap.size,1,none⟩=some (.slice q n cap)/\w'.cell? ⟨w.heap.size+1,0,none⟩=some (.int .i64 s')/\w'.cell? ⟨w.heap.size+1,1,none⟩=some (.slice q' n' cap'))
  (first | exact⟨hx1.cell ca0,hx1.cell ca1,hx1.cell cb0,hx1.cell cb1⟩ | exact⟨hx2.cell (hx1.cell ca0),hx2.cell (hx1.cell ca1),hx2.cell (hx1.cell cb0),hx2.cell (hx1.cell cb1)⟩ | exact⟨XM O (XM O (hx2.cell (hx1.cell ca0))),XM O (XM O (hx2.cell (hx1.cell ca1))),XM O (XM O (hx2.cell (hx1.cell cb0))),XM O (XM O (hx2.cell (hx1.cell cb1)))⟩ | go_keep)
  (first
   |(go_at_call 196;refine(PY _ b _ (HV'.out.ext (hEW.drew))).mono ?_;rintro e w1 ⟨_,rfl,⟨s1,q1,n1,cap1,rfl,hp1⟩,hx1⟩)
   |(go_at_call 202;refine(Ak _ _ a (-b) _ (HV.out.ext ((hEW.drew).trans hx1)) ⟨_,_,_,_,rfl,hp1⟩ ha hnb).mono ?_;rw[HE.out];rintro e w2 ⟨_,rfl,⟨s2,q2,n2,cap2,rfl,hp2⟩,hx2⟩;obtain⟨c0,c1,f0,f1⟩:=((HBr.out.drew.ext hx1).ext hx2).two))
 go_wp2
 refine bodyPost_ret (v:=.agg #[.int .i64 s2,.slice q2 n2 cap2]) (by simp[results,results243,go_sem,c0,c1]) I ⟨_,rfl,⟨_,_,_,_,rfl,hp2.kp ((Kp.refl _).Gu ((HBr.out.drew.ext hx1).ext hx2).E4 R6 _ _)⟩,?_⟩;exact((hEW.drew.trans hx1).trans hx2).Gu O _ _
def Su(a b:Int):MV (a-b)=YY a b:=(CX a b).symm
theorem F6(s s':Int)(w:World):
  Calls prog 153 #[.agg #[.int .i64 s,.slice none 0 0],.agg #[.int .i64 s',.slice none 0 0]] w λe w'=>e = .returned (.int .i64 (YY s s'))/\Ext w w':=by
 have hn:=λw=>aA (P:=prog) w 112 283 none 0 0 0 0 underlying112;rcases eZ s s' with g | g | g
 ·have HC:=aa (VM g);go_enter func153,ntmps153
  go_wp2
  go_ret
  exact⟨by rw[HC.out];rfl,((Ext.refl _).alloc _).alloc _⟩
 ·subst g;have HC:=aa (Du s);go_enter func153,ntmps153
  go_wp2
  go_ret
  exact⟨by rw[HC.out];rfl,((Ext.refl _).alloc _).alloc _⟩
 have HC:=aa (GD g);have g2:¬s<s':=O;go_enter func153,ntmps153
 go_wp2
 go_ret
 exact⟨by rw[HC.out];rfl,((Ext.refl _).alloc _).alloc _⟩
theorem Ae(v v':Value)(a b:Int)(w:World)(s s':Int)(q q':Option Addr)(n n' cap cap':Nat)(hv:YP w s q n cap a)(hv':YP w s' q' n' cap' b)(e1:v = .agg #[.int .i64 s,.slice q n cap])(e2:v' = .agg #[.int .i64 s',.slice q' n' cap'])
  (hc:q.isNone=false\/(q.isNone=true/\q'.isNone=false)) (ha:sz a<=1000000000) (hb:sz b<=1000000000) :
  Calls prog 153 #[v,v'] w λe w'=>e = .returned (.int .i64 (YY a b))/\Ext w w':=by
 subst e1 e2;have hn:=λw=>aA (P:=prog) w 112 283 q n cap 0 0 underlying112;have hn':=λw=>aA (P:=prog) w 112 283 q' n' cap' 0 0 underlying112;have HV:Hid (J8 w (.agg #[.int .i64 s,.slice q n cap]) a):=⟨_,_,_,_,rfl,hv⟩;have HV':Hid (J8 w (.agg #[.int .i64 s',.slice q' n' cap']) b):=⟨_,_,_,_,rfl,hv'⟩;have HC:=aa (Su a b);clear hv hv';rcases hc with h1 | ⟨h1,h2⟩
 all_goals
  rw[h1]at hn
  try rw[h2]at hn'
  go_enter func153,ntmps153
  go_wp2_with fail
  refine(Ut _ _ a b _ (HV.out.ext (((Ext.refl _).alloc _).alloc _)) (HV'.out.ext (((Ext.refl _).alloc _).alloc _)) ha hb).mono ?_;rintro e w1 ⟨_,rfl,⟨s1,q1,n1,cap1,rfl,hp1⟩,hx1⟩;have HP1:=aa hp1;clear hp1;go_wp2_with fail
  refine(Rc _ (a-b) _ ⟨_,_,_,_,rfl,HP1.out⟩).mono ?_;rw[HC.out];rintro e w2 ⟨rfl,hx2⟩;go_wp2
  go_ret
  exact⟨rfl,((((Ext.refl _).alloc _).alloc _).trans hx1).trans hx2⟩
theorem xU(v v':Value)(a b:Int)(w:World)(hv:J8 w v a)(hv':J8 w v' b)(ha:sz a<=1000000000)(hb:sz b<=1000000000):
  Calls prog 153 #[v,v'] w λe w'=>e = .returned (.int .i64 (YY a b))/\Ext w w':=by
 obtain⟨s,q,n,cap,e1,hp⟩:=hv;obtain⟨s',q',n',cap',e2,hp'⟩:=hv';rcases hp.isNone with ⟨rfl,rfl,rfl,rfl,h0,h1⟩ | ⟨_,_,rfl⟩
 ·rcases hp'.isNone with ⟨rfl,rfl,rfl,rfl,h0',h1'⟩ | ⟨_,_,rfl⟩
  ·subst e1 e2;exact F6 s s' w
  exact Ae _ _ _ _ w _ _ _ _ _ _ _ _ hp hp' e1 e2 (.inr ⟨rfl,rfl⟩) ha hb
 exact Ae _ _ _ _ w _ _ _ _ _ _ _ _ hp hp' e1 e2 (.inl rfl) ha hb
def Dl{s:Int}(h0 : -9223372036854775808<=s)(h1:s<=9223372036854775807):0<=JU s/\JU s<W:=by
 rw[GA];have:=WD;omega
def Oq{x y:Int}:Jh x y+W*XX x y=x*y:=by unfold Jh XX;rw[lz];exact fT _ _
def Ol{s:Int}:(if(decide (s<0)==decide (t<0))then JU s*JU t else -(JU s*JU t))=s*t:=by
 unfold JU;by_cases h1:s<0<;>by_cases h2:t<0<;>simp[h1,h2,bV,lD]
def L2{s:Int}:sg (!(decide (s<0)==decide (t<0))) (JU s*JU t)=s*t:=by
 rw[<-Ol (s:=s) (t:=t)];unfold sg;cases (decide (s<0)==decide (t<0))<;>simp
set_option maxRecDepth 100000 in
set_option maxHeartbeats 2000000 in
theorem Fc(s s':Int)(w:World)(h0 : -9223372036854775808<=s)(h1:s<=9223372036854775807)(h0' : -9223372036854775808<=s')(h1':s'<=9223372036854775807)
  (hl:JU s*JU s'<=9223372036854775807) :
  Calls prog 152 #[.agg #[.int .i64 s,.slice none 0 0],.agg #[.int .i64 s',.slice none 0 0]] w λe w'=>Xt w (λv w'=>J8 w' v (s*s')) e w':=by
 have hn:=λw=>aA (P:=prog) w 112 283 none 0 0 0 0 underlying112;have b1:=Dl h0 h1;have b2:=Dl h0' h1';have hp0:0<=JU s*JU s':=bA b1.1 b2.1;have hhi:XX (JU s) (JU s')=0:=fO hp0 (wi WD);have hlo:Jh (JU s) (JU s')=JU s*JU s':=iw hp0 (wi WD);have HHI:=aa hhi;have HLO:=aa hlo;have HSG:=aa (Ol (s:=s) (t:=s'));have HBa:=aa (Bx.UO w (.cells #[.int .i64 s',.slice none 0 0] 114) (.cells IZ 114) 114 #[.int .i64 s,.slice none 0 0]);have HBb:=aa (Bx.Ov w (.cells #[.int .i64 s,.slice none 0 0] 114) (.cells IZ 114) 114 #[.int .i64 s',.slice none 0 0]);generalize JU s*JU s'=p at *
 clear hhi hlo;by_cases hsg:(decide (s<0)==decide (s'<0))=true
 all_goals
  have hs2:=HSG.out
  first | rw[if_pos hsg]at hs2 | rw[if_neg hsg]at hs2
  have HS2:=aa hs2
  try have hsg3:(decide (s<0)==decide (s'<0))=false:=by simpa using hsg
  clear hs2;go_enter func152,ntmps152
  go_wp2_with fail
  go_region_held3 (λw'=>w'.cell? ⟨w.heap.size,0,none⟩=some (.int .i64 s)/\w'.cell? ⟨w.heap.size+1,0,none⟩=some (.int .i64 s'))
   (first | go_keep)
   (first
    |(go_at_call 240;(with_reducible refine(Wh s _ h0 h1).mono ?_);rintro e w1 ⟨rfl,rfl⟩)
    |(go_at_call 240;(with_reducible refine(Wh s' _ h0' h1').mono ?_);rintro e w1 ⟨rfl,rfl⟩)
    |(go_at_call 239;refine(Zo _ _ _ b1 b2).mono ?_;rw[HHI.out,HLO.out];rintro e w1 ⟨rfl,rfl⟩))
  go_wp2
  first
   |exact bodyPost_ret (v:=.agg #[.int .i64 (-p),.slice none 0 0]) (by simp[results,results152,go_sem]) I ⟨_,rfl,by rw[<-HS2.out];exact J8.small _ O O,(((Ext.refl w).alloc _).alloc _).alloc _ |>.drewN 1⟩
   |exact bodyPost_ret (v:=.agg #[.int .i64 p,.slice none 0 0]) (by simp[results,results152,go_sem]) I ⟨_,rfl,by rw[<-HS2.out];exact J8.small _ O O,(((Ext.refl w).alloc _).alloc _).alloc _ |>.drewN 1⟩
set_option maxRecDepth 100000 in
set_option maxHeartbeats 4000000 in
theorem NP(s s':Int)(q q':Option Addr)(n n' cap cap':Nat)(a b:Int)(w:World)(hv:YP w s q n cap a)(hv':YP w s' q' n' cap' b)
  (hc:q.isNone=false\/(q.isNone=true/\q'.isNone=false)) (ha:sz a<=1000000000) (hb:sz b<=1000000000) :
  Calls prog 152 #[.agg #[.int .i64 s,.slice q n cap],.agg #[.int .i64 s',.slice q' n' cap']] w λe w'=>Xt w (λv w'=>J8 w' v (a*b)) e w':=by
 have hn:=λw=>aA (P:=prog) w 112 283 q n cap 0 0 underlying112;have hn':=λw=>aA (P:=prog) w 112 283 q' n' cap' 0 0 underlying112;have HV:Hid (J8 w (.agg #[.int .i64 s,.slice q n cap]) a):=⟨_,_,_,_,rfl,hv⟩;have HV':Hid (J8 w (.agg #[.int .i64 s',.slice q' n' cap']) b):=⟨_,_,_,_,rfl,hv'⟩;have HBb:=aa (Bx.Ov w (.cells #[.int .i64 s,.slice q n cap] 114) (.cells IZ 114) 114 #[.int .i64 s',.slice q' n' cap']);have HBr:=aa (Bx.AO w (.cells #[.int .i64 s,.slice q n cap] 114) (.cells #[.int .i64 s',.slice q' n' cap'] 114) 114 IZ);clear hv hv';rcases hc with h1 | ⟨h1,h2⟩
 all_goals
  rw[h1]at hn
  try rw[h2]at hn'
  go_enter func152,ntmps152
  go_wp2_with fail
  refine(Z6 _ a _ (HV.out.ext ((((Ext.refl _).alloc _).alloc _).alloc _))).mono ?_;rintro e w1 ⟨_,rfl,⟨p,la,rfl,hsa,hda,hna,hva⟩,hx⟩;have HB1:=aa (HBb.out.ext hx);have HR1:=aa (HBr.out.ext hx);obtain⟨c0,c1,f0,f1⟩:=HB1.out.two;have hlea:=X9 hda hna hva ha;have HVA:=aa hva;clear hva;go_wp2_with fail
  refine(Z6 _ b _ (HV'.out.ext (((((Ext.refl _).alloc _).alloc _).alloc _).trans hx))).mono ?_;rintro e w2 ⟨_,rfl,⟨p',lb,rfl,hsb,hdb,hnb,hvb⟩,hx2⟩;have HR2:=aa (HR1.out.ext hx2);have hleb:=X9 hdb hnb hvb hb;have HVB:=aa hvb;clear hvb c0 c1 f0 f1;have hsa2:=hsa.ext hx2;have HSG:Hid (sg (!(decide (a<0)==decide (b<0))) (dv W la*dv W lb)=a*b):=by
   show sg _ _=_;rw[HVA.out,HVB.out];exact L2
  go_wp2_with fail
  refine(Hm _ _ la lb _ hda hdb hsa2 hsb O O).mono ?_;rintro e w3 ⟨_,rfl,⟨l3,hs3,hd3,hn3,hv3⟩,hx3⟩;have HV3:=aa hv3;clear hv3;go_wp2_with fail
  refine(Ko _ _ l3 _ hs3 hd3 hn3).mono ?_;rw[HV3.out,HSG.out];rintro e w4 ⟨_,rfl,⟨s4,q4,n4,cap4,rfl,hp4⟩,hx4⟩;have HR4:=aa ((HR2.out.ext hx3).ext hx4);obtain⟨c0,c1,f0,f1⟩:=HR4.out.two;go_wp2
  refine bodyPost_ret (v:=.agg #[.int .i64 s4,.slice q4 n4 cap4]) (by simp[results,results152,go_sem,c0,c1]) I ⟨_,rfl,⟨_,_,_,_,rfl,hp4.kp ((Kp.refl _).Gu HR4.out.E4 R6 _ _)⟩,?_⟩;exact(((((((Ext.refl w).alloc _).alloc _).alloc _).trans hx).trans hx2).trans hx3 |>.trans hx4).Gu O _ _
set_option maxRecDepth 100000 in
set_option maxHeartbeats 4000000 in
theorem Om(s s':Int)(w:World)(h0 : -9223372036854775808<=s)(h1:s<=9223372036854775807)(h0' : -9223372036854775808<=s')(h1':s'<=9223372036854775807)
  (hl:9223372036854775808<=JU s*JU s') (ha:sz s<=1000000000) (hb:sz s'<=1000000000) :
  Calls prog 152 #[.agg #[.int .i64 s,.slice none 0 0],.agg #[.int .i64 s',.slice none 0 0]] w λe w'=>Xt w (λv w'=>J8 w' v (s*s')) e w':=by
 have hn:=λw=>aA (P:=prog) w 112 283 none 0 0 0 0 underlying112;have b1:=Dl h0 h1;have b2:=Dl h0' h1';have HV:=aa (J8.small w h0 h1);have HV':=aa (J8.small w h0' h1');have HBa:=aa (Bx.UO w (.cells #[.int .i64 s',.slice none 0 0] 114) (.cells IZ 114) 114 #[.int .i64 s,.slice none 0 0]);have HBb:=aa (Bx.Ov w (.cells #[.int .i64 s,.slice none 0 0] 114) (.cells IZ 114) 114 #[.int .i64 s',.slice none 0 0]);have HBr:=aa (Bx.AO w (.cells #[.int .i64 s,.slice none 0 0] 114) (.cells #[.int .i64 s',.slice none 0 0] 114) 114 IZ);have hhl:=Oq (x:=JU s) (y:=JU s');have hor:XX (JU s) (JU s')≠0\/9223372036854775808<=Jh (JU s) (JU s'):=by
  by_cases h:XX (JU s) (JU s')=0
  ·right;rw[h]at hhl;omega
  exact .inl h
 have hcase:(XX (JU s) (JU s')==0)=false\/((XX (JU s) (JU s')==0)=true/\9223372036854775808<=Jh (JU s) (JU s')):=by
  by_cases h:XX (JU s) (JU s')=0
  ·exact .inr ⟨by simpa using h,by rcases hor with g | g;exact absurd h g;exact g⟩
  exact .inl (by simpa using h)
 clear hor hhl hl;generalize hmh:XX (JU s) (JU s')=mh at *
 generalize hml:Jh (JU s) (JU s')=ml at *
 have HMH:=aa hmh;have HML:=aa hml;clear hmh hml;rcases hcase with g1 | ⟨g1,g2⟩
 all_goals
  go_enter func152,ntmps152
  go_wp2_with fail
  go_region_held3 (λw'=>w'.cell? ⟨w.heap.size,0,none⟩=some (.int .i64 s)/\w'.cell? ⟨w.heap.size+1,0,none⟩=some (.int .i64 s'))
   (first | go_keep)
   (first
    |(go_at_call 240;(with_reducible refine(Wh s _ h0 h1).mono ?_);rintro e w1 ⟨rfl,rfl⟩)
    |(go_at_call 240;(with_reducible refine(Wh s' _ h0' h1').mono ?_);rintro e w1 ⟨rfl,rfl⟩)
    |(go_at_call 239;refine(Zo _ _ _ b1 b2).mono ?_;rw[HMH.out,HML.out];rintro e w1 ⟨rfl,rfl⟩))
  go_wp2_with fail
  refine(Z6 _ s _ (HV.out.ext (((((Ext.refl _).alloc _).alloc _).alloc _).drew))).mono ?_;rintro e w1 ⟨_,rfl,⟨p,la,rfl,hsa,hda,hna,hva⟩,hx⟩;have HB1:=aa (HBb.out.drew.ext hx);have HR1:=aa (HBr.out.drew.ext hx);obtain⟨c0,c1,f0,f1⟩:=HB1.out.two;have hlea:=X9 hda hna hva ha;have HVA:=aa hva;clear hva;go_wp2_with fail
  refine(Z6 _ s' _ (HV'.out.ext ((((((Ext.refl _).alloc _).alloc _).alloc _).drew).trans hx))).mono ?_;rintro e w2 ⟨_,rfl,⟨p',lb,rfl,hsb,hdb,hnb,hvb⟩,hx2⟩;have HR2:=aa (HR1.out.ext hx2);have hleb:=X9 hdb hnb hvb hb;have HVB:=aa hvb;clear hvb c0 c1 f0 f1;have hsa2:=hsa.ext hx2;have HSG:Hid (sg (!(decide (s<0)==decide (s'<0))) (dv W la*dv W lb)=s*s'):=by
   show sg _ _=_;rw[HVA.out,HVB.out];exact L2
  go_wp2_with fail
  refine(Hm _ _ la lb _ hda hdb hsa2 hsb O O).mono ?_;rintro e w3 ⟨_,rfl,⟨l3,hs3,hd3,hn3,hv3⟩,hx3⟩;have HV3:=aa hv3;clear hv3;go_wp2_with fail
  refine(Ko _ _ l3 _ hs3 hd3 hn3).mono ?_;rw[HV3.out,HSG.out];rintro e w4 ⟨_,rfl,⟨s4,q4,n4,cap4,rfl,hp4⟩,hx4⟩;have HR4:=aa ((HR2.out.ext hx3).ext hx4);obtain⟨c0,c1,f0,f1⟩:=HR4.out.two;go_wp2
  refine bodyPost_ret (v:=.agg #[.int .i64 s4,.slice q4 n4 cap4]) (by simp[results,results152,go_sem,c0,c1]) I ⟨_,rfl,⟨_,_,_,_,rfl,hp4.kp ((Kp.refl _).Gu HR4.out.E4 R6 _ _)⟩,?_⟩;exact((((((((Ext.refl w).alloc _).alloc _).alloc _).drew).trans hx).trans hx2).trans hx3 |>.trans hx4).Gu O _ _
theorem jh(v v':Value)(a b:Int)(w:World)(hv:J8 w v a)(hv':J8 w v' b)(ha:sz a<=1000000000)(hb:sz b<=1000000000):
  Calls prog 152 #[v,v'] w λe w'=>Xt w (λv w'=>J8 w' v (a*b)) e w':=by
 obtain⟨s,q,n,cap,rfl,hp⟩:=hv;obtain⟨s',q',n',cap',rfl,hp'⟩:=hv';rcases hp.isNone with ⟨rfl,rfl,rfl,rfl,h0,h1⟩ | ⟨_,_,rfl⟩
 ·rcases hp'.isNone with ⟨rfl,rfl,rfl,rfl,h0',h1'⟩ | ⟨_,_,rfl⟩
  ·by_cases hl:JU s*JU s'<=9223372036854775807
   ·exact Fc s s' w h0 h1 h0' h1' hl
   exact Om s s' w h0 h1 h0' h1' O ha hb
  exact NP _ _ _ _ _ _ _ _ _ _ w hp hp' (.inr ⟨rfl,rfl⟩) ha hb
 exact NP _ _ _ _ _ _ _ _ _ _ w hp hp' (.inl rfl) ha hb
theorem vz(n:Int)(w:World)(h0 : -9223372036854775808<=n)(h1:n<=9223372036854775807):
  Calls prog 123 #[.int .i64 n] w λe w'=>Xt w (λv w'=>J8 w' v n) e w':=by
 go_enter func123,ntmps123
 go_wp2
 exact bodyPost_ret (v:=.agg #[.int .i64 n,.slice none 0 0]) (by simp[results,results123,go_sem]) I ⟨_,rfl,J8.small _ h0 h1,(Ext.refl _).alloc _⟩
theorem Te{a b:Int}(hb:0<b):(0<=a.tmod b->a.tdiv b=a/b/\a.tmod b=a%b)/\(a.tmod b<0->a.tdiv b-1=a/b/\a.tmod b+b=a%b):=by
 have h1:=Int.mul_tdiv_add_tmod a b;have h3:a.tmod b<b/\-b<a.tmod b:=by
  have:=eu a hb;refine⟨this,?_⟩;have h:=eu (-a) hb;rw[iW]at h;omega
 generalize a.tdiv b=q at *
 generalize a.tmod b=r at *
 constructor
 ·intro hr;have g1:q*b<=a:=by rw[aq];omega
  have g2:a<(q+1)*b:=by rw[bJ,aq q];omega
  exact⟨(Xy hb g1 g2).symm,by rw[ZK g1 g2,aq q];omega⟩
 intro hr;have g1:(q-1)*b<=a:=by rw[bz,aq q];omega
 have g2:a<(q-1+1)*b:=by rw[show q-1+1=q from by omega,aq];omega
 exact⟨(Xy hb g1 g2).symm,by rw[ZK g1 g2,bz,aq q];omega⟩
def QC4(a b:Int)(r:Value)(w':World):Prop:=∃v v',r = .tuple #[v,v']/\J8 w' v (a/b)/\J8 w' v' (a%b)
set_option maxRecDepth 100000 in
set_option maxHeartbeats 400000 in
theorem Pv(s s':Int)(w:World)(h0 : -9223372036854775807<=s)(h1:s<=9223372036854775807)(hb0:0<s')(hb1:s'<=9223372036854775807):
  Calls prog 236 #[.agg #[.int .i64 s,.slice none 0 0],.agg #[.int .i64 s',.slice none 0 0]] w λe w'=>Xt w (QC4 s s') e w':=by
 have hn:=λw=>aA (P:=prog) w 112 283 none 0 0 0 0 underlying112;have hm:(s != -9223372036854775808)=true:=wy;have hz:(s'==0)=false:=wy;have hT:=Te (a:=s) hb0;have HT:=aa hT;have hbd : -9223372036854775807<=s.tdiv s'/\s.tdiv s'<=9223372036854775807:=by
  have h:=Int.natAbs_tdiv_le_natAbs s s';omega
 have hrd : -9223372036854775807<=s.tmod s'/\s.tmod s'<=9223372036854775807:=by
  have:=eu s hb0;have h:=eu (-s) hb0;rw[iW]at h;omega
 clear hT;have hqr:Hid (-9223372036854775808<=s/s'/\s/s'<=9223372036854775807/\0<=s%s'/\s%s'<=9223372036854775807):=by
  have r0:=bh s (by omega:s'≠0);have r1:=aT s hb0;by_cases hr:0<=s.tmod s'
  ·have:=HT.out.1 hr;exact⟨O,O,r0,O⟩
  have:=HT.out.2 O;exact⟨O,O,r0,O⟩
 by_cases hr:0<=s.tmod s'
 ·have HR:=aa (HT.out.1 hr);go_enter func236,ntmps236
  go_wp2_with fail
  go_quiet (fail)
  go_wp2
  refine bodyPost_ret (v:=.tuple #[.agg #[.int .i64 (s.tdiv s'),.slice none 0 0],.agg #[.int .i64 (s.tmod s'),.slice none 0 0]]) (by simp[results,results236,go_sem]) I ⟨_,rfl,⟨_,_,rfl,?_,?_⟩,?_⟩
  ·rw[HR.out.1];exact J8.small _ hqr.out.1 hqr.out.2.1
  ·rw[HR.out.2];exact J8.small _ (wi hqr.out) hqr.out.2.2.2
  repeat (first | (with_reducible exact Ext.refl _) | (with_reducible refine Ext.drewN ?_ _) | (with_reducible refine Ext.drew ?_) | (with_reducible refine Ext.alloc ?_ _) | (with_reducible refine Ext.XR ?_ (by dsimp only;omega) _))
 have HR:=aa (HT.out.2 O);have hw1:IntKind.i64.wrap (s.tdiv s'-1)=s.tdiv s'-1:=eM _ (by have:=HR.out;have:=hqr.out;omega);have hw2:IntKind.i64.wrap (s.tmod s'+s')=s.tmod s'+s':=eM _ O;have hr:s.tmod s'<0:=O;go_enter func236,ntmps236
 go_wp2_with fail
 go_quiet (fail)
 go_wp2
 go_quiet (fail)
 go_wp2
 refine bodyPost_ret (v:=.tuple #[.agg #[.int .i64 (s.tdiv s'-1),.slice none 0 0],.agg #[.int .i64 (s.tmod s'+s'),.slice none 0 0]]) (by simp[results,results236,go_sem]) I ⟨_,rfl,⟨_,_,rfl,?_,?_⟩,?_⟩
 ·rw[HR.out.1];exact J8.small _ hqr.out.1 hqr.out.2.1
 ·rw[HR.out.2];exact J8.small _ (wi hqr.out) hqr.out.2.2.2
 repeat (first | (with_reducible exact Ext.refl _) | (with_reducible refine Ext.drewN ?_ _) | (with_reducible refine Ext.drew ?_) | (with_reducible refine Ext.alloc ?_ _) | (with_reducible refine Ext.XR ?_ (by dsimp only;omega) _))
def MO(F:Gs)(w:World):Prop:=∀b c T,F b=some (c,T)->∃fr,w.heap[b]?=some (.cells c T fr)
def Fits.r(h:Fits F w):MO F w:=h.row
theorem MO.le(h:MO F' w)(k:Gs.le F F'):MO F w:=λb c T e=>h b c T (k b _ e)
def S1(w w':World):Prop:=∀(b:Nat) (c:Array Value) (fr:Nat×Nat),w.heap[b]?=some (.cells c 283 fr)->∃fr',w'.heap[b]?=some (.cells c 283 fr')
theorem Yy.WH(h:S1 w w'){b:Nat}(hb:Yy w b 283):Yy w' b 283:=by
 obtain⟨c,fr,e⟩:=hb;obtain⟨fr',e'⟩:=h b c fr e;exact⟨c,fr',e'⟩
theorem Cells.WH(h:S1 w w'){q:Option Addr}{l:List Int}(hc:Cells w q JM l):Cells w' q JM l:=by
 intro i hi;obtain⟨b,off,e,ht,hcell⟩:=hc i hi;refine⟨b,off,e,Yy.WH h ht,?_⟩;obtain⟨c,fr,hb⟩:=ht;obtain⟨fr',hb'⟩:=h b c fr hb;have e1:w.cell? ⟨b,off+i,none⟩=c[off+i]?:=by simp[fj,hb]
 have e2:w'.cell? ⟨b,off+i,none⟩=c[off+i]?:=by simp[fj,hb']
 simp_all
theorem SL.WH(h:S1 w w'){v:Value}{l:List Int}(hs:SL w v JM l):SL w' v JM l:=by
 obtain⟨q,cap,h1,h2,h3,h4⟩:=hs;exact⟨q,cap,h1,h2,h3,h4.WH h⟩
theorem YP.WH(h:S1 w w'){s:Int}{q:Option Addr}{n cap:Nat}{z:Int}(hv:YP w s q n cap z):YP w' s q n cap z:=by
 rcases hv with hv | ⟨b,off,l,h1,h2,h3,h4,h5,h6⟩
 ·exact .inl hv
 exact .inr ⟨b,off,l,h1,h2,h3,h4,h5.WH h,h6⟩
theorem QS.lift{val:γ->Value}{R:γ->World->Prop}(pr:γ->Prop)(he:Enters P f)(hF:Fits F w)
  (h:Calls P f args.toArray w λe w'=>∃c,e = .returned (val c)/\R c w'/\pr c/\Ext w w') (hR:∀c w' w'',S1 w' w''->R c w'->R c w''):QS P f args w F val (λc F=>(∀w,MO F w->R c w)/\pr c):=by
 refine⟨he,h.mono ?_⟩;rintro e w' ⟨c,rfl,hr,hpr,hx⟩;refine⟨c,λb=>if b<w.heap.size then F b else match w'.heap[b]? with | some (.cells c T _)=>if T=283 then some (c,283)else none | _=>none,rfl,.of hx,?_,?_,⟨?_,?_⟩,?_⟩
 ·intro b x hb;show(if b<w.heap.size then _ else _)=_;rw[if_pos (hF.lt hb)];exact hb
 ·simp_all
 ·intro b c T hb;by_cases hlt:b<w.heap.size
  ·rw[if_pos hlt]at hb;obtain⟨fr,e⟩:=hF.row b c T hb;exact⟨fr,by rw[hx.block b hlt];exact e⟩
  grind
 ·intro b c fr hb;by_cases hlt:b<w.heap.size
  ·rw[if_pos hlt];rw[hx.block b hlt]at hb;exact hF.all b c fr hb
  grind
 intro F'' hle;refine⟨λw'' hw''=>?_,hpr⟩;refine hR c w' w'' (λb c fr hb=>?_) hr;refine hw'' b c _ (hle b _ ?_);show(if b<w.heap.size then _ else _)=_;by_cases hlt:b<w.heap.size
 ·rw[if_pos hlt];rw[hx.block b hlt]at hb;exact hF.all b c fr hb
 grind
structure Bg where
 s:Int
 q:Option Addr
 n:Nat
 cap:Nat
variable{g g':Bg}
@[reducible] def Bg.v (g:Bg):Value:=.agg #[.int .i64 g.s,.slice g.q g.n g.cap]
def Jk(F:Gs)(g:Bg)(z:Int):Prop:=∀w,MO F w->YP w g.s g.q g.n g.cap z
theorem Jk.le(h:Jk F g z)(k:Gs.le F F'):Jk F' g z:=λw hw=>h w (hw.le k)
instance{g:Bg}{z:Int}: Up (λF=>Jk F g z):=⟨λk h=>Jk.le h k⟩
def Jk.at(h:Jk F g z){w:World}(hw:Fits F w):J8 w g.v z:=⟨_,_,_,_,rfl,h w hw.r⟩
def Jk.small(F:Gs){z:Int}(h0 : -9223372036854775808<=z)(h1:z<=9223372036854775807):Jk F ⟨z,none,0,0⟩ z:=λ_ _=>.inl ⟨rfl,rfl,rfl,rfl,h0,h1⟩
abbrev X3(P:Program)(f:FuncId)(args:List Value)(w:World)(F:Gs)(z:Int):Prop:=QS P f args w F Bg.v λg F=>Jk F g z
theorem X3.of(he:Enters P f)(hF:Fits F w)(h:Calls P f args.toArray w λe w'=>Xt w (λv w'=>J8 w' v z) e w'):X3 P f args w F z:=by
 refine(QS.lift (λ_=>True) he hF (h.mono ?_) λc w' w'' hs hr=>hr.WH hs).imp λc F' hf=>⟨c,rfl,λF'' hle=>Jk.le hf.1 hle⟩;rintro e w' ⟨v,rfl,⟨s,q,n,cap,rfl,hp⟩,hx⟩;exact⟨⟨s,q,n,cap⟩,rfl,hp,trivial,hx⟩
abbrev Qi[Dr](P:Program)(f:FuncId)(args:List Value)(w:World)(F:Gs)(v:Value):Prop:=QS P f args w F (λ(_:Unit)=>v) λ_ _=>True
theorem Qi.of{v:Value}(he:Enters P f)(hF:Fits F w)(h:Calls P f args.toArray w λe w'=>e = .returned v/\Ext w w'):Qi P f args w F v:=by
 have:=QS.lift (val:=λ_=>v) (R:=λ_ _=>True) (λ_=>True) he hF (h.mono λe w' ⟨h1,h2⟩=>⟨(),h1,trivial,trivial,h2⟩) (λ_ _ _ _ h=>h);simp_all
section
variable{w:World}{F:Gs}{g g':Bg}{a b:Int}
theorem Ef(hF:Fits F w)(h:Jk F g a):Qi prog 151 [g.v] w F (.int .i64 (MV a)) :=
 .of (enters_of func151 wu rfl) hF (Rc _ a w (h.at hF))
theorem R8(hF:Fits F w)(h:Jk F g a):X3 prog 196 [g.v] w F (-a) :=
 .of (enters_of func196 wu rfl) hF (PY _ a w (h.at hF))
theorem kO(hF:Fits F w)(h:Jk F g a):X3 prog 235 [g.v] w F (JU a) :=
 .of (enters_of func235 wu rfl) hF (xj _ a w (h.at hF))
theorem Aj(hF:Fits F w)(h:Jk F g a)(h':Jk F g' b)(ha:sz a<=1000000000)(hb:sz b<=1000000000):X3 prog 202 [g.v,g'.v] w F (a+b) :=
 .of (enters_of func202 wu rfl) hF (Ak _ _ a b w (h.at hF) (h'.at hF) ha hb)
theorem QAi(hF:Fits F w)(h:Jk F g a)(h':Jk F g' b)(ha:sz a<=1000000000)(hb:sz b<=1000000000):X3 prog 243 [g.v,g'.v] w F (a-b) :=
 .of (enters_of func243 wu rfl) hF (Ut _ _ a b w (h.at hF) (h'.at hF) ha hb)
theorem GY(hF:Fits F w)(h:Jk F g a)(h':Jk F g' b)(ha:sz a<=1000000000)(hb:sz b<=1000000000):X3 prog 152 [g.v,g'.v] w F (a*b) :=
 .of (enters_of func152 wu rfl) hF (jh _ _ a b w (h.at hF) (h'.at hF) ha hb)
theorem QCP(hF:Fits F w)(h:Jk F g a)(h':Jk F g' b)(ha:sz a<=1000000000)(hb:sz b<=1000000000):Qi prog 153 [g.v,g'.v] w F (.int .i64 (YY a b)) :=
 .of (enters_of func153 wu rfl) hF (xU _ _ a b w (h.at hF) (h'.at hF) ha hb)
theorem FW{n:Int}(hF:Fits F w)(h0 : -9223372036854775808<=n)(h1:n<=9223372036854775807):X3 prog 123 [.int .i64 n] w F n :=
 .of (enters_of func123 wu rfl) hF (vz n w h0 h1)
end
structure Sr where
 q:Option Addr
 n:Nat
 cap:Nat
variable{ra rb:Sr}
@[reducible] def Sr.v (r:Sr):Value:=.slice r.q r.n r.cap
def DX(F:Gs)(r:Sr)(l:List Int):Prop:=(∀w,MO F w->SL w r.v JM l)/\DG W l/\NZ l
theorem DX.le{r:Sr}{l:List Int}(h:DX F r l)(k:Gs.le F F'):DX F' r l:=⟨λw hw=>h.1 w (hw.le k),h.2⟩
section
variable{w:World}{F:Gs}{g g':Bg}{a b:Int}
theorem AB(hF:Fits F w)(h:Jk F g a):QS prog 220 [g.v] w F (λ(c:Sr×List Int)=>.tuple #[.bool (decide (a<0)),.slice c.1.q c.1.n c.1.cap]) (λc F=>DX F c.1 c.2/\dv W c.2=JU a):=by
 refine(QS.lift (λc=>DG W c.2/\NZ c.2/\dv W c.2=JU a)
  (enters_of func220 wu rfl) hF ((Z6 _ a w (h.at hF)).mono ?_) λc w' w'' hs hr=>hr.WH hs).imp λc F' hf=>⟨c,rfl,λF'' hle=>⟨DX.le ⟨hf.1,hf.2.1,hf.2.2.1⟩ hle,hf.2.2.2⟩⟩
 rintro e w' ⟨_,rfl,⟨p,l,rfl,hs,h1,h2,h3⟩,hx⟩;obtain⟨q,cap,rfl,hq⟩:=hs;exact⟨(⟨q,l.length,cap⟩,l),rfl,⟨q,cap,rfl,hq⟩,⟨h1,h2,h3⟩,hx⟩
theorem O1{neg:Bool}{r:Sr}{l:List Int}(hF:Fits F w)(h:DX F r l):X3 prog 241 [.bool neg,r.v] w F (sg neg (dv W l)) :=
 .of (enters_of func241 wu rfl) hF (Ko neg _ l w (h.1 w hF.r) h.2.1 h.2.2)
theorem CP{r r':Sr}(hF:Fits F w)(h:DX F r la)(h':DX F r' lb)(hb0:lb≠[])(h1:la.length<=10000000000)(h2:lb.length<=10000000000):
  QS prog 221 [r.v,r'.v] w F (λ(c:(Sr×List Int)×(Sr×List Int))=>.tuple #[.slice c.1.1.q c.1.1.n c.1.1.cap,.slice c.2.1.q c.2.1.n c.2.1.cap])
   (λc F=>(DX F c.1.1 c.1.2/\DX F c.2.1 c.2.2)/\dv W c.1.2=dv W la/dv W lb/\dv W c.2.2=dv W la%dv W lb):=by
 refine(QS.lift (val:=λ(c:(Sr×List Int)×(Sr×List Int))=>.tuple #[.slice c.1.1.q c.1.1.n c.1.1.cap,.slice c.2.1.q c.2.1.n c.2.1.cap]) (R:=λc w=>SL w c.1.1.v JM c.1.2/\SL w c.2.1.v JM c.2.2)
  (λc=>(DG W c.1.2/\NZ c.1.2)/\(DG W c.2.2/\NZ c.2.2)/\dv W c.1.2=dv W la/dv W lb/\dv W c.2.2=dv W la%dv W lb)
  (enters_of func221 wu rfl) hF ((UY _ _ la lb w h.2.1 h'.2.1 h.2.2 h'.2.2 (h.1 w hF.r) (h'.1 w hF.r) hb0 h1 h2).mono ?_) λc w' w'' hs hr=>⟨hr.1.WH hs,hr.2.WH hs⟩).imp
  λc F' hf=>⟨c,rfl,λF'' hle=>⟨⟨DX.le ⟨λw hw=>(hf.1 w hw).1,hf.2.1⟩ hle,DX.le ⟨λw hw=>(hf.1 w hw).2,hf.2.2.1⟩ hle⟩,hf.2.2.2⟩⟩
 rintro e w' ⟨_,rfl,⟨pq,pr,lq,lr,rfl,hsq,hsr,hdq,hdr,hvq,hvr⟩,hx⟩;obtain⟨q,cap,rfl,hq⟩:=hsq;obtain⟨q',cap',rfl,hq'⟩:=hsr;exact⟨((⟨q,lq.length,cap⟩,lq),(⟨q',lr.length,cap'⟩,lr)),rfl,⟨⟨q,cap,rfl,hq⟩,⟨q',cap',rfl,hq'⟩⟩,⟨hdq,hdr,hvq,hvr⟩,hx⟩
end
theorem Hx{a b:Int}(hb:0<b):
  (0<=sg (decide (a<0)) (JU a%b)->sg (decide (a<0)) (JU a/b)=a/b/\sg (decide (a<0)) (JU a%b)=a%b) /\
  (sg (decide (a<0)) (JU a%b)<0->sg (decide (a<0)) (JU a/b)-1=a/b/\sg (decide (a<0)) (JU a%b)+b=a%b):=by
 have q1:=fT (JU a) b;have q2:=bh (JU a) (by omega:b≠0);have q3:=aT (JU a) hb;generalize JU a/b=q at *
 generalize hr:JU a%b=r at *
 by_cases h:a<0
 ·rw[Hq h]at q1;have e1:sg (decide (a<0)) r = -r:=by simp[sg,h]
  have e2:sg (decide (a<0)) q = -q:=by simp[sg,h]
  rw[e1,e2];constructor
  ·intro h0;have:r=0:=O;have g1 : -q*b<=a:=by rw[bV,aq];omega
   have g2:a<(-q+1)*b:=by rw[bJ,bV,aq q];omega
   exact⟨(Xy hb g1 g2).symm,by rw[ZK g1 g2,bV,aq q];omega⟩
  intro h0;have g1:(-q-1)*b<=a:=by rw[bz,bV,aq q];omega
  have g2:a<(-q-1+1)*b:=by rw[show -q-1+1 = -q from by omega,bV,aq];omega
  exact⟨(Xy hb g1 g2).symm,by rw[ZK g1 g2,bz,bV,aq q];omega⟩
 rw[Vj O]at q1 hr;have e1:sg (decide (a<0)) r=r:=by simp[sg,h]
 have e2:sg (decide (a<0)) q=q:=by simp[sg,h]
 rw[e1,e2];constructor
 ·intro _;have g1:q*b<=a:=by rw[aq];omega
  have g2:a<(q+1)*b:=by rw[bJ,aq q];omega
  exact⟨(Xy hb g1 g2).symm,by rw[ZK g1 g2,aq q];omega⟩
 intro h0;omega
def Z3(x:Int):MV x<0↔x<0:=by unfold MV;split<;>(try split)<;>omega
def RV(a b:Int):sz (JU a/b)<=sz a:=by
 rw[<-Dd a];apply Vc;exact eC _ _
def zX(n:Bool)(x:Int):sz (sg n x)=sz x:=by unfold sg;split<;>simp[Y6]
def Us{a b:Int}(hb:0<b):sz (a%b)<=sz b:=by
 apply Vc;have:=bh a (by omega:b≠0);have:=aT a hb;omega
abbrev N0(P:Program)(f:FuncId)(args:List Value)(w:World)(F:Gs)(y z:Int):Prop:=QS P f args w F (λ(c:Bg×Bg)=>.tuple #[c.1.v,c.2.v]) λc F=>Jk F c.1 y/\Jk F c.2 z
theorem UW{a b:Int}(hF:Fits F w)(h:Jk F g a)(h':Jk F g' b)(hb0:0<b)(hza:sz a<=1000000000)(hzb:sz b<=1000000000)(hcase:g.q.isNone=true->g'.q.isNone=true->(g.s != -9223372036854775808)=false):
  N0 prog 236 [g.v,g'.v] w F (a/b) (a%b):=by
 refine QS.go (G:=λF=>Jk F g a/\Jk F g' b) func236 hF ⟨h,h'⟩ ?_;refine QG<|QB ?_
 refine Q9 I (vs:=[_,_]) I (λb2=>?_);refine Q9 I (vs:=[_,_]) I (λb3=>?_);refine Qk YU (λb4=>?_);refine Qk YU (λb5=>?_);refine QJl<|QG ?_
 refine G4 28 (.bool false) ?_ ?_
 ·refine QB<|QA (QH I Hu VQ)<|QA (Qp I VQ .u3 (.skip .h1))<|QA (Wk I I Ed)<|QJm I ?_
  refine Qa (t:=19) rfl (λhb19=>?_) λhb19=>?_
  ·refine QK I I<|QA (QH I Hu VQ)<|QK I I<|QA (Qp I VQ .u2 (.skip .h1))<|QK I I<|QA (Wk I I Ed)<|wB 2 I ?_
   refine Qa (t:=24) rfl (λhb24=>?_) λhb24=>?_
   ·refine QK I I<|QA (QH I Dq QY)<|QK I I<|QA (Qp I QY .u3 .h1)<|wB 4 I ?_
    exact XZ (exd 15 rfl rfl) (congrArg (λb=>some (ak b)) (hcase hb19 hb24)) QKK w7
   refine wB 5 I ?_;exact XZ (exd 15 rfl rfl) rfl QKK w7
  refine wB 10 I ?_;exact XZ (exd 14 rfl rfl) rfl QKK w7
 refine Zg I ?_
 ·refine QMX 4 I<|QA (wH I Qf .u3) ?_
  refine QL I (λw F hF ⟨ha,hb⟩=>AB hF (by assumption)) (λc53=>?_);rcases c53 with ⟨v53,l53⟩;dsimp only;refine XA _ (λw F hF ⟨⟨ha,hb⟩,⟨h53,h53p⟩⟩=>eU h53.2 h53p) (λp53=>?_);have hl53:=X9 p53.1.1 p53.1.2 p53.2 hza;refine QMW 9 I<|QA (wH I Qf .u2) ?_
  refine QL I (λw F hF ⟨⟨ha,hb⟩,⟨h53,h53p⟩⟩=>AB hF (by assumption)) (λc58=>?_);rcases c58 with ⟨v58,l58⟩;dsimp only;refine XA _ (λw F hF ⟨⟨⟨ha,hb⟩,⟨h53,h53p⟩⟩,⟨h58,h58p⟩⟩=>eU h58.2 h58p) (λp58=>?_);have hl58:=X9 p58.1.1 p58.1.2 p58.2 hzb;have hb58:l58≠[]:=by rintro rfl;have:=p58.2;rw[Vj O]at this;simp at this;omega
  refine QMW 11 I ?_;refine QL I (λw F hF ⟨⟨⟨ha,hb⟩,⟨h53,h53p⟩⟩,⟨h58,h58p⟩⟩=>CP hF (by assumption) (by assumption) hb58 O O) (λc64=>?_);rcases c64 with ⟨⟨v64,l64⟩,v64_,l64_⟩;dsimp only;refine XA _ (λw F hF ⟨⟨⟨⟨ha,hb⟩,⟨h53,h53p⟩⟩,⟨h58,h58p⟩⟩,⟨⟨h64,h64_⟩,h64p⟩⟩=>eU h64.2 (eU h64_.2 h64p)) (λp64=>?_);rw[p53.2,p58.2,Vj (show 0<=b by omega)]at p64;refine QMW 11 I ?_;refine QL I (λw F hF ⟨⟨⟨⟨ha,hb⟩,⟨h53,h53p⟩⟩,⟨h58,h58p⟩⟩,⟨⟨h64,h64_⟩,h64p⟩⟩=>O1 hF (by assumption)) (λg69=>?_);refine wB 2 I ?_;refine QL I (λw F hF ⟨⟨⟨⟨⟨ha,hb⟩,⟨h53,h53p⟩⟩,⟨h58,h58p⟩⟩,⟨⟨h64,h64_⟩,h64p⟩⟩,h69⟩=>O1 hF (by assumption)) (λg72=>?_);refine Qk YU (λb14=>?_);refine Qk YU (λb15=>?_);refine QV (vs:=[_,_]) I I I Qf I .u1 .h2 wU<|QV (vs:=[_,_]) I I I Qf I .here .h2 wU<|QMW 5 I<|QA (wH I Qf .here) ?_
  refine QL I (λw F hF ⟨⟨⟨⟨⟨⟨ha,hb⟩,⟨h53,h53p⟩⟩,⟨h58,h58p⟩⟩,⟨⟨h64,h64_⟩,h64p⟩⟩,h69⟩,h72⟩=>Ef hF (by assumption)) (λ_=>?_);refine QMW 3 I ?_;have hsz72:sz (sg (decide (a<0)) (dv W l64_))<=1000000000:=by rw[zX,p64.2.2.2];exact ae (Us hb0) hzb
  have hsz69:sz (sg (decide (a<0)) (dv W l64))<=1000000000:=by rw[zX,p64.2.2.1];exact ae (RV a b) hza
  refine QO I (λhc=>?_) λhc=>?_
  ·refine Je 6 QKK mixed wj wj ?_;simp only[aY,bK,aZ,aK];refine QJ (wH I Qf .u1) ?_;refine QZ I (λ_ _ f k=>FW f O O) (λg77=>?_);refine QZ I (λw F hF ⟨⟨⟨⟨⟨⟨⟨⟨ha,hb⟩,⟨h53,h53p⟩⟩,⟨h58,h58p⟩⟩,⟨⟨h64,h64_⟩,h64p⟩⟩,h69⟩,h72⟩,_⟩,h77⟩=>QAi hF (by assumption) (by assumption) hsz69 wk) (λg78=>?_);refine QJ (wH I Qf .here)<|QJ (wH I Qf .u4) ?_
   refine QZ I (λw F hF ⟨⟨⟨⟨⟨⟨⟨⟨⟨ha,hb⟩,⟨h53,h53p⟩⟩,⟨h58,h58p⟩⟩,⟨⟨h64,h64_⟩,h64p⟩⟩,h69⟩,h72⟩,_⟩,h77⟩,h78⟩=>Aj hF (by assumption) hb hsz72 hzb) (λg81=>?_);refine X7<|QV (vs:=[_,_]) I I I Qf I .u1 .h2 wU<|QV (vs:=[_,_]) I I I Qf I .here .h2 wU<|QJl<|QG<|JE (.cons_cons _ (.cons_cons _ (.cons _ (.cons _ tA)))) mixed wj<|QJ (wH I Qf .u1)<|QJ (wH I Qf .here)<|Jx (vs:=[_,_]) I I I Qf I .u3 (.cons_cons _ (.cons_cons _ (.cons _ tA))) w7 .h2 wU<|Jx (vs:=[_,_]) I I I Qf I .u2 (.cons_cons _ (.cons_cons _ (.cons _ tA))) w7 .h2 wU<|Qy<|QD<|QU ?_
   exact X4 (⟨g78,g81⟩) I (.J5 (c:=[_,_]) I Qf .u3 (.J5 (c:=[_,_]) I Qf .u2 .nil)) I λF ⟨⟨⟨⟨⟨⟨⟨⟨⟨⟨ha,hb⟩,⟨h53,h53p⟩⟩,⟨h58,h58p⟩⟩,⟨⟨h64,h64_⟩,h64p⟩⟩,h69⟩,h72⟩,_⟩,h77⟩,h78⟩,h81⟩=>(by have hd:=(Hx hb0).2 (by rw[<-p64.2.2.2];exact(Z3 _).1 (by simpa using hc));rw[p64.2.2.1]at h78;rw[p64.2.2.2]at h81;rw[hd.1]at h78;rw[hd.2]at h81;exact⟨h78,h81⟩)
  refine QMX 3 I<|JE (.cons_cons _ (.cons_cons _ (.cons _ (.cons _ tA)))) mixed wj<|QJ (wH I Qf .u1)<|QJ (wH I Qf .here)<|Jx (vs:=[_,_]) I I I Qf I .u3 (.cons_cons _ (.cons_cons _ (.cons _ tA))) w7 .h2 wU<|Jx (vs:=[_,_]) I I I Qf I .u2 (.cons_cons _ (.cons_cons _ (.cons _ tA))) w7 .h2 wU<|Qy<|QD<|QU ?_
  exact X4 (⟨g69,g72⟩) I (.J5 (c:=[_,_]) I Qf .u3 (.J5 (c:=[_,_]) I Qf .u2 .nil)) I λF ⟨⟨⟨⟨⟨⟨⟨ha,hb⟩,⟨h53,h53p⟩⟩,⟨h58,h58p⟩⟩,⟨⟨h64,h64_⟩,h64p⟩⟩,h69⟩,h72⟩,_⟩=>(by have hd:=(Hx hb0).1 (by rw[<-p64.2.2.2];have:=mt (Z3 _).2 (by simpa using hc);omega);rw[p64.2.2.1]at h69;rw[p64.2.2.2]at h72;rw[hd.1]at h69;rw[hd.2]at h72;exact⟨h69,h72⟩)
theorem MH{a b:Int}(hF:Fits F w)(h:Jk F g a)(h':Jk F g' b)(hb0:0<b)(hza:sz a<=1000000000)(hzb:sz b<=1000000000):
  N0 prog 236 [g.v,g'.v] w F (a/b) (a%b):=by
 by_cases hs:g.q.isNone=true/\g'.q.isNone=true/\(g.s != -9223372036854775808)=true
 ·obtain⟨s,q,n,cap⟩:=g;obtain⟨s',q',n',cap'⟩:=g';have hp:=h w hF.r;have hp':=h' w hF.r;obtain⟨h1,h2,h3⟩:=hs;dsimp only at *
  rcases hp.isNone with ⟨rfl,rfl,rfl,rfl,k0,k1⟩ | ⟨_,_,rfl⟩
  ·rcases hp'.isNone with ⟨rfl,rfl,rfl,rfl,k0',k1'⟩ | ⟨_,_,rfl⟩
   ·have hm:s≠-9223372036854775808:=by simpa using h3
    refine(QS.lift (val:=λ(c:Bg×Bg)=>.tuple #[c.1.v,c.2.v]) (R:=λc w=>YP w c.1.s c.1.q c.1.n c.1.cap (s/s')/\YP w c.2.s c.2.q c.2.n c.2.cap (s%s')) (λ_=>True) (enters_of func236 wu rfl) hF
     ((Pv s s' w O k1 hb0 k1').mono ?_) λc w' w'' hs hr=>⟨hr.1.WH hs,hr.2.WH hs⟩).imp λc F' hf=>⟨c,rfl,λF'' hle=>⟨Jk.le (λw hw=>(hf.1 w hw).1) hle,Jk.le (λw hw=>(hf.1 w hw).2) hle⟩⟩
    rintro e w' ⟨_,rfl,⟨v,v',rfl,⟨s1,q1,n1,cap1,rfl,hp1⟩,⟨s2,q2,n2,cap2,rfl,hp2⟩⟩,hx⟩;exact⟨(⟨s1,q1,n1,cap1⟩,⟨s2,q2,n2,cap2⟩),rfl,⟨hp1,hp2⟩,trivial,hx⟩
   cases h2
  cases h1
 refine UW hF h h' hb0 hza hzb λh1 h2=>?_;cases hv:(g.s != -9223372036854775808)with
 |false=>rfl
 |true=>exact absurd ⟨h1,h2,hv⟩ hs
theorem BI{a b:Int}(h:b ∣ a): -a / -b=a/b:=by
 obtain⟨c,rfl⟩:=h;by_cases hb:b=0
 ·subst hb;simp
 rw[Int.ediv_neg,<-lD,fH _ hb,fH _ hb];omega
theorem yL{a b:Int}(hF:Fits F w)(h:Jk F g a)(h':Jk F g' b)(hb0:b≠0)(hd:b ∣ a)(hza:sz a<=1000000000)(hzb:sz b<=1000000000):
  X3 prog 197 [g.v,g'.v] w F (a/b):=by
 refine QS.go (G:=λF=>Jk F g a/\Jk F g' b) func197 hF ⟨h,h'⟩ ?_;refine QG<|QB ?_
 refine Q9 I (vs:=[_,_]) I (λb2=>?_);refine Q9 I (vs:=[_,_]) I (λb3=>?_);refine Qk YU (λb4=>?_);refine QMW 5 I<|QA (wH I Qf .u1) ?_
 refine QL I (λw F hF ⟨ha,hb⟩=>Ef hF (by assumption)) (λ_=>?_);refine QMW 3 I ?_;refine QO I (λhc=>?_) λhc=>?_
 ·refine Je 4 QKK mixed wj wj ?_;simp only[aY,bK,aZ,aK];refine QJ (wH I Qf .u2) ?_;refine QZ I (λw F hF ⟨⟨ha,hb⟩,_⟩=>R8 hF (by assumption)) (λg11=>?_);refine QJ (wH I Qf .u1) ?_;refine QZ I (λw F hF ⟨⟨⟨ha,hb⟩,_⟩,h11⟩=>R8 hF (by assumption)) (λg13=>?_);refine X7<|QV (vs:=[_,_]) I I I Qf I .u2 .h2 wU<|QV (vs:=[_,_]) I I I Qf I .u1 .h2 wU<|QJl<|QLF<|QA (wH I Qf .u2)<|QA (wH I Qf .u1) ?_
  refine QL I (λ_ _ f k=>MH f k.1.2 k.2 (by have:=(Z3 b).1 (by simpa using hc);omega) (by rw[Y6];exact hza) (by rw[Y6];exact hzb)) (λc17=>?_);rcases c17 with ⟨g17,g17_⟩;dsimp only;refine wB 3 I ?_;refine Qk YU (λb5=>?_);refine Qk YU (λb6=>?_);refine QV (vs:=[_,_]) I I I Qf I .u1 .h2 wU<|QV (vs:=[_,_]) I I I Qf I .here .h2 wU<|QJl<|QLF<|QA (wH I Qf .u1)<|QV (vs:=[_,_]) I I I Qf I .u2 .h2 wU<|QJl<|QU ?_
  exact QM (_) rfl (.J5 (c:=[_,_]) I Qf .u2 .nil) rfl λF ⟨⟨⟨⟨⟨ha,hb⟩,_⟩,h11⟩,h13⟩,⟨h17,h17_⟩⟩=>(by rw[show -a / -b=a/b from BI hd]at h17;exact h17)
 refine QMX 4 I<|QA (wH I Qf .u2)<|QA (wH I Qf .u1) ?_
 refine QL I (λ_ _ f k=>MH f k.1.1 k.1.2 (by have:=mt (Z3 b).2 (by simpa using hc);omega) hza hzb) (λc17=>?_);rcases c17 with ⟨g17,g17_⟩;dsimp only;refine wB 3 I ?_;refine Qk YU (λb5=>?_);refine Qk YU (λb6=>?_);refine QV (vs:=[_,_]) I I I Qf I .u1 .h2 wU<|QV (vs:=[_,_]) I I I Qf I .here .h2 wU<|QJl<|QLF<|QA (wH I Qf .u1)<|QV (vs:=[_,_]) I I I Qf I .u2 .h2 wU<|QJl<|QU ?_
 exact QM (_) rfl (.J5 (c:=[_,_]) I Qf .u2 .nil) rfl λF h9=>h9.2.1
def Lz(x:Int)(h:MV x≠0):x≠0:=by rintro rfl;exact h rfl
def vP(x:Int)(h:MV x=0):x=0:=by unfold MV at h;split at h<;>(try split at h)<;>omega
structure QCw(a b:Int) where
 x:Int
 y:Int
 gx:Bg
 gy:Bg
 hx:0<=x
 hy:0<=y
 hg:eH x y=eH a b
 sx:sz x<=1000000000
 sy:sz y<=1000000000
theorem yt{a b:Int}(hF:Fits F w)(h:Jk F g a)(h':Jk F g' b)(hza:sz a<=1000000000)(hzb:sz b<=1000000000):
  X3 prog 147 [g.v,g'.v] w F (eH a b):=by
 refine QS.go (G:=λF=>Jk F g a/\Jk F g' b) func147 hF ⟨h,h'⟩ ?_;refine QG<|QB ?_
 refine Q9 I (vs:=[_,_]) I (λb2=>?_);refine Q9 I (vs:=[_,_]) I (λb3=>?_);refine Qk YU (λb4=>?_);refine QJl<|QG<|Je 4 QKK mixed wj wj ?_
 simp only[aY,bK,aZ,aK];refine QJ (wH I Qf .u2) ?_;refine QZ I (λw F hF ⟨ha,hb⟩=>kO hF (by assumption)) (λg8=>?_);refine QJ (wH I Qf .u1) ?_;refine QZ I (λw F hF ⟨⟨ha,hb⟩,h8⟩=>kO hF (by assumption)) (λg10=>?_);refine X7<|QV (vs:=[_,_]) I I I Qf I .u2 .h2 wU<|QV (vs:=[_,_]) I I I Qf I .u1 .h2 wU<|QMW 4 I ?_
 refine Xr (ι:=QCw a b) (λi=>[(2,.pointer (some ⟨b2,0,none⟩)),(3,.pointer (some ⟨b3,0,none⟩)),(4,.pointer (some ⟨b4,0,none⟩))]) (λi=>[(b4,.cells #[.int .i64 0,.slice none 0 0] 114 (0,0)),(b3,.cells #[.int .i64 i.gy.s,.slice i.gy.q i.gy.n i.gy.cap] 114 (0,0)),(b2,.cells #[.int .i64 i.gx.s,.slice i.gx.q i.gx.n i.gx.cap] 114 (0,0))])
  (λi F=>Jk F i.gx i.x/\Jk F i.gy i.y) (λi=>i.y.toNat) ⟨JU a,JU b,g8,g10,by rw[GA];omega,by rw[GA];omega,by rw[GA,GA];rfl,by rw[Dd];exact hza,by rw[Dd];exact hzb⟩ wV QKK (λ_ ⟨⟨_,h8⟩,h10⟩=>⟨h8,h10⟩) λi=>?_
 refine QG<|QLF<|QA (wH I Qf .u1) ?_
 refine QL I (λw F hF ⟨hX,hY⟩=>Ef hF (by assumption)) (λ_=>?_);refine QMW 3 I ?_;refine QO I (λhc=>?_) λhc=>?_
 ·refine QMX 5 I<|QA (wH I Qf .u2)<|QA (wH I Qf .u1) ?_
  refine QL I (λ_ _ f k=>MH f k.1.1 k.1.2 (by have:=i.hy;have:=Lz i.y (by simpa using hc);omega) i.sx i.sy) (λc17=>?_);rcases c17 with ⟨g17,g17_⟩;dsimp only;refine wB 3 I ?_;refine Qk YU (λb5=>?_);refine Qk YU (λb6=>?_);refine QV (vs:=[_,_]) I I I Qf I .u1 .h2 wU<|QV (vs:=[_,_]) I I I Qf I .here .h2 wU<|QJl<|Je 3 (.cons_cons _ (.cons_cons _ (.cons_cons _ (.cons_cons _ (.cons _ .slnil))))) mixed wj wj ?_
  simp only[aY,bK,aZ,aK];refine QJ (wH I Qf .u3)<|QJ (wH I Qf .here)<|Jx (vs:=[_,_]) I I I Qf I .u4 tA w7 .h2 wU<|X7<|QV (vs:=[_,_]) I I I Qf I .u3 .h2 wU<|QF<|Qg ?_
  have hy0:0<i.y:=by have:=i.hy;have:=Lz i.y (by simpa using hc);omega
  have hm0:=bh i.x (by omega:i.y≠0);have hm1:=aT i.x hy0;refine Qj (⟨i.y,i.x%i.y,i.gy,g17_,i.hy,hm0,by rw[<-i.hg,iY,iZ];first | rw[Int.gcd_sub_mul_left_left] | rw[Int.gcd_sub_mul_right_left] | rw[Int.gcd_sub_mul_left_right],i.sy,ae (Us hy0) i.sy⟩:QCw a b) (by show(i.x%i.y).toNat<i.y.toNat;omega) wV (.cons _ (.cons _ QKK)) λ_ ⟨⟨⟨_,hY⟩,_⟩,⟨_,h17⟩⟩=>⟨hY,h17⟩
 refine JK ?_;refine QLF<|QA (wH I Qf .u2)<|QV (vs:=[_,_]) I I I Qf I .here .h2 wU<|QJl<|QU ?_
 exact QM (_) rfl (.J5 (c:=[_,_]) I Qf .here .nil) rfl λF h9=>(by have h0:i.y=0:=vP i.y (by simpa using hc);have e:=i.hg;rw[h0,Int.gcd_zero_right]at e;rw[<-e,fW i.hx];exact h9.1.1)
def RU(a:Int):∀e:Nat,sz (a^e)<=e*sz a+1
 |0=>by simp;decide
 |e+1=>by
  rw[aX];have:=X8 (a^e) a;have:=RU a e;rw[eD];omega
structure dc(K:Nat) where
 k:Int
 e:Nat
 p:Nat
 go:Bg
 gx:Bg
 hk:0<=k
 hK:k<=9223372036854775807
 hp:1<=p
 h:e+p*k.toNat=K
structure dZ(K p:Nat)(k:Int) where
 e:Nat
 go:Bg
 h:e+p*(2*(k.toNat/2))=K
def PO{a:Int}{K e:Nat}(he:e<=K)(h:K*sz a<=500000000):sz (a^e)<=1000000000:=by
 have h1:=RU a e;have h2:=fU (sz a) he;omega
theorem QA5{a k:Int}(hF:Fits F w)(h:Jk F g a)(hk:0<=k)(hK:k<=9223372036854775807)(hz:k.toNat*sz a<=500000000):
  X3 prog 217 [g.v,.int .i64 k] w F (a^k.toNat):=by
 refine QS.go (G:=λF=>Jk F g a) func217 hF h ?_;refine QLF<|Q9 I (vs:=[_,_]) I λb2=>Qk YU λb4=>QJl<|QLF<|QL I (λ_ _ f k=>FW f O O) λg6=>Qk YU λb5=>QV (vs:=[_,_]) I I I Qf I .here .h2 wU<|QMW 4 I ?_
 refine Xr (ι:=dc k.toNat) (λi=>[(1,.int .i64 i.k),(2,.pointer (some ⟨b2,0,none⟩)),(4,.pointer (some ⟨b4,0,none⟩)),(5,.pointer (some ⟨b5,0,none⟩))]) (λi=>[(b5,.cells #[.int .i64 i.go.s,.slice i.go.q i.go.n i.go.cap] 114 (0,0)),(b4,.cells #[.int .i64 0,.slice none 0 0] 114 (0,0)),(b2,.cells #[.int .i64 i.gx.s,.slice i.gx.q i.gx.n i.gx.cap] 114 (0,0))])
  (λi F=>Jk F i.go (a^i.e)/\Jk F i.gx (a^i.p)) (λi=>i.k.toNat) ⟨k,0,1,g6,g,hk,hK,ax _,wv⟩ wW QKK (λ_ ⟨h1,h6⟩=>⟨by simpa using h6,by show Jk _ _ (a^1);rw[aX,iV,aR];exact h1⟩) λi=>?_
 refine wA 7 I ?_;refine QO I (λhc=>?_) λhc=>?_
 ·refine QMX 4 I ?_;have hk0:0<i.k:=by simpa using hc
  have hpk:i.p<=k.toNat:=by have:=i.h;have:=Nat.mul_le_mul_left i.p (show 1<=i.k.toNat by omega);omega
  have hik:=i.hk;have hiK:=i.hK;refine MN (ι:=dZ k.toNat i.p i.k) (λj=>[(1,.int .i64 i.k),(2,.pointer (some ⟨b2,0,none⟩)),(4,.pointer (some ⟨b4,0,none⟩)),(5,.pointer (some ⟨b5,0,none⟩))]) (λj=>[(b5,.cells #[.int .i64 j.go.s,.slice j.go.q j.go.n j.go.cap] 114 (0,0)),(b4,.cells #[.int .i64 0,.slice none 0 0] 114 (0,0)),(b2,.cells #[.int .i64 i.gx.s,.slice i.gx.q i.gx.n i.gx.cap] 114 (0,0))])
   (λj F=>Jk F j.go (a^j.e)/\Jk F i.gx (a^i.p)) ?_ ?_
  ·refine wS I<|QA (vg I I O)<|QMW 3 I ?_
   refine QO I (λhc=>?_) λhc=>?_
   ·refine QB<|QA (wH I Qf .here)<|QA (wH I Qf .u2)<|QL I (λ_ _ f k=>GY f k.1 k.2 (PO (wi i.h) hz) (PO hpk hz)) λg16=>QV (vs:=[_,_]) I I I Qf I .here .h2 wU<|QF ?_
    have hodd:i.k%2=1:=by simpa using hc
    refine ZP (⟨i.e+i.p,g16,by have:=i.h;have e:i.k.toNat=2*(i.k.toNat/2)+1:=O;rw[e,Nat.mul_add]at this;omega⟩:dZ k.toNat i.p i.k) wW QKK λ_ ⟨⟨_,hX⟩,h16⟩=>⟨by show Jk _ _ (a^(i.e+i.p));rw[eE];exact h16,hX⟩
   refine QN ?_;have hev:i.k%2=0:=by have:i.k%2≠1:=(by simpa using hc);omega
   refine ZP (⟨i.e,i.go,by have:=i.h;have e:i.k.toNat=2*(i.k.toNat/2):=O;rw[<-e];exact this⟩:dZ k.toNat i.p i.k) wW QKK w7
  intro j;refine wA 6 I ?_;refine QO I (λhc=>?_) λhc=>?_
  ·refine QB<|QA (wH I Qf .u2)<|QA (wH I Qf .u2)<|QL I (λ_ _ f k=>GY f k.2 k.2 (PO hpk hz) (PO hpk hz)) λg21=>QV (vs:=[_,_]) I I I Qf I .u2 .h2 wU<|QF<|Qg<|QMY 3 I<|QA (OM I I)<|wB 2 I ?_
   have hk2:(i.k/2).toNat=i.k.toNat/2:=O;refine Qj (⟨i.k/2,j.e,i.p+i.p,j.go,g21,O,O,wi i.hp,by rw[hk2];have:=j.h;rw[Nat.mul_left_comm]at this;rw[eD];omega⟩:dc k.toNat) (by show(i.k/2).toNat<i.k.toNat;omega) wW QKK λ_ ⟨⟨hO,_⟩,h21⟩=>⟨hO,by show Jk _ _ (a^(i.p+i.p));rw[eE];exact h21⟩
  refine QN<|Qg<|QMY 3 I<|QA (OM I I)<|wB 2 I ?_
  have hk1:i.k=1:=by have:¬1<i.k:=(by simpa using hc);omega
  have hk2:(i.k/2).toNat=i.k.toNat/2:=O;refine Qj (⟨i.k/2,j.e,i.p,j.go,i.gx,O,O,i.hp,by rw[hk2];have:=j.h;have h0:i.k.toNat/2=0:=O;rw[h0]at this ⊢;simpa using this⟩:dc k.toNat) (by show(i.k/2).toNat<i.k.toNat;omega) wW QKK w7
 refine JK ?_;refine QLF<|QA (wH I Qf .here)<|QV (vs:=[_,_]) I I I Qf I .u1 .h2 wU<|QJl<|QU ?_
 exact QM (_) rfl (.J5 (c:=[_,_]) I Qf .u1 .nil) rfl λF h9=>(by have h0:i.k.toNat=0:=(by have:¬0<i.k:=(by simpa using hc);omega);have e:=i.h;rw[h0]at e;have e2:i.e=k.toNat:=(by simpa using e);have e3:=congrArg (λn=>Jk F i.go (a^n)) e2;exact cast e3 h9.1)
structure Fr where
 n:Bg
 d:Bg
@[reducible] def Fr.v (x:Fr):Value:=.agg #[.int .i64 x.n.s,.slice x.n.q x.n.n x.n.cap,.int .i64 x.d.s,.slice x.d.q x.d.n x.d.cap]
def XV(F:Gs)(x:Fr)(r:Rat):Prop:=Jk F x.n r.num/\Jk F x.d r.den
def XV.le{x:Fr}{r:Rat}(h:XV F x r)(k:Gs.le F F'):XV F' x r:=⟨h.1.le k,h.2.le k⟩
instance{x:Fr}{r:Rat}: Up (λF=>XV F x r):=⟨λk h=>XV.le h k⟩
abbrev YA(P:Program)(f:FuncId)(args:List Value)(w:World)(F:Gs)(r:Rat):Prop:=QS P f args w F Fr.v λx F=>XV F x r
def Zv(r:Rat):Nat:=max (sz r.num) (sz (r.den:Int))
def JZ(r:Rat):sz r.num<=Zv r:=Nat.le_max_left _ _
def JQ(r:Rat):sz (r.den:Int)<=Zv r:=Nat.le_max_right _ _
def den_pos(r:Rat):(0:Int)<r.den:=wi r.den_pos
theorem YP.one{s:Int}{n:Nat}(h:YP w s q n cap z):(q.isNone=true->(s==1)=decide (z=1))/\(q.isNone=false->decide (z=1)=false):=by
 rcases h with ⟨rfl,rfl,rfl,rfl,_⟩ | ⟨b,off,l,rfl,_,_,_,_,_,_,_,h,hz,hb⟩
 ·exact⟨λ_=>by rw[ar];simp,λh=>(by cases h)⟩
 refine⟨λh=>(by cases h),λ_=>?_⟩;rcases h with rfl | rfl<;>simp<;>omega
structure MkI(a b:Int) where
 x:Int
 y:Int
 gx:Bg
 gy:Bg
 hy:0<y
 e:bg x y=bg a b
 sx:sz x<=1000000000
 sy:sz y<=1000000000
def Ua(x:Int):(bg x 1).num=x/\(bg x 1).den=1:=by
 rw[iF,iG];simp
def KL{x y:Int}(h:0<y):(eH x y:Int)≠0:=by
 have:eH x y≠0:=by rw[Ne,Int.gcd_eq_zero_iff];omega
 omega
def Sa{x y:Int}(h:0<y):sz (eH x y:Int)<=sz y:=by
 apply Vc;have:=Int.gcd_le_right x h;omega
def Ze{x y:Int}(h:0<y):(bg x y).num=x/(eH x y:Int)/\((bg x y).den:Int)=y/(eH x y:Int):=by
 rw[iF,iG,if_neg O,Int.sign_eq_one_of_pos h,aR,iY y x];refine⟨rfl,?_⟩;rw[Int.natCast_ediv,fW O]
theorem Oy{a b:Int}(hF:Fits F w)(h:Jk F g a)(h':Jk F g' b)(hb0:b≠0)(hza:sz a<=1000000000)(hzb:sz b<=1000000000):
  YA prog 122 [g.v,g'.v] w F (bg a b):=by
 refine QS.go (G:=λF=>Jk F g a/\Jk F g' b) func122 hF ⟨h,h'⟩ ?_;refine QG<|QB ?_
 refine Q9 I (vs:=[_,_]) I (λb2=>?_);refine Q9 I (vs:=[_,_]) I (λb3=>?_);refine Qk VA (λb4=>?_);refine QF<|QD ?_
 refine MN (ι:=MkI a b) (λi=>[(2,.pointer (some ⟨b2,0,none⟩)),(3,.pointer (some ⟨b3,0,none⟩)),(4,.pointer (some ⟨b4,0,none⟩))]) (λi=>[(b4,.cells #[.int .i64 0,.slice none 0 0,.int .i64 0,.slice none 0 0] 116 (0,0)),(b3,.cells #[.int .i64 i.gy.s,.slice i.gy.q i.gy.n i.gy.cap] 114 (0,0)),(b2,.cells #[.int .i64 i.gx.s,.slice i.gx.q i.gx.n i.gx.cap] 114 (0,0))]) (λi F=>Jk F i.gx i.x/\Jk F i.gy i.y) ?_ ?_
 ·refine QLF<|QA (wH I Qf .u1) ?_
  refine QL I (λw F hF ⟨ha,hb⟩=>Ef hF (by assumption)) (λ_=>?_);refine QMW 3 I ?_;refine QO I (λhc=>?_) λhc=>?_
  ·refine Je 4 QKK mixed wj wj ?_;simp only[aY,bK,aZ,aK];refine QJ (wH I Qf .u2) ?_;refine QZ I (λw F hF ⟨⟨ha,hb⟩,_⟩=>R8 hF (by assumption)) (λg10=>?_);refine QJ (wH I Qf .u1) ?_;refine QZ I (λw F hF ⟨⟨⟨ha,hb⟩,_⟩,h10⟩=>R8 hF (by assumption)) (λg12=>?_);refine X7<|QV (vs:=[_,_]) I I I Qf I .u2 .h2 wU<|QV (vs:=[_,_]) I I I Qf I .u1 .h2 wU<|QF ?_
   have hb1:b<0:=(Z3 b).1 (by simpa using hc);exact ZP (⟨-a,-b,g10,g12,O,ia a b,by rw[Y6];exact hza,by rw[Y6];exact hzb⟩:MkI a b) wV QKK λ_ ⟨⟨_,h10⟩,h12⟩=>⟨h10,h12⟩
  refine QN ?_;have hb1:¬b<0:=mt (Z3 b).2 (by simpa using hc);exact ZP (⟨a,b,g,g',O,rfl,hza,hzb⟩:MkI a b) wV QKK w8
 intro i;refine QG ?_;refine ZO _ (λw _ f k=>(k.2 w f.r).one) (λp1=>?_);refine G4 20 (.bool (decide (i.y=1))) ?_ ?_
 ·refine QB<|QA (QH I Hu VQ)<|QA (Qp I VQ .u1 (.skip .h1))<|QA (Wk I I Ed)<|QJm I ?_
  refine Qa (t:=16) rfl (λhb16=>?_) λhb16=>?_
  ·refine QK I I<|QA (QH I Dq QY)<|QK I I<|QA (Qp I QY .u1 .h1)<|wB 4 I ?_
   exact XZ (exd 9 rfl rfl) (congrArg (λb=>some (ak b)) (p1.1 hb16)) QKK w7
  refine wB 5 I ?_;exact XZ (exd 9 rfl rfl) (congrArg (λb=>some (ak b)) (p1.2 hb16).symm) QKK w7
 refine QO I (λhc=>?_) λhc=>?_
 ·refine QLF<|QA (wH I Qf .u2)<|QA (wH I Qf .u1)<|QA (ZT I PQ VA (.cons (vs:=[_,_]) I I I .h2 (.cons (vs:=[_,_]) I I I (.skip (.skip .h2)) .nil)))<|QV (vs:=[_,_,_,_]) I I I Jn I .here .h4 wW<|QJl<|QU ?_
  exact QM (⟨i.gx,i.gy⟩) I (.J5 (c:=[_,_,_,_]) I Jn .here .nil) rfl λF ⟨ha,hb⟩=>(by have h1:i.y=1:=(by simpa using hc);have e:=Ua i.x;rw[<-i.e,h1];exact⟨by rw[e.1];exact ha,by rw[e.2];have hb1:=hb;rw[h1]at hb1;exact hb1⟩)
 refine QMX 4 I<|QA (wH I Qf .u2)<|QA (wH I Qf .u1) ?_
 refine QL I (λ_ _ f k=>yt f k.1 k.2 i.sx i.sy) (λg26=>?_);refine Qk YU (λb5=>?_);refine QV (vs:=[_,_]) I I I Qf I .here .h2 wU<|QJl<|QG<|JE (.cons_cons _ (.cons _ tA)) mixed wj<|QJ (wH I Qf .u2)<|QJ (wH I Qf .here) ?_
 refine QZ I (λ_ _ f k=>yL f k.1.1 k.2 (KL i.hy) (Int.gcd_dvd_left ..) i.sx (ae (Sa i.hy) i.sy)) (λg29=>?_);refine QJ (wH I Qf .u1)<|QJ (wH I Qf .here) ?_
 refine QZ I (λ_ _ f k=>yL f k.1.1.2 k.1.2 (KL i.hy) (Int.gcd_dvd_right ..) i.sy (ae (Sa i.hy) i.sy)) (λg32=>?_);refine QJ (ZT I PQ VA (.cons (vs:=[_,_]) I I I .h2 (.cons (vs:=[_,_]) I I I (.skip (.skip .h2)) .nil)))<|Jx (vs:=[_,_,_,_]) I I I Jn I .u1 tA (λ_ h=>h.1.1) .h4 wW<|Qy<|QD<|QU ?_
 exact QM (⟨g29,g32⟩) I (.J5 (c:=[_,_,_,_]) I Jn .u1 .nil) rfl λF h9=>(by have e:=Ze (x:=i.x) i.hy;rw[<-i.e];exact⟨by rw[e.1];exact h9.1.2,by rw[e.2];exact h9.2⟩)
theorem N7{a:Int}(hF:Fits F w)(h:Jk F g a):YA prog 150 [g.v] w F (a:Rat):=by
 refine QS.go (G:=λF=>Jk F g a) func150 hF h ?_;refine QG<|QB ?_
 refine Q9 I (vs:=[_,_]) I (λb1=>?_);refine Qk VA (λb2=>?_);refine QJl<|QG<|JE (.cons _ tA) mixed wj<|QJ (wH I Qf .here) ?_
 refine QZ I (λ_ _ f k=>FW f O O) (λg4=>?_);refine QJ (ZT I PQ VA (.cons (vs:=[_,_]) I I I .h2 (.cons (vs:=[_,_]) I I I (.skip (.skip .h2)) .nil)))<|Jx (vs:=[_,_,_,_]) I I I Jn I .here tA w8 .h4 wW<|Qy<|QD<|QU ?_
 exact QM (⟨g,g4⟩) I (.J5 (c:=[_,_,_,_]) I Jn .here .nil) rfl λF h9=>⟨h9.1,h9.2⟩
theorem f_g{n:Int}(hF:Fits F w)(h0 : -9223372036854775808<=n)(h1:n<=9223372036854775807):YA prog 80 [.int .i64 n] w F (n:Rat):=by
 refine QS.go (G:=λF=>True) func80 hF trivial ?_;refine QG<|QB ?_
 refine Qk VA (λb2=>?_);refine QMW 5 I ?_;refine QL I (λ_ _ f _=>FW f O O) (λg4=>?_);refine QL I (λw F hF ⟨_,h4⟩=>N7 hF (by assumption)) (λx5=>?_);refine QV (vs:=[_,_,_,_]) I I I Jn I .here .h4 wW<|QJl<|QU ?_
 exact QM (_) rfl (.J5 (c:=[_,_,_,_]) I Jn .here .nil) rfl λF ⟨⟨_,h4⟩,⟨h5,h5_⟩⟩=>⟨‹_›,‹_›⟩
theorem uD{x:Fr}{r:Rat}(hF:Fits F w)(h:XV F x r):Qi prog 78 [x.v] w F (.int .i64 (MV r.num)):=by
 refine QS.go (G:=λF=>XV F x r) func78 hF h ?_;refine QG<|QB ?_
 refine Q9 I (vs:=[_,_,_,_]) I (λb1=>?_);refine QMW 5 I<|QA (QH I KN Qf)<|QA (wH I Qf .here) ?_
 refine QL I (λ_ _ f k=>Ef (g:=x.n) f k.1) (λ_=>?_);refine wR I<|QU ?_
 exact QMn I I I wz
theorem NY{x:Fr}{r:Rat}(hF:Fits F w)(h:XV F x r):Qi prog 136 [x.v] w F (.bool (decide ((r.den:Int)=1))):=by
 refine QS.go (G:=λF=>XV F x r) func136 hF h ?_;refine ZO _ (λw _ f h=>(h.2 w f.r).one) (λp1=>?_);refine QG<|QB ?_
 refine Q9 I (vs:=[_,_,_,_]) I (λb1=>?_);refine QMW 5 I<|QA (QH I Yk Qf)<|QA (QH I Hu VQ)<|QA (Qp I VQ .here (.skip (.skip (.skip .h1))))<|QA (Wk I I Ed)<|QJm I ?_
 refine Qa (t:=7) rfl (λhb7=>?_) λhb7=>?_
 ·refine QK I I<|QA (QH I Yk Qf)<|QK I I<|QA (QH I Dq QY)<|QK I I<|QA (Qp I QY .here (.skip (.skip .h1)))<|QMW 7 I ?_
  exact QMn I I (by show ak _=ak _;rw[<-p1.1 hb7];first | rfl | skip) wz
 refine QMW 9 I ?_;exact QMn I I (congrArg ak (p1.2 hb7)) wz
@[reducible] def tx (l:List UInt8):Value:=.string ⟨l.toArray⟩
theorem Um(l:List UInt8):(⟨l.toArray⟩:ByteArray).size=l.length:=by rfl
theorem Ta(l:List UInt8)(i j:Nat):(⟨l.toArray⟩:ByteArray).extract i j=⟨((l.take j).drop i).toArray⟩:=by
 apply ByteArray.ext;simp[ByteArray.data_extract,List.extract_toArray,List.extract_eq_take_drop,Array.mk.injEq,List.drop_take]
section
variable{P:Program}{N:Nat}{m:Sl}{Y:World->Prop}{ty:TypeId}
theorem Xe{yT:TypeId}{b:List UInt8}(hx:ev m x=some (tx a))(hy:ev m y=some (tx b))(h:a.length+b.length<=9223372036854775807):Qt P N m Y (.binOp .add T x y yT) ty (tx (a++b)):=by
 have:=OR (P:=P) (N:=N) (S:=Y) (ty:=ty) (T:=T) (yT:=yT) hx hy (by grind[Um]);trivial
def Xc{yT:TypeId}{b:List UInt8}(hx:ev m x=some (tx a))(hy:ev m y=some (tx b)):Qt P N m Y (.binOp .eql T x y yT) ty (.bool (a==b)) :=
 QP hx hy (by show some _=_;simp)
def Rv{yT:TypeId}{b:List UInt8}(hx:ev m x=some (tx a))(hy:ev m y=some (tx b)):Qt P N m Y (.binOp .neq T x y yT) ty (.bool (!(a==b))) :=
 QP hx hy (by show some _=_;simp)
theorem Ji(hx:ev m x=some (tx a))(hT:WE P T=true):Qt P N m Y (.call ⟨.builtin .len,#[x],#[T]⟩) ty (.int .i64 a.length):=by
 grind[OP,Um]
def Yc{i:Nat}(hx:ev m x=some (tx a))(hy:ev m y=some (.int .i64 (i:Int)))(hT:WE P T=true)(hi:i<a.length):Qt P N m Y (.index T x y) ty (.int .u8 (a[i].toNat:Int)):=by
 have:=OQ (N:=N) (S:=Y) (ty:=ty) hx hy hT (by trivial);trivial
theorem Hl{lo hi:Option _}{vl:Option Value}(l h:Nat)(hx:ev m x=some (tx a))(el:RD m lo=some vl)(eh:RD m hi=some vh)(hT:WE P T=true)
  (hlo:(vl=none/\l=0)\/vl=some (.int .i64 (l:Int))) (hhi:(vh=none/\h=a.length)\/vh=some (.int .i64 (h:Int))) (h1:l<=h) (h2:h<=a.length):Qt P N m Y (.slice T x lo hi none) ty (tx ((a.take h).drop l)):=by
 have:=Tp (N:=N) (S:=Y) (ty:=ty) hx el eh hT hlo (by trivial) h1 (by trivial)
 grind[Ta]
def VG{hi:Option _}(h:Nat)(hx:ev m x=some (tx a))(eh:RD m hi=some vh)(hT:WE P T=true)(hhi:vh=some (.int .i64 (h:Int)))(h2:h<=a.length):Qt P N m Y (.slice T x none hi none) ty (tx (a.take h)) :=
 Hl 0 h hx rfl eh hT (.inl ⟨rfl,rfl⟩) (.inr hhi) (aM _) h2
theorem ZQ{lo:Option _}{vl:Option Value}(l:Nat)(hx:ev m x=some (tx a))(el:RD m lo=some vl)(hT:WE P T=true)(hlo:vl=some (.int .i64 (l:Int)))(h1:l<=a.length):Qt P N m Y (.slice T x lo none none) ty (tx (a.drop l)):=by
 have:=Hl (N:=N) (Y:=Y) (ty:=ty) (hi:=none) l _ hx el I hT (.inr hlo) (.inl ⟨rfl,rfl⟩) h1 (ax _);simp_all
end
def Ka(F:Gs):Prop:=(∃m T,F 0=some (#[.int .i64 m],T))/\∃T,F 3=some ((Lib.pow10Tab.map λz=>au .u64 z).toArray,T)
theorem Ka.le(h:Ka F)(k:Gs.le F F'):Ka F':=by
 obtain⟨⟨m,T,h1⟩,T',h2⟩:=h;exact⟨⟨m,T,k _ _ h1⟩,T',k _ _ h2⟩
instance :Up (λF=>Ka F):=⟨λk h=>Ka.le h k⟩
theorem Ka.max(hF:Fits F w)(h:Ka F):∃m,w.cell? ⟨0,0,none⟩=some (.int .i64 m):=by
 obtain⟨⟨m,T,h1⟩,_⟩:=h;obtain⟨fr,e⟩:=hF.row _ _ _ h1;exact⟨m,by simp[fj,e]⟩
theorem MK(w:World)(e:TypeId)(s:ByteArray):Ext w (Lib.bytesWorld w e s) :=
 ⟨rfl,rfl,rfl,by simp[Lib.bytesWorld_size],λk hk=>Lib.bytesWorld_at_old w e s k hk⟩
section
variable{w:World}{F:Gs}
theorem y9(hF:Fits F w)(hG:Ka F){s p:List UInt8}(hs:s.length<4294967281):Qi prog 145 [tx s,tx p] w F (.tuple #[tx (fz s p).1,tx (fz s p).2.1,.bool (fz s p).2.2]):=by
 obtain⟨m,hm⟩:=hG.max hF;refine .of (enters_of func145 wu rfl) hF ((strings_Cut ⟨s.toArray⟩ ⟨p.toArray⟩ m w (by trivial) hm).mono ?_);rintro e w' ⟨h1,n,rfl⟩;exact⟨h1,(Ext.refl w).drewN n⟩
theorem Sq(hF:Fits F w){s p:List UInt8}:Qi prog 143 [tx s,tx p] w F (.tuple #[tx (af s p),.bool (aB s p)]):=by
 refine .of (enters_of func143 wu rfl) hF ((strings_CutPrefix ⟨s.toArray⟩ ⟨p.toArray⟩ w).mono ?_)
 grind[Ext.refl]
theorem SX(hF:Fits F w){s p:List UInt8}:Qi prog 237 [tx s,tx p] w F (.bool (aB s p)):=by
 refine .of (enters_of func237 wu rfl) hF ((strings_HasPrefix ⟨s.toArray⟩ ⟨p.toArray⟩ w).mono ?_)
 grind[Ext.refl]
theorem N8(hF:Fits F w){s p:List UInt8}:Qi prog 238 [tx s,tx p] w F (tx (af s p)):=by
 refine .of (enters_of func238 wu rfl) hF ((strings_TrimPrefix ⟨s.toArray⟩ ⟨p.toArray⟩ w).mono ?_)
 grind[Ext.refl]
theorem dN(hF:Fits F w){s:List UInt8}{n:Int}(hl:s.length<=18)(h:iJ s=some n):Qi prog 144 [tx s] w F (.tuple #[.int .i64 n,.nilIface]):=by
 refine .of (enters_of func144 wu rfl) hF ((strconv_Atoi ⟨s.toArray⟩ n (by trivial) h w).mono ?_)
 grind[MK]
end
section
variable[Dr][df:Df]
section
variable{P:Program}{Q:Exit->Act->World->Prop}{N:Nat}{m:Sl}{E E0:Env}{ops:Array Oper}{l:List Oper}{w0:World}{F0:Gs}{bs:List (Nat×Obj)}{G:Gs->Prop}
theorem St.perm(h:St ⟨w0,F0,bs,G⟩ w)(hp:bs.Perm bs'):St ⟨w0,F0,bs',G⟩ w:=by
 obtain⟨F,h⟩:=h;exact⟨F,h.le,h.old,h.fits,h.ext,λk hk=>h.bx k (hp.mem_iff.2 hk),(hp.map _).nodup_iff.1 h.nd,h.g⟩
def YQ(P:Program)(f:FuncId)(args:List Value)(E:Env){γ:Type}(val:γ->Value)(E':γ->Env):Prop :=
 Enters P f/\∀w,St E w->Calls P f args.toArray w λe w'=>∃c,e = .returned (val c)/\St (E' c) w'
def EPost{γ:Type}(val:γ->Value)(E':γ->Env)(e:Ending)(w':World):Prop:=∃c,e = .returned (val c)/\St (E' c) w'
section
variable{d:Nat}{ty:TypeId}{pos:String}{aft:Array Edge}{f:FuncId}{args:Array Operand}{tys:Array TypeId}{vs:List Value}{γ:Type}{val:γ->Value}{E':γ->Env}{bs1:List (Nat×Obj)}
theorem II{c1 c2:List Value}(hx:ev m x=some (.func (.func f) c1.toArray c2.toArray))(hv:HM m args.toList=some vs)(hp:bs.Perm bs1)(hc:YQ P f (c1++vs++c2) ⟨w0,F0,bs1,G⟩ val E')
  (k:∀c,JS P ops Q l N ((d,val c)::m) (E' c)) (hd:J1 N (some d)=true:=by rfl):JS P ops Q (⟨some d,.call ⟨.value x,args,tys⟩,ty,pos,aft,none⟩::l) N m ⟨w0,F0,bs,G⟩:=by
 intro a w ha hw;refine wpList_plain rfl λK hK=>?_;unfold Oper.wp;rw[VS hc.1 (ha.ev hx)];have e:c1.toArray++args.map a.eval++c2.toArray=(c1++vs++c2).toArray:=by
  have:=ha.HM hv;have e2:args.map a.eval=vs.toArray:=by rw[<-this];apply fw ;simp
  rw[e2];apply fw;simp
 simp only[Oper.upon];rw[e];refine(hc.2 w (hw.perm hp)).mono ?_;rintro e w' ⟨c,rfl,h⟩;exact hK _ _ (k c _ w' (ha.put hd (val c)) h)
theorem S3(hv:HM m args.toList=some vs)(hp:bs.Perm bs1)(hc:YQ P f vs ⟨w0,F0,bs1,G⟩ val E')
  (k:∀c,JS P ops Q l N ((d,val c)::m) (E' c)) (hd:J1 N (some d)=true:=by rfl):JS P ops Q (⟨some d,.call ⟨.value (.func f),args,tys⟩,ty,pos,aft,none⟩::l) N m ⟨w0,F0,bs,G⟩ :=
 II (x:=.func f) (c1:=[]) (c2:=[]) I hv hp (by simpa using hc) k hd
theorem Ny{bs0:List (Nat×Obj)}{G0:Gs->Prop}(hv:HM m args.toList=some vs)(hp:bs.Perm bs1)(hc:YQ P f vs ⟨w0,F0,bs1,G⟩ val E')(h0:∀c w,St (E' c) w->St ⟨w0,F0,bs0,G0⟩ w)
  (k:∀c,JD P ops Q ⟨w0,F0,bs0,G0⟩ l N ((d,val c)::m) (E' c)) (hd:J1 N (some d)=true:=by rfl):JD P ops Q ⟨w0,F0,bs0,G0⟩ (⟨some d,.call ⟨.value (.func f),args,tys⟩,ty,pos,aft,none⟩::l) N m ⟨w0,F0,bs,G⟩:=by
 intro hE a w ha hw;refine .inr ⟨rfl,?_⟩;rw[if_pos (by simp[iB])];unfold Oper.wp;rw[VS (c1:=#[]) (c2:=#[]) hc.1 (ha.ev (x:=.func f) rfl)];have e:#[]++args.map a.eval++#[]=vs.toArray:=by
  have:=ha.HM hv;have e2:args.map a.eval=vs.toArray:=by rw[<-this];apply fw ;simp
  rw[e2];apply fw;simp
 simp only[Oper.upon];rw[e];refine(hc.2 w (hw.perm hp)).mono ?_;rintro e w' ⟨c,rfl,h⟩;exact⟨h0 c w' h,k c (h0 c) _ w' (ha.put hd (val c)) h⟩
end
omit [Df] in
theorem YQ.intro{c:Code}{val:γ->Value}{E':γ->Env}(hf:P.funcs[f]?=some fn)(hb:fn.body=some c)(hn:(fn.name == "runtime.NumGoroutine")=false)(hN:fn.ntmps=N)(hl:iT args.length N=true)
  (h:J (df:=Y0) P c (bodyPost P fn (EPost val E')) N (B3 0 args) E):YQ P f args E val E':=by
 refine⟨enters_of hf hn (by rw[hb];rfl),λw hw=>calls_of_wp hf hb (h _ w ⟨?_,rfl,λt v ht=>?_⟩ hw)⟩
 ·have:=Nat.le_of_ble_eq_true hl
  simp[hN];omega
 obtain⟨_,h2⟩:=V9 args 0 t v ht
 have hlt:t<args.length:=by rcases aW t args.length with g | g;exact g;rw[fL,bQ g]at h2;cases h2
 simp only[fL]at h2
 rw[Array.getElem?_append,if_pos (by simpa using hlt)]
 simpa using h2
omit [Df] in
theorem G5{val:γ->Value}{E':γ->Env}{rs:List ResultVar}{vs:List Value}(c:γ)(hrs:fn.results=rs.toArray)(h:Hz P m bs rs vs)(hv:val c=(match vs with | [v]=>v | vs=>.tuple vs.toArray))(hg:∀w,St ⟨w0,F0,bs,G⟩ w->St (E' c) w):Fin (df:=Y0) (bodyPost P fn (EPost val E')) .ret N m ⟨w0,F0,bs,G⟩:=λa w ha hw =>
 ⟨ha.df,val c,by rw[hv];exact Wi hrs h ha hw,c,rfl,hg w hw⟩
omit [Df] in
theorem dp{val:γ->Value}{E':γ->Env}(h:Fin (df:=Y0) (bodyPost P fn (EPost val E')) .ret N m E):Fin (df:=Y0) (bodyPost P fn (EPost val E')) .normal N m E:=h
theorem KZ(hp:bs.Perm bs')(k:JS P ops Q l N m ⟨w0,F0,bs',G⟩):JS P ops Q l N m ⟨w0,F0,bs,G⟩:=λa w ha hw=>k a w ha (hw.perm hp)
theorem QCo{c:Code}(hp:bs.Perm bs')(k:J P c Q N m ⟨w0,F0,bs',G⟩):J P c Q N m ⟨w0,F0,bs,G⟩:=λa w ha hw=>k a w ha (hw.perm hp)
theorem QCt{d:Nat}{o:Op}{pos:String}{aft:Array Edge}{v:Value}(h:∀a w,JY N m a->St E w->∃w',(execOp a.eval ⟨some d,o,ty,pos,aft,none⟩).run P w = .ok (.value v) w'/\St E' w')(k:JS P ops Q l N ((d,v)::m) E')(hd:J1 N (some d)=true:=by rfl):
  JS P ops Q (⟨some d,o,ty,pos,aft,none⟩::l) N m E:=λa w ha hw=>wpList_plain rfl λK hK=>by
 obtain⟨w',h1,h2⟩:=h a w ha hw;exact upon_value h1 (hK _ _ (k _ w' (ha.put hd v) h2))
end
end
open Go
def RI(c:UInt8):Bool:=decide (48<=c.toNat)&&decide (c.toNat<=57)
def J7(l:List UInt8):Bool:=l.all RI
def Zd:RI c=true↔48<=c.toNat/\c.toNat<=57:=by simp[RI]
def Q4(l:List UInt8):Nat:=l.foldl (λa c=>a*10+(c.toNat-48)) 0
def QB1(l:List UInt8):∀a:Nat,l.foldl (λa c=>a*10+(c.toNat-48)) a=a*10^l.length+Q4 l:=by
 induction l with
 |nil=>intro a;simp[Q4]
 |cons c l ih =>
  intro a;simp only[List.foldl_cons,aQ,Q4];rw[ih,ih (0*10+_)];rw[eY,aV,eD,ee,fG,iR 10,bj]
def Zc(a b:List UInt8):Q4 (a++b)=Q4 a*10^b.length+Q4 b:=by
 unfold Q4;rw[List.foldl_append,QB1];rfl
def FO:Q4 []=0:=rfl
def Kd(c:UInt8):Q4 [c]=c.toNat-48:=by simp[Q4]
def Eo(c:UInt8)(l:List UInt8):Q4 (c::l)=(c.toNat-48)*10^l.length+Q4 l:=by
 rw[<-Kd,<-Zc];rfl
def Yu(a b:List UInt8):J7 (a++b)=(J7 a&&J7 b):=by simp[J7]
def GG(c:UInt8)(l:List UInt8):J7 (c::l)=(RI c&&J7 l):=by simp[J7]
def GF{l:List UInt8}(h:J7 l=true)(n:Nat):J7 (l.take n)=true:=by
 rw[<-bO n l,Yu,aE]at h;exact h.1
def BS{l:List UInt8}(h:J7 l=true)(n:Nat):J7 (l.drop n)=true:=by
 rw[<-bO n l,Yu,aE]at h;exact h.2
theorem KF{l:List UInt8}(h:J7 l=true):Q4 l<10^l.length:=by
 induction l with
 |nil=>simp[Q4]
 |cons c l ih =>
  rw[GG,aE]at h;have:=ih h.2;have hc:=Zd.1 h.1;rw[Eo,aQ,ee];have:(c.toNat-48)*10^l.length<=9*10^l.length:=fU _ O;omega
def Yt{d:Nat}(h:d<10):(bD (48+d)).toNat=48+d:=by
 rw[UInt8.toNat_ofNat'];omega
theorem JF(n:Nat):J7 (aj n)=true:=by
 induction n using iE with
 |_ n ih =>
  rw[aj];split
  ·rename_i h;simp[J7,RI,Yt h];omega
  rw[Yu,ih (n/10) O];have:n%10<10:=O;simp[J7,RI,Yt this];omega
def Jq(n:Nat):Q4 (aj n)=n:=by
 induction n using iE with
 |_ n ih =>
  rw[aj];split
  ·rename_i h;rw[Kd,Yt h];omega
  rw[Zc,ih (n/10) O,Kd,Yt O];simp;omega
def VK(n:Nat):aj n≠[]:=by
 rw[aj];split<;>simp
def ZW:aj 0=[48]:=by rw[aj];rfl
def Jl(l:List UInt8):Bool:=J7 l&&!l.isEmpty&&(l==[48]||!(l.head?==some 48))
def Ku{n d:Nat}(hn:0<n)(hd:d<10):aj (n*10+d)=aj n++[bD (48+d)]:=by
 rw[aj,dif_neg O];congr 2
 ·congr 1;omega
 congr 2;omega
def Sm(h:RI c=true):bD (48+(c.toNat-48))=c:=by
 have:=Zd.1 h;apply ey;rw[Yt O];omega
theorem Hy:∀ {l:List UInt8},J7 l=true->l≠[]->l.head?≠some 48->aj (Q4 l)=l/\0<Q4 l:=by
 intro l
 induction hn:l.length generalizing l with
 |zero=>intro _ h _;exact absurd (bU hn) h
 |succ n ih =>
  intro ha hne hh;rcases List.eq_nil_or_concat l with h | ⟨a,c,rfl⟩
  ·exact absurd h hne
  simp only[List.concat_eq_append]at *
  rw[Yu,aE]at ha;have hc:RI c=true:=by simpa[J7]using ha.2
  have hc':=Zd.1 hc;rw[Zc,Kd];cases a with
  |nil =>
   have h48:c≠48:=by simpa using hh
   have:c.toNat≠48:=λe=>h48 (ey (by rw[e];rfl));simp only[FO,eY,aV,List.nil_append];refine⟨?_,O⟩;rw[aj,dif_pos O,Sm hc]
  |cons x a =>
   obtain⟨h1,h2⟩:=ih (l:=x::a) (by simp at hn ⊢;omega) ha.1 wv (by simpa using hh);refine⟨?_,wy⟩;simp only[bP,lB];rw[Ku h2 O,h1,Sm hc]
theorem Wr{l:List UInt8}(h:Jl l=true):aj (Q4 l)=l:=by
 simp only[Jl,aE,iD,beq_iff_eq,il,fB]at h;rcases h.2 with h1 | h1
 ·subst h1;rw[Kd];exact ZW
 exact(Hy h.1.1 h.1.2 (by simpa using h1)).1
theorem Cf{l:List UInt8}(h:J7 l=true):∀a,fX a l=some (a*10^l.length+Q4 l):=by
 induction l with
 |nil=>intro a;simp[fX,Q4]
 |cons c l ih =>
  intro a;rw[GG,aE]at h;have hc:=Zd.1 h.1;simp only[fX,Lib.digitVal,if_pos hc];rw[ih h.2,Eo,aQ,ee,eD,fG,iR 10,bj]
theorem IB{l:List UInt8}(h:J7 l=true)(hne:l≠[]):iJ l=some (Q4 l:Int):=by
 cases l with
 |nil=>exact absurd rfl hne
 |cons c l =>
  have hc:=Zd.1 (by rw[GG,aE]at h;exact h.1);have h1:(c==45)=false:=by
   apply beq_eq_false_iff_ne.2;rintro rfl;simp at hc
  have h2:(c==43)=false:=by
   apply beq_eq_false_iff_ne.2;rintro rfl;simp at hc
  simp only[iJ,h1,h2,Bool.false_eq_true,if_false,Lib.decNat,List.isEmpty_cons];rw[Cf h];simp
def GO(k:Nat)(l:List UInt8):List UInt8:=fm [48] (k-l.length)++l
def Yq(k:Nat):fm [48] k=aH k 48:=by
 induction k with
 |zero=>rfl
 |succ k ih=>rw[fm,ih];rfl
def Km{u:Nat}(h:u<10^k)(hk:0<k):Lib.nDigits u<=k:=by
 induction k generalizing u with
 |zero=>omega
 |succ k ih =>
  by_cases h10:u<10
  ·rw[Lib.nDigits_small h10];omega
  rw[Lib.nDigits_big h10];rcases bH k with h0 | h0
  ·subst h0;simp at h;omega
  have:=ih (u:=u/10) (by rw[ee]at h;omega) h0;omega
def R3{l:List UInt8}(h:l.length<=k):(GO k l).length=k:=by
 unfold GO;rw[Yq];simp;omega
def OY(k:Nat)(l:List UInt8)(c:UInt8):GO (k+1) (l++[c])=GO k l++[c]:=by
 unfold GO;simp
theorem WJ{q:Nat}(hq:0<q):∀(k r:Nat),0<k->r<10^k->aj (q*10^k+r)=aj q++GO k (aj r)
 |0,_,h,_=>O
 |1,r,_,hr=>by
  simp only[lB]at *
  rw[Ku hq hr,ff hr];rfl
 |k+2,r,_,hr=>by
  have e:q*10^(k+2)+r=(q*10^(k+1)+r/10)*10+r%10:=by
   rw[ee,<-fG];omega
  have hr1:r/10<10^(k+1):=by rw[ee]at hr;omega
  have hpos:0<q*10^(k+1)+r/10:=by
   have:=Nat.mul_pos hq (Nat.pow_pos (n:=k+1) (show 0<10 by decide));omega
  rw[e,Ku hpos O,WJ hq (k+1) (r/10) O hr1,ig];congr 1;by_cases h10:r<10
  ·rw[ff (show r/10<10 by omega),ff h10];have h0:r/10=0:=O;rw[h0];unfold GO;rw[Yq,Yq];simp only[bP,er];rw[show k+2-1=k+1 by omega,fR,iy h10];rfl
  rw[<-OY];congr 1;rw[fv r,dif_neg h10]
def Xm(z:Int):List UInt8:=iI z
def Q8(r:Rat):List UInt8:=if r.den=1 then Xm r.num else Xm r.num++47::aj r.den
theorem Zr(h:z<0):Xm z=45::aj z.natAbs:=by unfold Xm iI;rw[if_pos h]
theorem Jd(h:0<=z):Xm z=aj z.natAbs:=by
 unfold Xm iI;rw[if_neg O];congr 1;omega
def Zq(l:List UInt8):Int:=if aB l [45]then -(Q4 (l.drop 1):Int)else(Q4 l:Int)
theorem Yd{l:List UInt8}(h:J7 l=true):aB l [45]=false:=by
 cases l with
 |nil=>rfl
 |cons c l =>
  have hc:=Zd.1 (by rw[GG,aE]at h;exact h.1);have:(45==c)=false:=by
   apply beq_eq_false_iff_ne.2;rintro rfl;simp at hc
  simp[aB,bY,this]
def Zb(z:Int):Zq (Xm z)=z:=by
 unfold Zq;by_cases h:z<0
 ·rw[Zr h];simp[aB,bY,Jq];omega
 rw[Jd O,Yd (JF _)];simp[Jq];omega
def XD{a b:Int}{n:Nat}(h:sz a<=m)(k:sz b<=n):sz (a*b)<=m+n:=ae (X8 a b) (Nat.add_le_add h k)
def M6{a b:Int}{n:Nat}(h:sz a<=m)(k:sz b<=n):sz (a+b)<=max m n+1:=wi<|Eb a b
theorem Vt{a b:Int}(hb:b≠0):Zv (bg a b)<=max (sz a) (sz b):=by
 have key:∀(x y:Int),0<y->Zv (bg x y)<=max (sz x) (sz y):=by
  intro x y hy;have h:=Ze (x:=x) hy;unfold Zv;rw[h.1,h.2];have h1:sz (x/(eH x y:Int))<=sz x:=Vc (eC _ _);have h2:sz (y/(eH x y:Int))<=sz y:=Vc (eC _ _);omega
 rcases Int.lt_or_gt_of_ne hb with h | h
 ·rw[<-ia];have:=key (-a) (-b) O;rw[Y6,Y6]at this;exact this
 exact key a b h
def X0(r:Rat):(r.den:Int)≠0:=wi<|den_pos r
def Kv(r s:Rat):r+s=bg (r.num*s.den+s.num*r.den) ((r.den:Int)*s.den):=by
 rw[iQ,<-ix,fu]
def Kn(r s:Rat):r*s=bg (r.num*s.num) ((r.den:Int)*s.den):=by
 rw[Rat.mul_def',<-ix,fu]
def Uo(r:Rat):Zv (-r)=Zv r:=by unfold Zv;rw[Rat.neg_num,Rat.neg_den,Y6]
theorem pH(r s:Rat):Zv (r+s)<=Zv r+Zv s+1:=by
 rw[Kv];refine ae (Vt (eP (X0 r) (X0 s))) ?_;have h1:=M6 (XD (JZ r) (JQ s)) (XD (JZ s) (JQ r));have h2:=XD (JQ r) (JQ s);omega
theorem W3(r s:Rat):Zv (r*s)<=Zv r+Zv s:=by
 rw[Kn];refine ae (Vt (eP (X0 r) (X0 s))) ?_;have h1:=XD (JZ r) (JZ s);have h2:=XD (JQ r) (JQ s);omega
theorem jE(n:Int):Zv (n:Rat)<=max (sz n) 1:=by
 unfold Zv;rw[fp,fq];have:sz ((1:Nat):Int)=1:=wk;omega
theorem Fy{x y:Fr}{r s:Rat}(hF:Fits F w)(h:XV F x r)(h':XV F y s)(hr:Zv r<=100000000)(hs:Zv s<=100000000):YA prog 102 [x.v,y.v] w F (r*s):=by
 refine QS.go (G:=λF=>XV F x r/\XV F y s) func102 hF ⟨h,h'⟩ ?_;refine QLF<|Q9 I (vs:=[_,_,_,_]) I λb2=>Q9 I (vs:=[_,_,_,_]) I λb3=>Qk VA λb4=>QJl<|QG<|JE (.cons _ tA) mixed wj<|QJ (QH I KN Qf)<|QJ (wH I Qf .u1)<|QJ (QH I KN Qf)<|QJ (wH I Qf .here)<|QZ I (λ_ _ f k=>GY f k.1.1 k.2.1 (ae (JZ r) O) (ae (JZ s) O)) λg9=>QJ (QH I Yk Qf)<|QJ (Qh (vs:=[_,_]) I Qf .u1 (.skip (.skip .h2)) I)<|QJ (QH I Yk Qf)<|QJ (Qh (vs:=[_,_]) I Qf .here (.skip (.skip .h2)) I)<|QZ I (λ_ _ f k=>GY f k.1.1.2 k.1.2.2 (ae (JQ r) O) (ae (JQ s) O)) λg14=>QZ I (λw F hF ⟨⟨⟨⟨hn,hd⟩,⟨kn,kd⟩⟩,h9⟩,h14⟩=>Oy hF h9 h14 (eP (X0 r) (X0 s)) (ae (XD (JZ r) (JZ s)) O) (ae (XD (JQ r) (JQ s)) O)) λx15=>Jx (vs:=[_,_,_,_]) I I I Jn I .here tA (λ_ h=>h.1.1.1) .h4 wW<|Qy<|QD<|QU ?_
 exact QM (_) rfl (.J5 (c:=[_,_,_,_]) I Jn .here .nil) rfl λF h9=>(by rw[Kn];exact⟨h9.2.1,h9.2.2⟩)
def ID{r s:Rat}(h:(r.den:Int)=1)(k:(s.den:Int)=1):r+s=((r.num+s.num:Int):Rat):=by
 have h1:r.den=1:=O;have k1:s.den=1:=O;rw[iQ,h1,k1];apply Rat.ext
 ·rw[Rat.num_mkRat,fp];simp
 rw[Rat.den_mkRat,fq];simp
theorem gv{x y:Fr}{r s:Rat}(hF:Fits F w)(h:XV F x r)(h':XV F y s)(hr:Zv r<=100000000)(hs:Zv s<=100000000):YA prog 129 [x.v,y.v] w F (r+s):=by
 refine QS.go (G:=λF=>XV F x r/\XV F y s) func129 hF ⟨h,h'⟩ ?_;refine QLF<|Q9 I (vs:=[_,_,_,_]) I λb2=>Q9 I (vs:=[_,_,_,_]) I λb3=>Qk VA λb4=>QJl<|QG ?_
 refine G4 10 (.bool (decide ((r.den:Int)=1)&&decide ((s.den:Int)=1))) ?_ ?_
 ·refine QB<|QA (wJ I Jn .u2)<|QL I (λw F hF ⟨⟨hn,hd⟩,⟨kn,kd⟩⟩=>NY hF ⟨by assumption,by assumption⟩) λ_=>QJm I ?_
  refine Qa (t:=7) rfl (λhb7=>?_) λhb7=>?_
  ·refine QK I I<|QA (wJ I Jn .u1)<|QK I I<|QL I (λw F hF ⟨⟨⟨hn,hd⟩,⟨kn,kd⟩⟩,_⟩=>NY hF ⟨by assumption,by assumption⟩) λ_=>wB 2 I ?_
   exact XZ (exd 7 rfl rfl) (by show some (ak _)=some (ak _);rw[hb7];rfl) QKK λ_ h=>h.1.1
  refine wB 4 I ?_;exact XZ (exd 7 rfl rfl) (by show some (ak false)=some (ak _);rw[hb7];rfl) QKK w8
 refine QO I (λhc=>?_) λhc=>?_
 ·refine QLF<|QA (QH I KN Qf)<|QA (wH I Qf .u2)<|QA (QH I KN Qf)<|QA (wH I Qf .u1)<|QL I (λ_ _ f k=>Aj f k.1.1 k.2.1 (ae (JZ r) O) (ae (JZ s) O)) λg15=>QL I (λw F hF ⟨⟨⟨hn,hd⟩,⟨kn,kd⟩⟩,h15⟩=>N7 hF (by assumption)) λx16=>QV (vs:=[_,_,_,_]) I I I Jn I .here .h4 wW<|QJl<|QU ?_
  exact QM (_) rfl (.J5 (c:=[_,_,_,_]) I Jn .here .nil) rfl λF h9=>(by have hc2:(r.den:Int)=1/\(s.den:Int)=1:=(by simpa using hc);have e:(r+s:Rat)=((r.num+s.num:Int):Rat):=ID hc2.1 hc2.2;rw[e];exact⟨h9.2.1,h9.2.2⟩)
 refine QMX 3 I<|JE (.cons _ tA) mixed wj<|QJ (QH I KN Qf)<|QJ (wH I Qf .u1)<|QJ (QH I Yk Qf)<|QJ (Qh (vs:=[_,_]) I Qf .here (.skip (.skip .h2)) I)<|QZ I (λ_ _ f k=>GY f k.1.1 k.2.2 (ae (JZ r) O) (ae (JQ s) O)) λg21=>QJ (QH I KN Qf)<|QJ (wH I Qf .here)<|QJ (QH I Yk Qf)<|QJ (Qh (vs:=[_,_]) I Qf .u1 (.skip (.skip .h2)) I)<|QZ I (λ_ _ f k=>GY f k.1.2.1 k.1.1.2 (ae (JZ s) O) (ae (JQ r) O)) λg26=>QZ I (λ_ _ f k=>Aj f k.1.2 k.2 (ae (XD (JZ r) (JQ s)) O) (ae (XD (JZ s) (JQ r)) O)) λg27=>QJ (QH I Yk Qf)<|QJ (Qh (vs:=[_,_]) I Qf .u1 (.skip (.skip .h2)) I)<|QJ (QH I Yk Qf)<|QJ (Qh (vs:=[_,_]) I Qf .here (.skip (.skip .h2)) I)<|QZ I (λ_ _ f k=>GY f k.1.1.1.1.2 k.1.1.1.2.2 (ae (JQ r) O) (ae (JQ s) O)) λg32=>QZ I (λ_ _ f k=>Oy f k.1.2 k.2 (eP (X0 r) (X0 s)) (ae (M6 (XD (JZ r) (JQ s)) (XD (JZ s) (JQ r))) O) (ae (XD (JQ r) (JQ s)) O)) λx33=>Jx (vs:=[_,_,_,_]) I I I Jn I .here tA (λ_ h=>h.1.1.1.1.1) .h4 wW<|Qy<|QD<|QU ?_
 exact QM (_) rfl (.J5 (c:=[_,_,_,_]) I Jn .here .nil) rfl λF h9=>(by rw[Kv];exact⟨h9.2.1,h9.2.2⟩)
def Dt(r s:Rat):Int:=if r<s then -1 else if r=s then 0 else 1
def xS(r s:Rat):YY (r.num*s.den) (s.num*r.den)=Dt r s:=by
 unfold Dt;rcases eZ (r.num*s.den) (s.num*r.den)with h | h | h
 ·rw[VM h,if_pos ((ib r s).2 h)]
 ·rw[h,Du,if_neg (by rw[ib];omega),if_pos (Rat.eq_iff_mul_eq_mul.2 h)]
 rw[GD h,if_neg (by rw[ib];omega),if_neg (by rw[Rat.eq_iff_mul_eq_mul];omega)]
theorem xF{x y:Fr}{r s:Rat}(hF:Fits F w)(h:XV F x r)(h':XV F y s)(hr:Zv r<=100000000)(hs:Zv s<=100000000):Qi prog 79 [x.v,y.v] w F (.int .i64 (Dt r s)):=by
 rw[<-xS];refine QS.go (G:=λF=>XV F x r/\XV F y s) func79 hF ⟨h,h'⟩ ?_;refine QLF<|Q9 I (vs:=[_,_,_,_]) I λb2=>Q9 I (vs:=[_,_,_,_]) I λb3=>wR I<|QG<|JE QKK mixed wj<|QJ (QH I KN Qf)<|QJ (wH I Qf .u1)<|QJ (QH I Yk Qf)<|QJ (Qh (vs:=[_,_]) I Qf .here (.skip (.skip .h2)) I)<|QZ I (λ_ _ f k=>GY f k.1.1 k.2.2 (ae (JZ r) O) (ae (JQ s) O)) λg9=>QJ (QH I KN Qf)<|QJ (wH I Qf .here)<|QJ (QH I Yk Qf)<|QJ (Qh (vs:=[_,_]) I Qf .u1 (.skip (.skip .h2)) I)<|QZ I (λ_ _ f k=>GY f k.1.2.1 k.1.1.2 (ae (JZ s) O) (ae (JQ r) O)) λg14=>QZ I (λw F hF ⟨⟨⟨⟨hn,hd⟩,⟨kn,kd⟩⟩,h9⟩,h14⟩=>QCP hF h9 h14 (ae (XD (JZ r) (JQ s)) O) (ae (XD (JZ s) (JQ r)) O)) λ_=>QJ (QE I)<|Qy<|QD<|QU ?_
 exact QMn I I I wz
theorem YP.kind{s:Int}{n:Nat}(h:YP w s q n cap z):(q.isNone=true/\s=z/\-9223372036854775808<=z/\z<=9223372036854775807)\/(q.isNone=false/\¬(-9223372036854775808<=z/\z<=9223372036854775807/\z≠-9223372036854775808)):=by
 rcases h with ⟨rfl,_,_,h1,h2,h3⟩ | ⟨b,off,l,rfl,_,_,_,_,_,_,_,hs,hz,hd⟩
 ·exact .inl ⟨rfl,h1,h2,h3⟩
 refine .inr ⟨rfl,?_⟩;rcases hs with rfl | rfl<;>omega
theorem jJ{a:Int}(hF:Fits F w)(h:Jk F g a):QS prog 111 [g.v] w F (λ(c:Int×Bool)=>.tuple #[.int .i64 c.1,.bool c.2])
  (λc _=>(c.2=true/\c.1=a/\-9223372036854775808<=a/\a<=9223372036854775807)\/(c.2=false/\¬(-9223372036854775808<=a/\a<=9223372036854775807/\a≠-9223372036854775808))):=by
 have hk:=YP.kind (h w hF.r);refine QS.go (G:=λF=>Jk F g a) func111 hF h ?_;refine QLF<|Q9 I (vs:=[_,_]) I λb1=>QMW 5 I<|JE QKK mixed wj<|QJ (QH I Dq QY)<|QJ (Qp I QY .here .h1)<|QJ (QH I Hu VQ)<|QJ (Qp I VQ .here (.skip .h1))<|QJ (Wk I I Ed)<|QJ (QE I)<|QJ (QE I)<|Qy<|QD<|QU ?_
 exact X4 ((g.s,g.q.isNone)) I (wP I I) rfl λF _=>hk
def Ha{l:List UInt8}(h:J7 l=true):sz (Q4 l:Int)<=4*l.length:=by
 rw[XK,Int.natAbs_natCast,Nat.pow_mul];exact bF (KF h) (fY wk _)
def QBd(n:Nat):(if(n:Int)<18 then(n:Int)else 18)=((min 18 n:Nat):Int):=by split<;>omega
def Tn{l:List UInt8}{n:Nat}:Q4 (l.take (k+n))=Q4 (l.take k)*10^((l.drop k).take n).length+Q4 ((l.drop k).take n):=by
 rw[<-Zc,List.take_add]
def RT(k:Nat):sz ((10:Int)^k)<=4*k+1:=by have:=RU 10 k;rw[show sz 10=4 by decide]at this;omega
structure kQ(n:Nat) where
 k:Nat
 g:Bg
 le:k<=n
theorem Em(hF:Fits F w)(hs:J7 (af s [45])=true)(hl:s.length<=10000000):X3 prog 148 [tx s] w F (Zq s):=by
 have hll:(af s [45]).length<=s.length:=by unfold af;split<;>simp
 have hval:Zq s=if aB s [45]then -(Q4 (af s [45]):Int)else(Q4 (af s [45]):Int):=by
  unfold Zq af;split<;>simp_all
 rw[hval];refine QS.intro (G:=λ_=>True) func148 rfl wu rfl rfl hF wz<|QLF<|Qk YU λb2=>QJl<|wS rfl<|QL rfl (λ_ _ f _=>SX f ) λ_=>wR rfl<|wS rfl<|QL rfl (λ_ _ f k=>N8 f ) λ_=>wR rfl<|QLF<|QA (ZT rfl vp YU .nil)<|Qk YU λb4=>QV (vs:=[_,_]) rfl rfl rfl Qf rfl .here .h2 wU<|QMW 4 I ?_
 generalize af s [45]=l at *
 refine Xr (ι:=kQ l.length) (λi=>[(0,tx (l.drop i.k)),(2,.pointer (some ⟨b2,0,none⟩)),(4,.pointer (some ⟨b4,0,none⟩)),(3,.bool (aB s [45]))]) (λi=>[(b4,.cells #[.int .i64 i.g.s,.slice i.g.q i.g.n i.g.cap] 114 (0,0)),(b2,.cells #[.int .i64 0,.slice none 0 0] 114 (0,0))]) (λi F=>Jk F i.g (Q4 (l.take i.k))) (λi=>l.length-i.k)
  ⟨0,⟨0,none,0,0⟩,aM _⟩ wW QKK (λF _=>Jk.small F wk wk) λi=>?_
 refine wA 4 I<|QA (Ji I J6)<|QMW 3 I ?_
 refine QO I (λhc=>?_) λhc=>?_
 ·refine QMX 6 I<|QA (Ji I J6)<|QA (QA1 I I) ?_
  rw[QBd];have hk0:i.k<l.length:=by simp at hc;omega
  have hpl:((l.drop i.k).take (min 18 (l.drop i.k).length)).length=min 18 (l.drop i.k).length:=wv;have hpa:J7 ((l.drop i.k).take (min 18 (l.drop i.k).length))=true:=GF (BS hs _) _;have hp18:=KF hpa;have hpz:(10:Nat)^((l.drop i.k).take (min 18 (l.drop i.k).length)).length<=10^18:=bw wk O;have hm0:0<min 18 (l.drop i.k).length:=wy;have hsk:sz (Q4 (l.take i.k):Int)<=40000000:=ae (Ha (GF hs _)) wy;refine wR rfl<|wS rfl<|QJm rfl<|QA (VG (min 18 (l.drop i.k).length) rfl rfl J6 rfl O)<|QL rfl (λ_ _ f k=>dN f O (IB hpa (by intro e;rw[e]at hpl;simp at hpl;omega))) λ_=>QMW 8 I<|Je 8 QKK mixed wj wj ?_
  simp only[aY,bK,aZ,aK];refine QJ (wH I Qf .here)<|QZ I (λ_ _ f k=>FW f O O) λg27=>QJ (QC I)<|QZ I (λ_ _ f k=>QA5 f k.2 O O (by rw[bN,show sz 10=4 by decide];omega)) λg29=>QZ I (λ_ _ f k=>GY f k.1.1.1 k.2 O (by rw[bN];exact ae (RT _) O)) λg30=>QJ (QC I)<|QZ I (λ_ _ f k=>FW f O O) λg32=>QZ I (λ_ _ f k=>Aj f k.1.2 k.2 (ae (XD hsk (RT _)) (by rw[bN];omega)) (ae (Ha hpa) O)) λg33=>X7<|QV (vs:=[_,_]) I I I Qf I .here .h2 wU<|QMW 5 I<|QA (ZQ (min 18 (l.drop i.k).length) rfl rfl J6 I O)<|wB 2 I<|Qg ?_
  refine Qj (⟨i.k+min 18 (l.drop i.k).length,g33,wy⟩:kQ l.length) wy ⟨(by show some (tx _)=some (tx _);simp),rfl,rfl,rfl,trivial⟩ QKK (λF ⟨_,h33⟩=>by
   show Jk F g33 (Q4 (l.take (i.k+min 18 (l.drop i.k).length)):Int);rw[Tn];rw[bN]at h33;have e:((l.drop i.k).take (min 18 (l.drop i.k).length)).length=min 18 (l.drop i.k).length:=wv;rw[e,Int.natCast_add,fu,Int.natCast_pow];exact h33)
 refine JK ?_;refine wA 6 I ?_;have hdone:l.take i.k=l:=ah (by have:=i.le;simp at hc;omega);clear hc;refine QO I (λhc=>?_) λhc=>?_
 ·refine QLF<|QA (wH I Qf .here)<|QL I (λ_ _ f k=>R8 f k) λg39=>QV (vs:=[_,_]) I I I Qf I .u1 .h2 wU<|QJl<|QU ?_
  exact QM (_) rfl (.J5 (c:=[_,_]) I Qf .u1 .nil) rfl λF ⟨hO,h39⟩=>(by rw[hdone]at h39;rw[if_pos hc];exact h39)
 refine QMX 4 I<|QA (wH I Qf .here)<|QV (vs:=[_,_]) I I I Qf I .u1 .h2 wU<|QJl<|QU ?_
 exact QM (_) rfl (.J5 (c:=[_,_]) I Qf .u1 .nil) rfl λF hO=>(by rw[hdone]at hO;rw[if_neg (by simp[hc])];exact hO)
section
variable[Dr][df:Df]{P:Program}{Q:Exit->Act->World->Prop}{N:Nat}{m:Sl}{E E0:Env}{ops:Array Oper}{l:List Oper}{w0:World}{F0:Gs}{bs:List (Nat×Obj)}{G:Gs->Prop}
theorem St.Ce(h:St ⟨w0,F0,bs,G⟩ w)(c:Array Value)(T:TypeId):St ⟨w0,F0,bs,λF=>G F/\F w.heap.size=some (c,T)⟩ (w.alloc (.cells c T)):=by
 obtain⟨F,h⟩:=h;have hnone:=h.fits.none (ax _);have hle:Gs.le F (λi=>if i=w.heap.size then some (c,T)else F i):=λi x hx=>by
  grind
 have hnew:(w.alloc (.cells c T)).heap[w.heap.size]?=some (.cells c T):=by show(w.heap.push _)[_]?=_;simp
 refine⟨_,Gs.le_trans h.le hle,λb hb=>?_,⟨λb c' T' hb=>?_,λb c' fr hb=>?_⟩,h.ext.alloc _,λk hk=>?_,h.nd,λF' hF'=>⟨h.g F' (Gs.le_trans hle hF'),hF' _ _ (if_pos rfl)⟩⟩
 ·have hb2:=bF hb h.ext.size;rw[if_neg O];exact h.old b hb
 ·by_cases e:b=w.heap.size
  ·simp_all
  rw[if_neg e]at hb;obtain⟨fr,e2⟩:=h.fits.row b c' T' hb
  grind[fe]
 ·by_cases e:b=w.heap.size
  ·simp_all
  rw[if_neg e];have hlt:b<w.heap.size:=by
   rcases aW b _ with g | g
   ·exact g
   have:(w.heap.push _)[b]?=some _:=hb
   grind
  rw[fe _ _ _ hlt]at hb;exact h.fits.all b c' fr hb
 obtain⟨h1,h2,h3⟩:=h.bx k hk;exact⟨by grind[fe],h2,by grind⟩
section
variable{d:Nat}{ty:TypeId}{pos:String}{aft:Array Edge}
theorem JG{t:TypeId}{n sz:Nat}{z:List Value}{g:Bool}{parts:Array _}{ps:List _}(hp:V5 m parts.toList=some ps)(ht:P.underlying t=some (.slice e))(hs:ZZ P e=some (g,sz))(hz:Jw P e=some z)
  (hc:Yr sz 0 ps=some cs) (hl:cs.length=n*sz) (k:∀b,JS P ops Q l N ((d,.slice (some ⟨b,0,none⟩) n n)::m) ⟨w0,F0,bs,λF=>G F/\F b=some (cs.toArray,e)⟩) (h24:iT (n*sz) 16777216=true:=by rfl) (hn:Nat.beq (n*sz) 0=false:=by rfl)
  (hd:J1 N (some d)=true:=by rfl):JS P ops Q (⟨some d,.buildSlice t n parts,ty,pos,aft,none⟩::l) N m ⟨w0,F0,bs,G⟩:=λa w ha hw =>
 wpList_plain rfl λ_ hK=>upon_value (Ve ha hp ht hs hz hc hl h24 hn) (hK _ _ (k _ _ _ (ha.put hd _) (hw.Ce _ _)))
theorem Yi{t:TypeId}{sz bytes n:Nat}{z:List Value}{g:Bool}{X Y:Operand}{x y:Value}{olds news:List Value}{ob bs1:List _}(hx:ev m X=some x)(hy:ev m Y=some y)(ht:GI P t=some e)(hs:ZZ P e=some (g,sz))(hz:Jw P e=some z)(hzl:z.length=sz)(hby:Zf P e=some bytes)
  (hr:Q6 e sz x n olds ob) (hs2:Src ⟨w0,F0,bs1++ob,G⟩ sz y k news) (h63:n+k<=9223372036854775807) (h47:(n+k)*bytes<=140737488355328) (h1:∀v∈news,v.oneCell'=true)
  (kk:∀v' ob',Q6 e sz v' (n+k) (olds++news) ob'->JS P ops Q l N ((d,v')::m) ⟨w0,F0,bs1++ob',G⟩) (hu:GX e=true:=by rfl) (hd:J1 N (some d)=true:=by rfl) :
  JS P ops Q (⟨some d,.call ⟨.builtin .append,#[X,Y],#[t,t]⟩,ty,pos,aft,none⟩::l) N m ⟨w0,F0,bs1++ob,G⟩ :=
 KZ eO (EP hx hy ht hs hz hzl hby hr ⟨hs2.len,hs2.rd.imp id λ⟨a,c,e1,e2⟩=>⟨a,c,e1,λw hw=>e2 w (hw.perm eO)⟩⟩ h63 h47 h1
  (λv' ob' h=>KZ eO (kk v' ob' h)) hu hd)
end
theorem Own.skip{l:List _}{b:Nat}{o:Obj}{f:Obj->List _}(h:Own l b o f):∀p:List _,Own (p++l) b o (λo'=>p++f o')
 |[]=>h
 |_::p=>.there (h.skip p)
end
def hd(q:Nat):List UInt8:=if q=0 then[]else aj q
def Xu(c:UInt8)(s:List UInt8):List UInt8×List UInt8×Bool:=if s.contains c then(s.takeWhile (· != c),(s.dropWhile (· != c)).drop 1,true)else(s,[],false)
theorem Ph(c:UInt8)(s:List UInt8):iO s c=if s.contains c then((s.takeWhile (· != c)).length:Int)else -1:=by
 induction s with
 |nil=>rfl
 |cons b s ih =>
  unfold iO;by_cases h:b=c
  ·simp_all
  have h3:=beq_eq_false_iff_ne.2 (λe=>h e.symm);simp_all
theorem Yj(p:UInt8->Bool)(s:List UInt8):s.take (s.takeWhile p).length=s.takeWhile p/\s.drop (s.takeWhile p).length=s.dropWhile p:=by
 induction s with
 |nil=>simp
 |cons b s ih =>
  grind[eT,fV]
theorem CU(c:UInt8)(s:List UInt8):fz s [c]=Xu c s:=by
 have h:Lib.index s [c]=if s.contains c then((s.takeWhile (· != c)).length:Int)else -1:=by
  simp[Ph,Lib.index_one]
 unfold fz Xu;rw[h];by_cases h4:s.contains c=true
 ·simp only[h4,if_true];rw[if_pos O,bN,(Yj _ s).1];have:=(Yj (· != c) s).2;rw[<-aF,this];rfl
 simp_all
theorem Ss{b:List UInt8}(h:a.contains c=false):Xu c (a++c::b)=(a,b,true):=by
 have h1:∀x∈a,(x != c)=true:=λx hx=>by
  grind
 unfold Xu;simp_all
theorem Nj(h:a.contains c=false):Xu c a=(a,[],false):=by
 grind[Xu]
theorem xh{l:List UInt8}(h:J7 l=true)(hc:RI c=false):l.contains c=false:=by
 cases hx:l.contains c with
 |false=>rfl
 |true =>
  grind[J7,fi]
theorem PU(z:Int)(hc:RI c=false)(h:c≠45):(Xm z).contains c=false:=by
 grind[Zr,xh,JF,Jd]
def CT(r:Rat):fz (Q8 r) [47]=if r.den=1 then(Xm r.num,[],false)else(Xm r.num,aj r.den,true):=by
 rw[CU];unfold Q8;split
 ·exact Nj (PU _ wk wk)
 exact Ss (PU _ wk wk)
theorem BE(z:Int):af (Xm z) [45]=aj z.natAbs:=by
 unfold af
 grind[Zr,aB,bY,Jd,Yd,JF]
theorem Z1{l:List UInt8}(h:J7 l=true):af l [45]=l:=by
 grind[af,Yd]
theorem Xn{l:List UInt8}(h:J7 l=true):Zq l=Q4 l:=by
 grind[Zq,Yd]
def lim:Nat:=10^600
def SE(z:Int):Bool:=decide (lim<=z.natAbs)
def Ez(r:Rat):Bool:=SE r.num||SE r.den
def Og(n:Nat):Xm (n:Int)=aj n:=by rw[Jd O];rfl
theorem Pm{r:Rat}(hF:Fits F w)(hG:Ka F)(hs:s=Q8 r)(hl:s.length<=10000000):YA prog 75 [tx s] w F r:=by
 have hcut:=CT r;rw[<-hs]at hcut;refine QS.go (G:=λF=>Ka F) func75 hF hG ?_;refine QLF<|Qk VA λb2=>QMW 5 I<|QL I (λ_ _ f k=>y9 f k O) λ_=>?_
 rw[hcut];refine QMW 13 I<|QA (Xv I)<|QF<|QD ?_
 refine QO I (λhc=>?_) λhc=>?_
 ·refine wS I<|QL I (λ_ _ f k=>Em f (by have h1:r.den=1:=(by by_cases h:r.den=1;exact h;rw[if_neg h]at hc;cases hc);rw[if_pos h1,BE];exact JF _) (by have h1:r.den=1:=(by by_cases h:r.den=1;exact h;rw[if_neg h]at hc;cases hc);rw[if_pos h1];have e:s=Xm r.num:=(by rw[hs];unfold Q8;rw[if_pos h1]);rw[<-e];exact hl)) λg15=>QL I (λ_ _ f k=>N7 f k.2) λx16=>QV (vs:=[_,_,_,_]) I I I Jn I .here .h4 wW<|QJl<|QU ?_
  exact QM (_) rfl (.J5 (c:=[_,_,_,_]) I Jn .here .nil) rfl λF ⟨⟨⟨hGl,_⟩,h15⟩,⟨h16,h16_⟩⟩=>(by have h1:r.den=1:=(by by_cases h:r.den=1;exact h;rw[if_neg h]at hc;cases hc);have e:((r.num:Int):Rat)=r:=(by apply Rat.ext;rfl;simp[h1]);rw[if_pos h1]at h16 h16_;rw[Zb]at h16 h16_;rw[e]at h16 h16_;exact⟨h16,h16_⟩)
 refine QN<|QD<|wS rfl<|QL rfl (λw F hF ⟨hGl,_⟩=>Em hF (by have h1:¬r.den=1:=(by intro h;rw[if_pos h]at hc;cases hc);rw[if_neg h1,BE];exact JF _) (by have h1:¬r.den=1:=(by intro h;rw[if_pos h]at hc;cases hc);rw[if_neg h1];have e:s=Xm r.num++47::aj r.den:=(by rw[hs];unfold Q8;rw[if_neg h1]);rw[e,ep]at hl;show(Xm r.num).length<=_;omega)) λg18=>QJm rfl<|QL rfl (λw F hF ⟨⟨hGl,_⟩,h18⟩=>Em hF (by have h1:¬r.den=1:=(by intro h;rw[if_pos h]at hc;cases hc);rw[if_neg h1];show J7 (af (aj r.den) [45])=true;rw[Z1 (JF _)];exact JF _) (by have h1:¬r.den=1:=(by intro h;rw[if_pos h]at hc;cases hc);rw[if_neg h1];have e:s=Xm r.num++47::aj r.den:=(by rw[hs];unfold Q8;rw[if_neg h1]);rw[e,ep,aQ]at hl;show(aj r.den).length<=_;omega)) λg20=>QA (ZT I PQ VA (.cons (vs:=[_,_]) I I I .h2 (.cons (vs:=[_,_]) I I I (.skip (.skip .h2)) .nil)))<|QV (vs:=[_,_,_,_]) I I I Jn I .here .h4 wW<|QJl<|QU ?_
 exact QM (⟨g18,g20⟩:Fr) rfl (.J5 (c:=[_,_,_,_]) rfl Jn .here .nil) rfl λF ⟨⟨⟨hGl,_⟩,h18⟩,h20⟩=>(by have h1:¬r.den=1:=(by intro h;rw[if_pos h]at hc;cases hc);rw[if_neg h1]at h18 h20;rw[Zb]at h18;have e:Zq (aj r.den)=(r.den:Int):=(by rw[Xn (JF _),Jq]);exact⟨h18,e ▸ h20⟩)
def JC(F:Gs)(q:Option Addr)(n sz:Nat)(cs:List Value):Prop :=
 cs.length=n*sz/\(0<n->∃b off arr T,q=some ⟨b,off,none⟩/\F b=some (arr,T)/\∀j u,cs[j]?=some u->arr[off+j]?=some u)
theorem JC.le{n sz:Nat}(h:JC F q n sz cs)(k:Gs.le F F'):JC F' q n sz cs :=
 ⟨h.1,λhn=>by obtain⟨b,off,arr,T,e1,e2,e3⟩:=h.2 hn;exact⟨b,off,arr,T,e1,k _ _ e2,e3⟩⟩
instance{q:Option Addr}{n sz:Nat}{cs:List Value}: Up (λF=>JC F q n sz cs):=⟨λk h=>JC.le h k⟩
theorem JC.of{b n sz:Nat}(h:F b=some (cs.toArray,T))(hl:cs.length=n*sz):JC F (some ⟨b,0,none⟩) n sz cs :=
 ⟨hl,λ_=>⟨b,0,_,T,rfl,h,λj u hu=>by simp_all⟩⟩
def JC.nil(F:Gs)(q:Option Addr)(sz:Nat):JC F q 0 sz []:=⟨wv,λh=>absurd h (iL 0)⟩
theorem JC.ptr{n sz:Nat}(h:JC F q n sz cs)(hn:0<n):∃b off,q=some ⟨b,off,none⟩:=by
 obtain⟨b,off,_,_,e,_⟩:=h.2 hn;simp_all
section
variable[Dr][df:Df]{P:Program}{Q:Exit->Act->World->Prop}{N:Nat}{m:Sl}{E E0:Env}{ops:Array Oper}{l:List Oper}{w0:World}{F0:Gs}{bs:List (Nat×Obj)}{G:Gs->Prop}
theorem Yl(hw:St ⟨w0,F0,bs,G⟩ w){b off n sz j:Nat}{cs:List Value}{u:Value}(hr:∀F,G F->JC F (some ⟨b,off,none⟩) n sz cs)(hn:0<n)(hu:cs[j]?=some u):w.cell? ⟨b,off+j,none⟩=some u:=by
 obtain⟨F,hw⟩:=hw;obtain⟨b',off',arr,T,e,hF,ha⟩:=(hr F hw.hG).2 hn;obtain⟨rfl,rfl,_⟩:=e;obtain⟨fr,e⟩:=hw.fits.row _ _ _ hF;simp[fj,e,ha j u hu]
theorem XS{b off n sz j:Nat}{u:Value}(hx:ev m x=some (.pointer (some ⟨b,off+j,none⟩)))(ht:ZZ P T=some (false,k))(hr:∀F,G F->JC F (some ⟨b,off,none⟩) n sz cs)(hn:0<n)(hu:cs[j]?=some u):
  Qt P N m (St ⟨w0,F0,bs,G⟩) (.load T x) ty u:=λa w _ _ _ _ ha hw=>by
 have hrun:=YG ht (Yl hw hr hn hu);simp[execOp,ha.ev hx,iK,iC,fQ,fP,eX,hrun]
theorem FP{b off n sz j:Nat}(hx:ev m x=some (.pointer (some ⟨b,off+j,none⟩)))(ht:ZZ P T=some (true,k))(hr:∀F,G F->JC F (some ⟨b,off,none⟩) n sz cs)(hn:0<n)(hl:vs.length=k)(hu:∀i v,vs[i]?=some v->cs[j+i]?=some v):
  Qt P N m (St ⟨w0,F0,bs,G⟩) (.load T x) ty (.agg vs.toArray):=λa w _ _ _ _ ha hw=>by
 have hrun:=KI ht hl (λi v hv=>by rw[bj];exact Yl hw hr hn (hu i v hv));simp[execOp,ha.ev hx,iK,iC,fQ,fP,eX,hrun]
theorem XU{d:Nat}{pos:String}{aft:Array Edge}{bs0:List _}{G0:Gs->Prop}{t:TypeId}{n sz:Nat}{z:List Value}{g:Bool}{parts:Array _}{ps:List _}(hp:V5 m parts.toList=some ps)(ht:P.underlying t=some (.slice e))(hs:ZZ P e=some (g,sz))(hz:Jw P e=some z)
  (hc:Yr sz 0 ps=some cs) (hl:cs.length=n*sz) (k:∀b,JD P ops Q ⟨w0,F0,bs0,G0⟩ l N ((d,.slice (some ⟨b,0,none⟩) n n)::m) ⟨w0,F0,bs,λF=>G F/\F b=some (cs.toArray,e)⟩) (hE:∀w,St ⟨w0,F0,bs,G⟩ w->St ⟨w0,F0,bs0,G0⟩ w) (h24:iT (n*sz) 16777216=true:=by rfl) (hn:Nat.beq (n*sz) 0=false:=by rfl)
  (hd:J1 N (some d)=true:=by rfl):JD P ops Q ⟨w0,F0,bs0,G0⟩ (⟨some d,.buildSlice t n parts,ty,pos,aft,none⟩::l) N m ⟨w0,F0,bs,G⟩:=λ_ a w ha hw=>by
 have hS:=hw.Ce cs.toArray e;have sub:∀w' b,St ⟨w0,F0,bs,λF=>G F/\F b=some (cs.toArray,e)⟩ w'->St ⟨w0,F0,bs0,G0⟩ w':=λw' b h=>hE w' (h.TO λ_ h=>h.1);refine .inr ⟨rfl,?_⟩;exact upon_value (Ve ha hp ht hs hz hc hl h24 hn) ⟨sub _ _ hS,k _ (λw' h=>sub w' _ h) _ _ (ha.put hd _) hS⟩
end
section
variable[Dr][df:Df]{P:Program}{Q:Exit->Act->World->Prop}{N:Nat}{m:Sl}{E E0:Env}{ops:Array Oper}{l:List Oper}{ty:TypeId}{pos:String}{aft:Array Edge}{o:Op}{g t:Nat}{want:Bool}
theorem Ma{a:Act}(ha:JY N m a){g t:Nat}(hg:(ops[g]?).bind (·.dst)=some t)(hb:look m t=some undef):yielded ops a.tmps g=none:=by
 unfold yielded;have:=ha.get t _ hb
 grind[undef]
theorem Qz{d:Nat}(hg:(ops[g]?).bind (·.dst)=some t)(hb:look m t=some undef)(hf:JS P ops Q l N ((d,undef)::m) E)(hd:J1 N (some d)=true:=by rfl):JS P ops Q (⟨some d,o,ty,pos,aft,some (g,want)⟩::l) N m E:=by
 intro a w ha hw;unfold wpList;have hy:=Ma ha hg hb;rw[if_neg (by grind[iB])];exact hf _ w (ha.put hd undef) hw
end
def JB:List Int->Int
 |[]=>0
 |x::l=>if x=0 then JB l else x
def Sc{l:List Int}(hi:i<l.length)(h:l[i]=0):JB (l.drop i)=JB (l.drop (i+1)):=by
 rw[aC hi,JB,if_pos h]
def UN{l:List Int}(hi:i<l.length)(h:l[i]≠0):JB (l.drop i)=l[i]:=by
 rw[aC hi,JB,if_neg h]
def Qs(x:Int):Value:=.int .i64 x
structure S4(n:Nat)(p:Nat->Prop) where
 i:Nat
 le:i<=n
 h:p i
def Lt(hi:i<s.length)(h:J7 (s.take i)=true)(hd:RI s[i]=true):J7 (s.take (i+1))=true:=by
 rw[aD hi,Yu,h];simp[J7,hd]
def Di(hi:i<s.length)(hd:RI s[i]=false):J7 s=false:=by
 cases h:J7 s with
 |false=>rfl
 |true=>rw[J7,fi]at h;rw[h _ (fh hi)]at hd;cases hd
def Bz(s:List UInt8):Bool:=J7 s&&!s.isEmpty
theorem CQ(hF:Fits F w)(hl:s.length<=1000000000):Qi prog 234 [tx s] w F (.bool (Bz s)):=by
 refine QS.intro (G:=λ_=>True) func234 rfl wu rfl rfl hF wz<|QLF<|wR rfl<|QG<|wS rfl<|QA (Ji rfl J6)<|QJm rfl<|QJl<|QQ<|Xr (ι:=S4 s.length λi=>J7 (s.take i)=true) (λi=>[(0,tx s),(5,.int .i64 s.length),(6,.int .i64 i.i)]) (λ_=>[]) (λ_ _=>True) (λi=>s.length-i.i) ⟨0,aM _,rfl⟩ wV QKK w7 λi=>?_
 have hle:=i.le;refine wA 6 I ?_;refine QO I (λhc=>?_) λhc=>?_
 ·have hi:i.i<s.length:=by simp at hc;omega
  refine QMX 14 I<|QA (Yc I I J6 (hi))<|wB 2 I ?_
  refine Qa (t:=13) rfl (λhb13=>?_) λhb13=>?_
  ·refine QMW 7 I ?_;refine QO I (λhc=>?_) λhc=>?_
   ·refine wA 5 I<|ZS ?_
    exact QM () I (wO I) (congrArg ak (by unfold Bz;rw[Di hi (by have h1:=QLr hb13;cases hd:RI s[i.i]with | false=>rfl | true=>(have:=Zd.1 hd;omega))];rfl)) wz
   refine QN<|Qg<|QD<|QB<|QA (Qn I I O)<|wB 2 I ?_
   cases hc
  refine wB 5 I<|QA (Yc I I J6 (hi))<|QMW 5 I ?_
  refine QO I (λhc=>?_) λhc=>?_
  ·refine wA 5 I<|ZS ?_
   exact QM () I (wO I) (congrArg ak (by unfold Bz;rw[Di hi (by have h1:=QLr hc;cases hd:RI s[i.i]with | false=>rfl | true=>(have:=Zd.1 hd;omega))];rfl)) wz
  refine QN<|Qg<|QD<|QB<|QA (Qn I I O)<|wB 2 I ?_
  exact Qj (⟨i.i+1,O,Lt hi i.h (Zd.2 (by have h1:=QLs hb13;have h2:=QLs hc;constructor<;>omega))⟩:S4 s.length λi=>J7 (s.take i)=true) (by show s.length-(i.i+1)<s.length-i.i;omega) wV QKK w7
 refine JK ?_;refine wS I<|QA (Rv I I)<|wR I<|QU ?_
 exact QM () I (wO I) (congrArg ak (by have h1:=i.h;rw[ah (by simp at hc;omega)]at h1;unfold Bz;rw[h1];cases s<;>rfl)) wz
theorem head_ne(h:0<s.length):((s[0].toNat:Int) != 48)=!(s.head?==some 48):=by
 cases s with
 |nil=>simp at h
 |cons c s =>
  simp only[fJ,List.head?_cons];by_cases e:c=48
  ·subst e;rfl
  have e1:c.toNat≠48:=λh=>e (ey (by rw[h];rfl));have e2:((c.toNat:Int) != 48)=true:=by simp only[bne_iff_ne,ne_eq];omega
  have e3:(some c==some 48)=false:=by simp[e]
  rw[e2,e3];rfl
def Sk(h:Bz s=true):0<s.length:=by
 cases s with
 |nil=>cases h
 |cons=>simp
theorem MD(hF:Fits F w)(hl:s.length<=1000000000):Qi prog 146 [tx s] w F (.bool (Jl s)):=by
 refine QS.intro (G:=λ_=>True) func146 rfl wu rfl rfl hF wz<|QLF<|wR rfl<|wS rfl<|QL rfl (λ_ _ f _=>CQ f hl) λ_=>QJm rfl ?_
 refine Qa (t:=5) rfl (λhb5=>?_) λhb5=>?_
 ·refine wB 3 I<|QA (Xc I I)<|wB 2 I ?_
  refine Qa (t:=8) rfl (λhb8=>?_) λhb8=>?_
  ·refine QMW 10 I ?_;exact QM () I (wO I) (congrArg ak (by have h:=hb5;unfold Bz at h;unfold Jl;rw[h,hb8];rfl)) wz
  refine wB 3 I<|QA (Yc (i:=0) rfl rfl J6 (Sk hb5))<|QMW 9 I ?_
  exact QM () I (wO I) (congrArg ak (by have h:=hb5;unfold Bz at h;unfold Jl;rw[h,hb8,head_ne (Sk hb5)];rfl)) wz
 refine wB 3 I<|Qz I I<|Qz I I<|Qz I I<|QMW 6 I ?_
 exact QM () I (wO I) (congrArg ak (by have h:=hb5;unfold Bz at h;unfold Jl;rw[h];rfl)) wz
def Uc(size d:List UInt8)(neg fr:Bool):Bool:=!Jl size||(neg&&size==[48])||(fr&&(!Jl d||d==[48]||d==[49]))
def Wx(n d:List UInt8)(fr:Bool):Int :=
 if Uc (af n [45]) d (aB n [45]) fr=true then 1
 else if(decide (600<(af n [45]).length)||decide (600<d.length))=true then 4
 else if(fr&&!(fM (Q4 (af n [45])) (Q4 d)==1))=true then 1 else 0
def JO(s:List UInt8):Int:=Wx (Xu 47 s).1 (Xu 47 s).2.1 (Xu 47 s).2.2
def CV(c:UInt8)(s:List UInt8):(Xu c s).1.length<=s.length/\(Xu c s).2.1.length<=s.length:=by
 have h:=Yj (· != c) s;have h1:=congrArg fS h.1;have h2:=congrArg fS h.2;simp at h1 h2;unfold Xu;split
 ·refine⟨?_,?_⟩
  ·show(s.takeWhile (· != c)).length<=_;exact(fI _).length_le
  show((s.dropWhile (· != c)).drop 1).length<=_;rw[List.length_drop];have:=(List.dropWhile_sublist (l:=s) (· != c)).length_le;omega
 exact⟨ax _,wv⟩
def Yb(h:Jl s=true):J7 s=true:=by
 simp only[Jl,aE]at h;exact h.1.1
def EZ(s p:List UInt8):(af s p).length<=s.length:=by unfold af;split<;>simp
theorem TG(hF:Fits F w)(hG:Ka F)(hl:s.length<=1000000):Qi prog 73 [tx s] w F (.int .i64 (JO s)):=by
 have hcl:=CV 47 s;unfold JO;refine QS.go (G:=λF=>Ka F) func73 hF hG ?_;refine wA 8 I<|QL I (λ_ _ f k=>y9 f k O) λ_=>?_
 rw[CU];generalize Xu 47 s=cp at hcl ⊢;obtain⟨n,d,fr⟩:=cp;dsimp only at hcl ⊢;have htl:=EZ n [45];refine QMW 12 I<|QL I (λ_ _ f k=>Sq f ) λ_=>QMW 8 I ?_
 refine G4 46 (.bool (Uc (af n [45]) d (aB n [45]) fr)) ?_ ?_
 ·refine wA 2 I<|QL I (λ_ _ f k=>MD f O) λ_=>QA (Xv I)<|QJm I ?_
  refine Qa (t:=24) rfl (λhb24=>?_) λhb24=>?_
  ·refine wB 2 I<|Qz I I<|Qz I I<|wB 5 I<|Qz I I<|Qz I I<|Qz I I<|Qz I I<|Qz I I<|Qz I I<|Qz I I<|Qz I I<|Qz I I<|Qz I I<|Qz I I<|wB 3 I ?_
   exact XZ (exd 27 rfl rfl) (congrArg (λb=>some (ak b)) (by rw[ar];simp_all [Uc])) QKK w8
  refine wB 4 I ?_;refine Qa (t:=26) rfl (λhb26=>?_) λhb26=>?_
  ·refine wB 3 I<|QA (Xc I I)<|wB 4 I ?_
   refine Qa (t:=31) rfl (λhb31=>?_) λhb31=>?_
   ·refine wB 2 I<|Qz I I<|Qz I I<|Qz I I<|Qz I I<|Qz I I<|Qz I I<|Qz I I<|Qz I I<|Qz I I<|Qz I I<|Qz I I<|wB 3 I ?_
    exact XZ (exd 29 rfl rfl) (congrArg (λb=>some (ak b)) (by rw[ar];simp_all [Uc])) QKK w8
   refine wB 4 I ?_;refine Qa (t:=33) rfl (λhb33=>?_) λhb33=>?_
   ·refine wB 3 I<|QL I (λ_ _ f k=>MD f O) λ_=>QK I I<|QA (Xv I)<|wB 2 I ?_
    refine Qa (t:=37) rfl (λhb37=>?_) λhb37=>?_
    ·refine wB 14 I ?_;exact XZ (exd 31 rfl rfl) (congrArg (λb=>some (ak b)) (by rw[ar];simp_all [Uc])) QKK λ_ h=>h.1.1
    refine wB 3 I<|QA (Xc I I)<|wB 4 I ?_
    refine Qa (t:=41) rfl (λhb41=>?_) λhb41=>?_
    ·refine wB 8 I ?_;exact XZ (exd 32 rfl rfl) (congrArg (λb=>some (ak b)) (by rw[ar];simp_all [Uc])) QKK λ_ h=>h.1.1
    refine wB 3 I<|QA (Xc I I)<|wB 6 I ?_
    exact XZ (exd 32 rfl rfl) (congrArg (λb=>some (ak b)) (by rw[ar];simp_all [Uc])) QKK λ_ h=>h.1.1
   refine wB 4 I<|Qz I I<|Qz I I<|wB 2 I<|Qz I I<|Qz I I<|wB 5 I ?_
   exact XZ (exd 30 rfl rfl) (congrArg (λb=>some (ak b)) (by rw[ar];simp_all [Uc])) QKK w8
  refine wB 10 I ?_;refine Qa (t:=33) rfl (λhb33=>?_) λhb33=>?_
  ·refine wB 3 I<|QL I (λ_ _ f k=>MD f O) λ_=>QK I I<|QA (Xv I)<|wB 2 I ?_
   refine Qa (t:=37) rfl (λhb37=>?_) λhb37=>?_
   ·refine wB 14 I ?_;exact XZ (exd 30 rfl rfl) (congrArg (λb=>some (ak b)) (by rw[ar];simp_all [Uc])) QKK λ_ h=>h.1.1
   refine wB 3 I<|QA (Xc I I)<|wB 4 I ?_
   refine Qa (t:=41) rfl (λhb41=>?_) λhb41=>?_
   ·refine wB 8 I ?_;exact XZ (exd 31 rfl rfl) (congrArg (λb=>some (ak b)) (by rw[ar];simp_all [Uc])) QKK λ_ h=>h.1.1
   refine wB 3 I<|QA (Xc I I)<|wB 6 I ?_
   exact XZ (exd 31 rfl rfl) (congrArg (λb=>some (ak b)) (by rw[ar];simp_all [Uc])) QKK λ_ h=>h.1.1
  refine wB 4 I<|Qz I I<|Qz I I<|wB 2 I<|Qz I I<|Qz I I<|wB 5 I ?_
  exact XZ (exd 29 rfl rfl) (congrArg (λb=>some (ak b)) (by rw[ar];simp_all [Uc])) QKK w8
 refine QO I (λhc46=>?_) λhc46=>?_
 ·refine wA 6 I ?_;exact QM () I (wO I) (congrArg (au .i64) (by unfold Wx;rw[if_pos hc46])) wz
 refine QMX 3 I ?_;refine G4 54 (.bool (decide (600<(af n [45]).length)||decide (600<d.length))) ?_ ?_
 ·refine wA 2 I<|QA (Ji I J6)<|wB 2 I ?_
  refine Qa (t:=50) rfl (λhb50=>?_) λhb50=>?_
  ·refine wB 5 I ?_;exact XZ (exd 9 rfl rfl) (congrArg (λb=>some (ak b)) (by simp at *;first | omega | (rw[ar];simp;omega))) QKK w7
  refine wB 3 I<|QA (Ji I J6)<|wB 4 I ?_
  exact XZ (exd 9 rfl rfl) (congrArg (λb=>some (ak b)) (by simp at *;first | omega | (rw[ar];simp;omega))) QKK w7
 refine QO I (λhc54=>?_) λhc54=>?_
 ·refine wA 6 I ?_;exact QM () I (wO I) (congrArg (au .i64) (by unfold Wx;rw[if_neg (by rw[hc46];decide),if_pos hc54])) wz
 refine QMX 8 I ?_;refine QO I (λhc55=>?_) λhc55=>?_
 ·have hl54:(af n [45]).length<=600/\d.length<=600:=by simp at hc54;omega
  have hwh:Jl (af n [45])=true/\Jl d=true:=by
   subst hc55;simp only[Uc,eQ,Bool.true_and,fZ]at hc46;exact⟨hc46.1.1,hc46.2.1.1⟩
  have hsa:=Yb hwh.1;have hda:=Yb hwh.2;have hz1:=Ha hsa;have hz2:=Ha hda;refine wS I<|QL I (λ_ _ f k=>Em f (by rw[Z1 hsa];exact hsa) O) λg58=>QJm I<|QL I (λ_ _ f k=>Em f (by rw[Z1 hda];exact hda) O) λg60=>QL I (λ_ _ f k=>yt f k.1.2 k.2 (by rw[Xn hsa];omega) (by rw[Xn hda];omega)) λg61=>QL I (λw F hF ⟨⟨⟨⟨⟨hGl,_⟩,_⟩,h58⟩,h60⟩,h61⟩=>jJ hF (by assumption)) λc62=>XA _ (λ_ _ f h=>h.2) λhsm=>?_
  rw[Xn hsa,Xn hda,Int.gcd_natCast_natCast]at hsm;refine QMW 7 I ?_;refine G4 70 (.bool (!(fM (Q4 (af n [45])) (Q4 d)==1))) ?_ ?_
  ·refine wA 2 I<|QA (Xv I)<|QJm I ?_
   refine Qa (t:=67) rfl (λhb67=>?_) λhb67=>?_
   ·refine wB 4 I ?_;exact XZ (exd 7 rfl rfl) (congrArg (λb=>some (ak b)) (by rcases hsm with ⟨e1,e2,e3⟩ | ⟨e1,e2⟩<;>rw[ar]<;>simp_all<;>omega)) QKK w7
   refine wB 6 I ?_;exact XZ (exd 7 rfl rfl) (congrArg (λb=>some (ak b)) (by rcases hsm with ⟨e1,e2,e3⟩ | ⟨e1,e2⟩<;>rw[ar]<;>simp_all<;>omega)) QKK w7
  refine QO I (λhc70=>?_) λhc70=>?_
  ·refine wA 6 I ?_;exact QM () I (wO I) (congrArg (au .i64) (by unfold Wx;rw[if_neg (by rw[hc46];decide),if_neg (by rw[hc54];decide),if_pos (by rw[hc55,hc70];rfl)])) wz
  refine QMX 8 I ?_;exact QM () I (wO I) (congrArg (au .i64) (by unfold Wx;rw[if_neg (by rw[hc46];decide),if_neg (by rw[hc54];decide),if_neg (by rw[hc55,hc70];decide)])) wz
 refine QMX 8 I ?_;exact QM () I (wO I) (congrArg (au .i64) (by unfold Wx;rw[if_neg (by rw[hc46];decide),if_neg (by rw[hc54];decide),if_neg (by rw[hc55];simp)])) wz
def J4(s:List UInt8):Rat:=if(Xu 47 s).2.2=true then mkRat (Zq (Xu 47 s).1) (Q4 (Xu 47 s).2.1)else((Zq (Xu 47 s).1:Int):Rat)
theorem Ga(h:c∈s):∃r,s.dropWhile (· != c)=c::r:=by
 induction s with
 |nil=>cases h
 |cons b s ih =>
  simp[fV]
  grind
theorem F4(c:UInt8)(s:List UInt8):((Xu c s).2.2=true->s=(Xu c s).1++c::(Xu c s).2.1)/\((Xu c s).2.2=false->s=(Xu c s).1/\(Xu c s).2.1=[]):=by
 unfold Xu;by_cases h:s.contains c=true
 ·rw[if_pos h];refine⟨λ_=>?_,λe=>(by cases e)⟩;obtain⟨r,hr⟩:=Ga (c:=c) (s:=s) (by simp_all)
  grind[List.takeWhile_append_dropWhile]
 simp_all
theorem Mx{l:List UInt8}(h:Jl l=true)(h0:l≠[48]):0<Q4 l:=by
 simp[Jl,aE,iD,beq_iff_eq,il,fB]at h
 grind[absurd,Hy]
theorem FD{l:List UInt8}(h:Jl l=true)(h0:l≠[48])(h1:l≠[49]):2<=Q4 l:=by
 have hp:=Mx h h0;have hd:=Wr h;rcases aW (Q4 l) 2 with g | g
 ·have:Q4 l=1:=O;rw[this]at hd;exact absurd (hd.symm.trans (by rw[aj];rfl)) h1
 omega
theorem jd{n:List UInt8}(h:Jl (af n [45])=true)(h0:(aB n [45]&&af n [45]==[48])=false):Xm (Zq n)=n/\(Zq n).natAbs=Q4 (af n [45]):=by
 unfold Zq;by_cases hp:aB n [45]=true
 ·have hn:n=45::n.drop 1:=by
   cases n with
   |nil=>cases hp
   |cons c r =>
    have h45:(45==c)=true:=by grind[aB,bY]
    simp_all
  have ht:af n [45]=n.drop 1:=by unfold af;grind
  have hpos:=Mx h (by grind)
  grind[Zr,Q4,Wr]
 have ht:af n [45]=n:=by simp_all[af,if_neg]
 grind[Jd,Q4,Wr]
theorem Rr{l:List UInt8}(h:J7 l=true)(hl:l.length<=600):Q4 l<lim:=by
 have h1:=KF h;have h2:10^l.length<=lim:=by have key:∀k,l.length<=k->10^l.length<=10^k:=λk h=>bw wk h;unfold lim;exact key 600 hl
 omega
theorem ZR(h:JO s=0):s=Q8 (J4 s)/\Ez (J4 s)=false:=by
 unfold JO at h;have hj:=F4 47 s;unfold J4;generalize Xu 47 s=c at h hj ⊢;obtain⟨n,d,fr⟩:=c;dsimp only at h hj ⊢;unfold Wx at h;split at h
 ·cases h
 rename_i h1;split at h
 ·cases h
 split at h
 ·cases h
 have h1':=eq_false_of_ne_true h1;simp only[Uc,eQ,fZ]at h1';obtain⟨⟨hw,hz⟩,hf⟩:=h1';have hsa:=Yb hw;have hl:(af n [45]).length<=600/\d.length<=600:=by simp_all
 obtain⟨hn1,hn2⟩:=jd hw hz;have hlim:=Rr hsa hl.1;cases fr with
 |false =>
  rw[if_neg wk];refine⟨?_,?_⟩
  ·unfold Q8;simp_all
  unfold Ez SE;rw[fp,fq,hn2]
  grind[decide_eq_false,lim,bF,decide,bw]
 |true =>
  rw[if_pos rfl];simp at hf;obtain⟨⟨hwd,hd0⟩,hd1⟩:=hf;have hd2:=FD hwd (by simp_all) (by simp_all);have hda:=Yb hwd;have hco:Nat.Coprime (Zq n).natAbs (Q4 d):=by grind
  have hmk:=Rat.mk_eq_mkRat _ _ O hco;rw[<-hmk];refine⟨?_,?_⟩
  ·show s=if Q4 d=1 then _ else Xm _++47::aj _
   rw[if_neg O,hn1,Wr hwd];simp_all
  unfold Ez SE;have:=Rr hda hl.2;simp_all
theorem N9{r:Rat}(h:Ez r=false):Zv r<=2400:=by
 unfold Ez SE at h;rw[eQ]at h;have h1:=QLs h.1;have h2:=QLs h.2;have e:lim<=2^2400:=by
  decide +kernel
 unfold Zv;have a:=(XK r.num 2400).2 (bF (iz h1) e);have b:=(XK (r.den:Int) 2400).2 (bF (iz h2) e);omega
theorem YS(h:JO s=0):Zv (J4 s)<=2400:=N9 (ZR h).2
def DE.all:∀l:List Value,DE l 0 l
 |[]=>.nil
 |_::l=>.here (DE.all l)
def Cv(x:Fr):List Value:=[.int .i64 x.n.s,.slice x.n.q x.n.n x.n.cap,.int .i64 x.d.s,.slice x.d.q x.d.n x.d.cap]
theorem AZ{f:α->List Value}(hf:∀x,(f x).length=k):∀(l:List α) (i j:Nat) (h:i<l.length),j<k->(l.flatMap f)[i*k+j]?=(f l[i])[j]?
 |[],_,_,h,_=>by simp at h
 |x::l,0,j,_,hj=>by
  rw[ic,eY,aV,bm,if_pos (by rw[hf];exact hj)];rfl
 |x::l,i+1,j,h,hj=>by
  rw[ic,bm,if_neg (by rw[hf,eD];omega),hf];have:=AZ hf l i j (by simpa using h) hj;rw[show(i+1)*k+j-k=i*k+j by rw[eD];omega,this];rfl
def ahead(p:UInt8->Bool)(s:List UInt8):Nat:=(s.takeWhile λc=>!p c).length
theorem Nu{p:UInt8->Bool}(hi:i<s.length)(h:(s.take i).all (λc=>!p c)=true)(hp:p s[i]=true):ahead p s=i:=by
 unfold ahead;have e:s=s.take i++s[i]::s.drop (i+1):=by rw[<-aC hi,bO]
 have hl:(s.take i).length=i:=wy;rw[e,List.takeWhile_append_of_pos (by simpa using h),eT];simp[hp];omega
def Nv{p:UInt8->Bool}(h:s.all (λc=>!p c)=true):ahead p s=s.length:=by
 unfold ahead
 induction s with
 |nil=>rfl
 |cons c s ih =>
  simp only[List.all_cons,aE]at h;rw[eT,if_pos h.1,aQ,ih h.2,aQ]
def Ge{p:UInt8->Bool}(hi:i<s.length)(h:(s.take i).all p=true)(hp:p s[i]=true):(s.take (i+1)).all p=true:=by
 rw[aD hi,List.all_append,h];simp[hp]
def JW(c:UInt8):Bool:=c==47
def Vm{d:UInt8}(hz:z=(d.toNat:Int)):((c.toNat:Int)==z)=(c==d):=by
 rw[ar];simp only[beq_iff_eq];constructor
 ·intro h;apply ey;omega
 rintro rfl;exact hz.symm
theorem Vf(hF:Fits F w)(hl:s.length<=9223372036854775807):Qi prog 244 [tx s] w F (.int .i64 (ahead JW s)):=by
 refine QS.intro (G:=λ_=>True) func244 rfl wu rfl rfl hF wz<|QLF<|wR rfl<|QG<|QLF<|wR rfl<|QQ<|Xr (ι:=S4 s.length λi=>(s.take i).all (λc=>!JW c)=true) (λi=>[(0,tx s),(3,.int .i64 i.i)]) (λ_=>[]) (λ_ _=>True) (λi=>s.length-i.i) ⟨0,aM _,rfl⟩ wU QKK wz λi=>?_
 have hle:=i.le;refine wA 5 I<|QA (Ji I J6)<|QMW 3 I ?_
 refine QO I (λhc=>?_) λhc=>?_
 ·have hi:i.i<s.length:=by simp at hc;omega
  clear hc;refine QMX 8 I<|QA (Yc I I J6 (hi))<|QMW 3 I ?_
  refine QO I (λhc=>?_) λhc=>?_
  ·refine wA 6 I<|ZS ?_
   exact QM () I (wO I) (congrArg (λn:Nat=>au .i64 (n:Int)) (Nu hi i.h (by unfold JW;have:=hc;rw[Vm (d:=47) (z:=47) rfl]at this;simpa using this))) wz
  refine QN<|Qg<|QMY 3 I<|QA (Qn I I O)<|wB 2 I ?_
  exact Qj (⟨i.i+1,O,Ge hi i.h (by unfold JW;have:=hc;rw[Vm (d:=47) (z:=47) rfl]at this;simpa using this)⟩:S4 s.length λi=>(s.take i).all (λc=>!JW c)=true) (by show s.length-(i.i+1)<s.length-i.i;omega) wU QKK wz
 refine JK ?_;refine wS I<|QA (Ji I J6)<|wR I<|QU ?_
 exact QM () I (wO I) (congrArg (λn:Nat=>au .i64 (n:Int)) (Nv (by have e:=i.h;rw[ah (by simp at hc;omega)]at e;exact e))) wz
theorem NC(hF:Fits F w)(hl:s.length<=9223372036854775807):Qi prog 330 [tx s] w F (.bool (J7 s)):=by
 refine QS.intro (G:=λ_=>True) func330 rfl wu rfl rfl hF wz<|QLF<|wR rfl<|QG<|QLF<|wR rfl<|QQ<|Xr (ι:=S4 s.length λi=>(s.take i).all RI=true) (λi=>[(0,tx s),(3,.int .i64 i.i)]) (λ_=>[]) (λ_ _=>True) (λi=>s.length-i.i) ⟨0,aM _,rfl⟩ wU QKK wz λi=>?_
 have hle:=i.le;refine wA 5 I<|QA (Ji I J6)<|QMW 3 I ?_
 refine QO I (λhc=>?_) λhc=>?_
 ·have hi:i.i<s.length:=by simp at hc;omega
  clear hc;refine QMX 8 I<|QA (Yc I I J6 (hi))<|wB 2 I ?_
  refine Qa (t:=14) rfl (λhb14=>?_) λhb14=>?_
  ·refine QMW 7 I<|Jv I<|wA 5 I<|ZS ?_
   exact QM () I (wO I) (congrArg ak (by rw[Di hi (by have h1:=QLr hb14;cases hd:RI s[i.i]with | false=>rfl | true=>(have:=Zd.1 hd;omega))])) wz
  refine wB 5 I<|QA (Yc I I J6 (hi))<|QMW 5 I ?_
  refine QO I (λhc=>?_) λhc=>?_
  ·refine wA 5 I<|ZS ?_
   exact QM () I (wO I) (congrArg ak (by rw[Di hi (by have h1:=QLr hc;cases hd:RI s[i.i]with | false=>rfl | true=>(have:=Zd.1 hd;omega))])) wz
  refine QN<|Qg<|QMY 3 I<|QA (Qn I I O)<|wB 2 I ?_
  exact Qj (⟨i.i+1,O,Ge hi i.h (Zd.2 (by have h1:=QLs hb14;have h2:=QLs hc;constructor<;>omega))⟩:S4 s.length λi=>(s.take i).all RI=true) (by show s.length-(i.i+1)<s.length-i.i;omega) wU QKK wz
 refine JK ?_;refine wA 6 I ?_;exact QM () I (wO I) (congrArg ak (by have e:=i.h;rw[ah (by simp at hc;omega)]at e;exact e)) wz
theorem CD(h1:(1:Int)<(s.length:Int))(h:s[0]' O=48):Jl s=false:=by
 cases s with
 |nil=>simp at h1
 |cons c r =>
  have hc:c=48:=h;subst hc;have hr:r≠[]:=by intro e;subst e;simp at h1
  simp[Jl,hr]
theorem Fw(h1:(1:Int)<(s.length:Int))(h:¬s[0]' O=48):Jl s=J7 s:=by
 cases s with
 |nil=>simp at h1
 |cons c r =>
  have hc:¬c=48:=h;simp[Jl,hc]
theorem CC(h0:0<s.length)(h1:s.length<=1):Jl s=J7 s:=by
 match s,h0,h1 with
 |[c],_,_ =>
  by_cases hc:c=48
  ·subst hc;rfl
  simp[Jl,hc]
theorem U5(hF:Fits F w)(hl:s.length<=9223372036854775807):Qi prog 245 [tx s] w F (.bool (Jl s)):=by
 refine QS.intro (G:=λ_=>True) func245 rfl wu rfl rfl hF wz<|QLF<|wR rfl<|QG<|wS rfl<|QA (Ji rfl J6)<|QA (QP rfl rfl rfl)<|QJm rfl ?_
 refine Qa (t:=6) rfl (λhb6=>?_) λhb6=>?_
 ·refine wB 4 I<|Qz I I<|Qz I I<|Qz I I<|QMW 4 I<|Jv I<|wA 6 I ?_
  exact QM () I (wO I) (congrArg ak (by have h0:s=[]:=(by simpa using hb6);subst h0;rfl)) wz
 refine wB 3 I<|QA (Ji I J6)<|wB 4 I ?_
 refine Qa (t:=10) rfl (λhb10=>?_) λhb10=>?_
 ·refine wB 3 I<|QA (Yc (i:=0) rfl rfl J6 (wi<|QLr hb10))<|QMW 7 I ?_
  refine QO I (λhc=>?_) λhc=>?_
  ·refine wA 6 I ?_;exact QM () I (wO I) (congrArg ak (CD (QLr hb10) (by have h:=hc;rw[Vm (d:=48) (z:=48) rfl]at h;simpa using h))) wz
  refine QMX 5 I<|QL I (λ_ _ f _=>NC f hl) λ_=>wR I<|QU ?_
  exact QM () I (wO I) (congrArg ak (Fw (QLr hb10) (by have h:=hc;rw[Vm (d:=48) (z:=48) rfl]at h;simpa using h))) wz
 refine QMW 8 I<|Zg I<|QMX 5 I<|QL I (λ_ _ f _=>NC f hl) λ_=>wR I<|QU ?_
 exact QM () I (wO I) (congrArg ak (CC (List.length_pos_iff.2 (by simpa using hb6)) (by have h:=QLs hb10;omega))) wz
def WG(s:List UInt8):Int:=if s=[48]then 0 else if aB s [45]=true then -1 else 1
def Tz(s:List UInt8):List UInt8:=if WG s<0 then s.drop 1 else if WG s=0 then s else 45::s
def Ue(s:List UInt8):List UInt8:=if WG s<0 then s.drop 1 else s
def numOf(s:List UInt8):List UInt8:=s.take (ahead JW s)
def MY(s:List UInt8):List UInt8:=if ahead JW s=s.length then[49]else s.drop (ahead JW s+1)
def DM(s:List UInt8):Int:=if(decide (600<(Ue (numOf s)).length)||decide (600<(MY s).length))=true then 4 else 0
def YN(p:UInt8->Bool)(s:List UInt8):ahead p s<=s.length:=(fI _).length_le
theorem YH(h:0<s.length):aB s [45]=(s[0]==45):=by
 cases s with
 |nil=>simp at h
 |cons c r =>
  have e:aB (c::r) [45]=(45==c):=by simp[aB,bY]
  rw[e,ar];simp only[fJ,beq_iff_eq];exact⟨λh=>h.symm,λh=>h.symm⟩
def Hd(h:WG s<0):0<s.length:=by
 cases s with
 |nil=>exact absurd h wk
 |cons=>simp
theorem Hh(hF:Fits F w):Qi prog 155 [tx s] w F (.int .i64 (WG s)):=by
 refine QS.intro (G:=λ_=>True) func155 rfl wu rfl rfl hF wz<|QLF<|wR rfl<|QG<|wS rfl<|QA (Xc rfl rfl)<|QF<|QD ?_
 refine QO I (λhc4=>?_) λhc4=>?_
 ·refine wA 6 I ?_;exact QM () I (wO I) (congrArg (au .i64) (by unfold WG;rw[if_pos (by simpa using hc4)])) wz
 refine QMX 6 I<|QA (Ji I Kg)<|wB 2 I ?_
 refine Qa (t:=8) rfl (λhb8=>?_) λhb8=>?_
 ·refine wB 3 I<|QA (Yc (i:=0) rfl rfl Kg (wi<|QLr hb8))<|QMW 5 I ?_
  refine QO I (λhc=>?_) λhc=>?_
  ·refine wA 6 I ?_;exact QM () I (wO I) (congrArg (au .i64) (by unfold WG;rw[if_neg (by simpa using hc4),if_pos];rw[YH (wi<|QLr hb8),<-Vm (z:=45) rfl];exact hc)) wz
  refine QMX 8 I ?_;exact QM () I (wO I) (congrArg (au .i64) (by unfold WG;rw[if_neg (by simpa using hc4),if_neg];rw[YH (wi<|QLr hb8),<-Vm (z:=45) rfl,hc];decide)) wz
 refine QMW 6 I<|Zg I<|QMX 8 I ?_
 exact QM () I (wO I) (congrArg (au .i64) (by have h0:s=[]:=(by have:=hb8;simp at this;exact this);subst h0;rfl)) wz
theorem vQ(hF:Fits F w)(hl:s.length<=1000000000):Qi prog 271 [tx s] w F (tx (Tz s)):=by
 refine QS.intro (G:=λ_=>True) func271 rfl wu rfl rfl hF wz<|QLF<|wR rfl<|QG<|wS rfl<|QL rfl (λ_ _ f _=>Hh f ) λ_=>QA (QP rfl rfl rfl)<|QF<|QD ?_
 refine QO I (λhc5=>?_) λhc5=>?_
 ·refine wS I<|QA (ZQ 1 rfl rfl Kg I (Hd (QLr hc5)))<|wR I<|QU ?_
  exact QM () I (wO I) (congrArg tx (by unfold Tz;rw[if_pos (QLr hc5)])) wz
 refine QMX 6 I<|QL I (λ_ _ f k=>Hh f ) λ_=>QMW 3 I ?_
 refine QO I (λhc10=>?_) λhc10=>?_
 ·refine wA 7 I ?_;exact QM () I (wO I) (congrArg tx (by unfold Tz;rw[if_neg (QLs hc5),if_pos (by simpa using hc10)])) wz
 refine QMX 5 I<|QA (Xe I I wy)<|wR I<|QU ?_
 exact QM () I (wO I) (congrArg tx (by unfold Tz;rw[if_neg (QLs hc5),if_neg (by simpa using hc10)];rfl)) wz
theorem OL(hF:Fits F w):Qi prog 265 [tx s] w F (tx (Ue s)):=by
 refine QS.intro (G:=λ_=>True) func265 rfl wu rfl rfl hF wz<|QLF<|wR rfl<|QG<|wS rfl<|QL rfl (λ_ _ f _=>Hh f ) λ_=>QA (QP rfl rfl rfl)<|QF<|QD ?_
 refine QO I (λhc=>?_) λhc=>?_
 ·refine wS I<|QA (ZQ 1 rfl rfl Kg I (Hd (QLr hc)))<|wR I<|QU ?_
  exact QM () I (wO I) (congrArg tx (by unfold Ue;rw[if_pos (QLr hc)])) wz
 refine QMX 9 I ?_;exact QM () I (wO I) (congrArg tx (by unfold Ue;rw[if_neg (QLs hc)])) wz
theorem I1(hF:Fits F w):Qi prog 157 [tx s] w F (.bool (s==[48])):=by
 refine QS.intro (G:=λ_=>True) func157 rfl wu rfl rfl hF wz<|QLF<|wR rfl<|wS rfl<|QA (Xc rfl rfl)<|wR rfl<|QU ?_
 exact QM () I (wO I) (rfl) wz
theorem L8(hF:Fits F w)(hl:s.length<=1000000000):Qi prog 266 [tx s] w F (tx (numOf s)):=by
 refine QS.intro (G:=λ_=>True) func266 rfl wu rfl rfl hF wz<|QLF<|wR rfl<|wS rfl<|QJm rfl<|QL rfl (λ_ _ f _=>Vf f (ae hl wk)) λ_=>QA (VG (ahead JW s) rfl rfl Kg rfl (YN _ _))<|wR rfl<|QU ?_
 exact QM () I (wO I) (rfl) wz
theorem OF(hF:Fits F w)(hl:s.length<=1000000000):Qi prog 267 [tx s] w F (tx (MY s)):=by
 refine QS.intro (G:=λ_=>True) func267 rfl wu rfl rfl hF wz<|QLF<|wR rfl<|wS rfl<|QL rfl (λ_ _ f _=>Vf f (ae hl wk)) λ_=>wR rfl<|QG<|wS rfl<|QJm rfl<|QA (Ji rfl Kg)<|QA (QP rfl rfl rfl)<|QF<|QD ?_
 refine QO I (λhc=>?_) λhc=>?_
 ·refine wA 6 I ?_;exact QM () I (wO I) (congrArg tx (by unfold MY;rw[if_pos (by simp at hc;omega)])) wz
 refine QMX 6 I<|QA (Qn I I (wi<|YN JW s))<|QA (ZQ (ahead JW s+1) rfl rfl Kg I (by have:=YN JW s;simp at hc;omega))<|wR I<|QU ?_
 exact QM () I (wO I) (congrArg tx (by unfold MY;rw[if_neg (by simp at hc;omega)])) wz
theorem yE(hF:Fits F w)(hl:s.length<=1000000000):Qi prog 269 [tx s] w F (.int .i64 (DM s)):=by
 refine QS.intro (G:=λ_=>True) func269 rfl wu rfl rfl hF wz<|QLF<|wR rfl<|QG<|wS rfl<|QL rfl (λ_ _ f _=>L8 f hl) λ_=>QL rfl (λ_ _ f k=>OL f ) λ_=>QA (Ji rfl Kg)<|QA (QP rfl rfl rfl)<|QJm rfl ?_
 refine Qa (t:=8) rfl (λhb8=>?_) λhb8=>?_
 ·refine QMW 7 I<|Jv I<|wA 6 I ?_
  exact QM () I (wO I) (congrArg (au .i64) (by have h:=QLr hb8;unfold DM;rw[if_pos (by rw[decide_eq_true O];rfl)])) wz
 refine wB 3 I<|QL I (λ_ _ f k=>OF f hl) λ_=>QK I I<|QA (Ji I Kg)<|QMW 5 I ?_
 refine QO I (λhc=>?_) λhc=>?_
 ·refine wA 6 I ?_;exact QM () I (wO I) (congrArg (au .i64) (by have h:=QLr hc;unfold DM;rw[if_pos (by rw[decide_eq_true (show 600<(MY s).length by omega),Bool.or_true])])) wz
 refine QMX 8 I ?_;exact QM () I (wO I) (congrArg (au .i64) (by have h:=QLs hc;have h8:=QLs hb8;unfold DM;rw[if_neg (by rw[decide_eq_false O,decide_eq_false O];decide)])) wz
def DJ(hi:i<s.length):Q4 (s.take (i+1))=Q4 (s.take i)*10+(s[i].toNat-48):=by
 rw[aD hi,Zc,Kd];simp
def dR(hi:i<s.length)(h:J7 s=true):48<=s[i].toNat/\s[i].toNat<=57:=by
 rw[J7,fi]at h;exact Zd.1 (h _ (fh hi))
theorem Hf(hF:Fits F w)(hs:J7 s=true)(hl:s.length<=18):Qi prog 248 [tx s] w F (.int .i64 (Q4 s)):=by
 refine QS.intro (G:=λ_=>True) func248 rfl wu rfl rfl hF wz<|QLF<|wR rfl<|QLF<|wR rfl<|QG<|QLF<|wR rfl<|QQ<|Xr (ι:=S4 s.length λ_=>True) (λi=>[(0,tx s),(3,.int .i64 (Q4 (s.take i.i))),(4,.int .i64 i.i)]) (λ_=>[]) (λ_ _=>True) (λi=>s.length-i.i) ⟨0,aM _,trivial⟩ wV QKK wz λi=>?_
 have hle:=i.le;have hlt:=KF (GF hs i.i);have hp18:(10:Nat)^(s.take i.i).length<=10^18:=bw wk wy;refine wA 5 I<|QA (Ji I J6)<|QMW 3 I ?_
 refine QO I (λhc=>?_) λhc=>?_
 ·have hi:i.i<s.length:=by simp at hc;omega
  have hd:=dR hi hs;have hp17:(10:Nat)^(s.take i.i).length<=10^17:=bw wk wy;refine QMX 6 I<|QA (VV I I O)<|wB 2 I<|QA (Yc I I J6 (hi))<|QA (NI I QFh k_3 O)<|QA (Qn I I O)<|QA (Jg I I O)<|wB 2 I<|Qg<|QMY 3 I<|QA (Qn I I O)<|wB 2 I ?_
  exact Qj (⟨i.i+1,O,trivial⟩:S4 s.length λ_=>True) (by show s.length-(i.i+1)<s.length-i.i;omega) ⟨rfl,(by show some (au .i64 _)=some (au .i64 _);rw[DJ hi];congr 2;omega),rfl,trivial⟩ QKK wz
 refine JK ?_;refine wA 7 I ?_;exact QM () I (wO I) (congrArg (au .i64) (by rw[ah (by simp at hc;omega)])) wz
structure QCz(a b:Nat) where
 x:Nat
 y:Nat
 h:fM x y=fM a b
 hx:x<=9223372036854775807
 hy:y<=9223372036854775807
theorem vV{a b:Nat}(hF:Fits F w)(ha:a<=9223372036854775807)(hb:b<=9223372036854775807):Qi prog 250 [.int .i64 (a:Int),.int .i64 (b:Int)] w F (.int .i64 (fM a b:Nat)):=by
 refine QS.intro (G:=λ_=>True) func250 rfl wu rfl rfl hF wz<|QLF<|wR rfl<|QG<|QQ<|Xr (ι:=QCz a b) (λi=>[(0,.int .i64 (i.x:Int)),(1,.int .i64 (i.y:Int))]) (λ_=>[]) (λ_ _=>True) (λi=>i.y) ⟨a,b,rfl,ha,hb⟩ wU QKK wz λi=>?_
 have hx:=i.hx;have hy:=i.hy;refine wA 7 I ?_;refine QO I (λhc=>?_) λhc=>?_
 ·have hpos:0<i.y:=by simp at hc;omega
  refine QMX 3 I<|JE QKK mixed wj<|QJ (QC I)<|QJ (QC I)<|QJ (QC I)<|QJ (Y8 I I O O)<|QJ (QE I)<|QJ (QE I)<|Qy<|Qg ?_
  exact Qj (⟨i.y,i.x%i.y,by rw[<-i.h,iS i.x,Nat.gcd_rec i.y i.x,iS],hy,wi<|fA i.x hpos⟩:QCz a b) (fA i.x hpos) wU QKK wz
 refine JK ?_;refine wA 7 I ?_;exact QM () I (wO I) (congrArg (λn:Nat=>au .i64 (n:Int)) (by have h0:i.y=0:=(by simp at hc;omega);rw[<-i.h,h0,Nat.gcd_zero_right])) wz
def BP(n least:Nat):List UInt8:=GO least (hd n)
def AR{n:Nat}(h:0<n):hd n=hd (n/10)++[bD (48+n%10)]:=by
 unfold hd;rw[if_neg O];by_cases h0:n/10=0
 ·rw[if_pos h0,aj,dif_pos O,iy O];rfl
 rw[if_neg h0,fv n,dif_neg O]
def UI{n:Nat}(h:n<=9223372036854775807):(hd n).length<=20:=by
 unfold hd;split
 ·simp
 rw[Lib.decDigits_length];exact Km O wk
structure IK(n least:Nat) where
 m:Nat
 t:List UInt8
 le:m<=n
 h:GO (least-t.length) (hd m)++t=BP n least
 tl:t.length+(hd m).length<=least+20
def Lr{d:Nat}(h:d<10):(([48,49,50,51,52,53,54,55,56,57]:List UInt8).take (d+1)).drop d=[bD (48+d)]:=by
 match d,h with
 |0,_=>rfl
 |1,_=>rfl
 |2,_=>rfl
 |3,_=>rfl
 |4,_=>rfl
 |5,_=>rfl
 |6,_=>rfl
 |7,_=>rfl
 |8,_=>rfl
 |9,_=>rfl
theorem CS{n:Nat}{least:Nat}{t:List UInt8}(h:0<n\/t.length<least):GO (least-(bD (48+n%10)::t).length) (hd (n/10))++(bD (48+n%10)::t)=GO (least-t.length) (hd n)++t:=by
 rcases bH n with h0 | h0
 ·subst h0;have hlt:t.length<least:=O;have e:least-t.length=(least-(t.length+1))+1:=O;simp only[hd,GO,aQ,if_true,iA,fL,eI,Nat.zero_div,Nat.zero_mod];rw[e,Yq,Yq,fR,ig];rfl
 rw[AR h0];unfold GO;simp only[ep,aQ,iA];rw[show least-(t.length+1)-(hd (n/10)).length=least-t.length-((hd (n/10)).length+(0+1)) by omega];simp
def IK.next{n least:Nat}(i:IK n least)(h:0<i.m\/i.t.length<least):IK n least :=
 ⟨i.m/10,bD (48+i.m%10)::i.t,wi i.le,by rw[CS h];exact i.h,by
  have:=i.tl;rcases bH i.m with h0 | h0
  ·have e:hd (i.m/10)=[]:=by rw[h0];rfl
   rw[e];have e2:hd i.m=[]:=by rw[h0];rfl
   rw[e2]at this;simp at this ⊢;omega
  have e:=congrArg fS (AR h0);simp at e ⊢;omega⟩
theorem To{n least:Nat}(hF:Fits F w)(hn:n<=9223372036854775807)(hl:least<=1000):Qi prog 251 [.int .i64 (n:Int),.int .i64 (least:Int)] w F (tx (BP n least)):=by
 refine QS.intro (G:=λ_=>True) func251 rfl wu rfl rfl hF wz<|QLF<|wR rfl<|QLF<|wR rfl<|QG<|QQ<|Xr (ι:=IK n least) (λi=>[(0,.int .i64 (i.m:Int)),(1,.int .i64 (least:Int)),(5,tx i.t)]) (λ_=>[]) (λ_ _=>True) (λi=>i.m+(least-i.t.length)) ⟨n,[],ax _,by unfold BP;simp,by have:=UI hn;simp;omega⟩ wV QKK wz λi=>?_
 have hle:=i.le;have htl:=i.tl;refine wA 6 I ?_;refine Qa (t:=8) rfl (λhb8=>?_) λhb8=>?_
 ·refine QMW 7 I<|Jv I<|QMX 6 I<|QA (Y8 I I O O)<|QJm I<|QA (Y8 I I O O)<|QA (Qn I I O)<|QA (Hl (i.m%10) (i.m%10+1) rfl rfl rfl J6 (.inr rfl) (.inr rfl) O (by show i.m%10+1<=10;omega)) ?_
  rw[Lr (fA _ wk)];refine QJm I<|QA (Xe I I wy)<|QMW 5 I<|QA (VT I I O O O)<|wB 2 I<|Qg ?_
  exact Qj (IK.next i (Or.inl (wi<|QLr hb8):0<i.m\/i.t.length<least)) (by show i.m/10+(least-(i.t.length+1))<i.m+(least-i.t.length);rcases(Or.inl (wi<|QLr hb8):0<i.m\/i.t.length<least)with g | g<;>omega) wV QKK wz
 refine wB 3 I<|QA (Ji I J6)<|QMW 7 I ?_
 refine QO I (λhc=>?_) λhc=>?_
 ·refine QMX 6 I<|QA (Y8 I I O O)<|QJm I<|QA (Y8 I I O O)<|QA (Qn I I O)<|QA (Hl (i.m%10) (i.m%10+1) rfl rfl rfl J6 (.inr rfl) (.inr rfl) O (by show i.m%10+1<=10;omega)) ?_
  rw[Lr (fA _ wk)];refine QJm I<|QA (Xe I I wy)<|QMW 5 I<|QA (VT I I O O O)<|wB 2 I<|Qg ?_
  exact Qj (IK.next i (Or.inr (wi<|QLr hc):0<i.m\/i.t.length<least)) (by show i.m/10+(least-(i.t.length+1))<i.m+(least-i.t.length);rcases(Or.inr (wi<|QLr hc):0<i.m\/i.t.length<least)with g | g<;>omega) wV QKK wz
 refine JK ?_;refine wA 7 I ?_;exact QM () I (wO I) (congrArg tx (by have h1:=QLs hb8;have h2:=QLs hc;have h0:i.m=0:=O;rw[<-i.h,h0];simp[hd,GO,show least-i.t.length=0 by omega,fm])) wz
section
variable{P:Program}{N:Nat}{m:Sl}{Y:World->Prop}{ty:TypeId}
def Mp(a:Addr):a.add 0=a:=by simp[Addr.add]
theorem Tq{hi:Option Operand}{n c sz:Nat}{g:Bool}(h:Nat)(hx:ev m x=some (.slice q n c))(eh:RD m hi=some vh)(hh:vh=some (.int .i64 (h:Int)))(hT:GI P T=some e)(hs:ZZ P e=some (g,sz))(hc:h<=c):
  Qt P N m Y (.slice T x none hi none) ty (.slice q h c):=λa w _ _ _ _ ha _=>by
 subst hh;have e1:q.map (λa=>a.add 0)=q:=by cases q<;>simp[Mp]
 have hrun:(iP T (.slice q n c) none (some (.int .i64 (h:Int))) none).run P w = .ok (.slice q h c) w:=by
  simp[iP,run_underlying (J2 hT),Instr.sliceBounds,Instr.sliceBound,asIntOf,hc,Ym hs,e1]
 simp[execOp,ha.ev hx,ha.RD eh,Instr.sliceAt,run_underlying (J2 hT),hrun]
end
def JJ(F:Gs)(r:Sr)(l:List Int):Prop:=JC F r.q r.n 1 (l.map Qs)/\l.length=r.n/\r.n<=r.cap
def JJ.le{r:Sr}{l:List Int}(h:JJ F r l)(k:Gs.le F F'):JJ F' r l:=⟨h.1.le k,h.2⟩
instance{r:Sr}{l:List Int}: Up (λF=>JJ F r l):=⟨λk h=>JJ.le h k⟩
theorem JC.take{n:Nat}{l:List Int}(h:JC F q n 1 (l.map Qs))(hl:l.length=n)(hk:k<=n):JC F q k 1 ((l.take k).map Qs):=by
 refine⟨wy,λh0=>?_⟩;obtain⟨b,off,arr,T,e1,e2,e3⟩:=h.2 O;refine⟨b,off,arr,T,e1,e2,λj u hu=>e3 j u ?_⟩;rw[List.map_take]at hu;have hj:j<k:=by
  rcases aW j k with g | g
  ·exact g
  rw[bQ wy]at hu;cases hu
 rw[List.getElem?_take_of_lt hj]at hu;exact hu
def Td{l:List Int}(hk:k<l.length)(h:Qx l=Qx (l.take (k+1)))(h0:l[k]=0):Qx l=Qx (l.take k):=by
 rw[h,aD hk,h0,Zw]
def Tb{l:List Int}(hk:k<l.length)(h:Qx l=Qx (l.take (k+1)))(h0:l[k]≠0):Qx l=l.take (k+1):=by
 rw[h,aD hk,Vr _ h0]
structure kP(l:List Int) where
 k:Nat
 le:k<=l.length
 h:Qx l=Qx (l.take k)
theorem Vy{r:Sr}{l:List Int}(hF:Fits F w)(hR:JJ F r l)(hl:l.length<=1000000000):QS prog 335 [r.v] w F (λ(_:Unit)=>.slice r.q (Qx l).length r.cap) (λ_ F=>JJ F ⟨r.q,(Qx l).length,r.cap⟩ (Qx l)):=by
 obtain⟨q,n,c⟩:=r;have hn:=hR.2.1;have hcap:=hR.2.2;dsimp only at hn hcap;refine QS.go (G:=λF=>JJ F ⟨q,n,c⟩ l) func335 hF hR ?_;refine wA 7 I<|Xr (ι:=kP l) (λi=>[(0,.slice q i.k c)]) (λ_=>[]) (λ_ F=>JJ F ⟨q,n,c⟩ l) (λi=>i.k) ⟨n,O,by rw[<-hn,im]⟩ wT QKK w7 λi=>?_
 have hle:=i.le;refine wA 4 I<|QA (Qc I Qd)<|wB 2 I ?_
 refine Qa (t:=6) rfl (λhb6=>?_) λhb6=>?_
 ·have hk0:0<i.k:=wi<|QLr hb6
  have hk1:i.k-1<l.length:=O;refine XA _ (λ_ _ f h=>h.1.ptr (by dsimp only;omega)) (λhq=>?_);obtain⟨qb,qo,hq⟩:=hq;dsimp only at hq;subst hq;refine wB 5 I<|QA (Qc I Qd)<|QK I I<|QA (Jg I I O)<|QK I I<|QA (Qm (i:=i.k-1) rfl wN Qd QY O)<|QK I I<|QA (XS (n:=n) (sz:=1) (cs:=l.map Qs) (u:=.int .i64 l[i.k-1]) I QY w8 O (by simp[hk1,Qs]))<|QMW 5 I ?_
  refine QO I (λhc=>?_) λhc=>?_
  ·refine QMX 6 I<|QA (Qc I Qd)<|QA (Jg I I O)<|QA (Tq (i.k-1) rfl rfl wN Qd QY O)<|wB 2 I<|Qg ?_
   exact Qj (⟨i.k-1,O,Td hk1 (by rw[show i.k-1+1=i.k by omega];exact i.h) (by simpa using hc)⟩:kP l) (by show i.k-1<i.k;omega) wT QKK w7
  refine JK ?_;refine wA 7 I ?_;exact QM () I (wO I) (congrArg (λk:Nat=>iN _ k c) (by have e:=Tb hk1 (by rw[show i.k-1+1=i.k by omega];exact i.h) (by simpa using hc);rw[show i.k-1+1=i.k by omega]at e;rw[e];simp;omega)) λF h=>by have hz:(Qx l).length<=l.length:=XQ l;exact⟨(by have:=h.1.take hn (show(Qx l).length<=n by omega);rw[<-Gp]at this;exact this),rfl,(by show(Qx l).length<=c;omega)⟩
 refine QMW 10 I<|Zg I<|JK ?_
 refine wA 7 I ?_;exact QM () I (wO I) (congrArg (λk:Nat=>iN _ k c) (by have h0:i.k=0:=(wi<|QLs hb6);have e:=i.h;rw[h0]at e;simp[M5]at e;rw[e,h0];rfl)) λF h=>by have hz:(Qx l).length<=l.length:=XQ l;exact⟨(by have:=h.1.take hn (show(Qx l).length<=n by omega);rw[<-Gp]at this;exact this),rfl,(by show(Qx l).length<=c;omega)⟩
theorem Q6.fix{w0:World}{F0:Gs}{bs1:List (Nat×Obj)}{G:Gs->Prop}{sz n:Nat}{v:Value}(hr:Q6 T sz v n cs ob):
  ∃r:Sr,v=r.v/\r.n=n/\n<=r.cap/\∀w,St ⟨w0,F0,bs1++ob,G⟩ w->St ⟨w0,F0,bs1,λF=>G F/\JC F r.q n sz cs⟩ w:=by
 cases hr with
 |nil=>exact⟨⟨eN,0,0⟩,rfl,rfl,ax _,λw hw=>by
   have:=hw.TO (G':=λF=>G F/\JC F eN 0 sz []) (λF h=>⟨h,JC.nil F eN sz⟩);simpa using this⟩
 |some h1 h2 h3 h4 =>
  rename_i b cap rest;refine⟨⟨iH ⟨b,0,eN⟩,n,cap⟩,rfl,rfl,h3,λw hw=>?_⟩;have:=St.freeze (pre:=bs1) (post:=[]) (b:=b) hw;rw[eI]at this;refine this.TO λF h=>⟨h.1,h1,λ_=>⟨b,0,_,T,rfl,h.2,λj u hu=>?_⟩⟩;have hj:j<cs.length:=by rcases aW j cs.length with g | g;exact g;rw[bQ g]at hu;cases hu
  rw[aV];simp only[aS];rw[bm,if_pos hj];exact hu
theorem QCy{Q:Exit->Act->World->Prop}{e:Exit}{N:Nat}{m:Sl}{E:Env}(h:∀w,St E w->St E' w)(k:Fin Q e N m E'):Fin Q e N m E:=λa w ha hw=>k a w ha (h w hw)
theorem Ep{r:Sr}{l:List Int}{i:Nat}(hF:Fits F w)(hR:JJ F r l)(hi:i<=1000000000):Qi prog 369 [r.v,.int .i64 (i:Int)] w F (.int .i64 (l.getD i 0)):=by
 obtain⟨q,n,c⟩:=r;have hn:=hR.2.1;dsimp only at hn;refine QS.go (G:=λF=>JJ F ⟨q,n,c⟩ l) func369 hF hR ?_;dsimp only[Sr.v];refine wA 10 I<|QA (Qc I Qd)<|QMW 3 I ?_
 refine QO I (λhc=>?_) λhc=>?_
 ·have hk1:i<l.length:=wi<|QLr hc
  refine ZO _ (λ_ _ f h=>h.1.ptr (by dsimp only;omega)) (λhq=>?_);obtain⟨qb,qo,hq⟩:=hq;dsimp only at hq;subst hq;refine wA 4 I<|QA (Qm (i:=i) rfl rfl Qd QY O)<|QA (XS (n:=n) (sz:=1) (cs:=l.map Qs) (u:=.int .i64 l[i]) I QY w8 O (by simp[hk1,Qs]))<|wR I<|QU ?_
  exact QM () I (wO I) (congrArg (au .i64) (by simp[hk1])) wz
 refine QMX 8 I ?_;exact QM () I (wO I) (congrArg (au .i64) (by have:=QLs hc;simp[show l.length<=i by omega])) wz
def B9:Int:=1000000000
structure QC7(a b:List Int) where
 i:Nat
 out:List Int
 carry:Int
 v:Value
 ob:List (Nat×Obj)
 le:i<=max a.length b.length+1
 len:out.length=i
 dg:DG B9 out
 c0:0<=carry
 c1:carry<=1
 cz:max a.length b.length<i->carry=0
 h:dv B9 out+B9^i*carry=dv B9 (a.take i)+dv B9 (b.take i)
 hr:Q6 3 1 v out.length (out.map Qs) ob
def KO(B:Int)(l:List Int)(n:Nat):dv B (l.take (n+1))=dv B (l.take n)+B^n*l.getD n 0:=by
 rcases aW n l.length with h | h
 ·rw[WB B l n h];simp[h]
 rw[ah O,ah h];simp[h]
def Dm{l:List Int}(h:DG B9 l)(i:Nat):0<=l.getD i 0/\l.getD i 0<1000000000:=h.getD wk i
def Nb{l:List Int}(h:l.length<=i):l.getD i 0=0:=by simp[h]
theorem QCe{a out:List Int}{c s:Int}(hl:out.length=i)(h:dv B9 out+B9^i*c=dv B9 (a.take i)+dv B9 (b.take i))(hs:s=a.getD i 0+b.getD i 0+c):
  dv B9 (out++[s%B9])+B9^(i+1)*(s/B9)=dv B9 (a.take (i+1))+dv B9 (b.take (i+1)):=by
 rw[XG,hl,KO,KO,aX,eW];have e:s%B9+B9*(s/B9)=s:=bS s B9;have e2:B9^i*(s%B9)+B9^i*(B9*(s/B9))=B9^i*s:=by rw[<-eF,e]
 rw[Int.add_assoc,e2,hs,eF,eF];omega
abbrev BX(P:Program)(f:FuncId)(args:List Value)(w:World)(F:Gs)(p:List Int->Prop):Prop:=QS P f args w F (λ(c:Sr×List Int)=>.slice c.1.q c.1.n c.1.cap) λc F=>JJ F c.1 c.2/\DG B9 c.2/\p c.2
theorem PH{a:List Int}(hF:Fits F w)(hA:JJ F ra a)(hB:JJ F rb b)(da:DG B9 a)(db:DG B9 b)(la:a.length<=100000000)(lb:b.length<=100000000):
  BX prog 331 [ra.v,rb.v] w F (λl=>dv B9 l=dv B9 a+dv B9 b/\l.length<=max a.length b.length+1):=by
 have na:=hA.2.1;have nb:=hB.2.1;have h9:B9=1000000000:=rfl;refine QS.go (G:=λF=>JJ F ra a/\JJ F rb b) func331 hF ⟨hA,hB⟩ ?_;refine wA 22 I ?_
 refine Xr (ι:=QC7 a b) (λi=>[(0,ra.v),(1,rb.v),(5,i.v),(6,.int .i64 i.carry),(7,.int .i64 (i.i:Int))]) (λi=>i.ob) (λ_ F=>JJ F ra a/\JJ F rb b) (λi=>max a.length b.length+1-i.i)
  ⟨0,[],0,.slice none 0 0,[],aM _,rfl,DG.nil _,wk,wk,λ_=>rfl,wv,.nil⟩ wX tB w7 λi=>?_
 have hle:=i.le;have hlen:=i.len;have hc0:=i.c0;have hc1:=i.c1;refine QG ?_;refine G4 22 (.bool (decide ((i.i:Int)<ra.n)||decide ((i.i:Int)<rb.n)||decide (i.carry>0))) ?_ ?_
 ·refine wA 3 I<|QA (Qc I Qd)<|wB 2 I ?_
  refine Qa (t:=13) rfl (λhb13=>?_) λhb13=>?_
  ·refine wB 10 I ?_;exact XZ (exd 15 rfl rfl) (congrArg (λb=>some (ak b)) (by rw[ar];simp_all;try omega)) QKK w7
  refine wB 5 I<|QA (Qc I Qd)<|wB 4 I ?_
  refine Qa (t:=19) rfl (λhb19=>?_) λhb19=>?_
  ·refine wB 4 I ?_;exact XZ (exd 16 rfl rfl) (congrArg (λb=>some (ak b)) (by rw[ar];simp_all;try omega)) QKK w7
  refine wB 6 I ?_;exact XZ (exd 16 rfl rfl) (congrArg (λb=>some (ak b)) (by rw[ar];simp_all;try omega)) QKK w7
 refine QO I (λhc=>?_) λhc=>?_
 ·have hi:i.i<=max a.length b.length:=by
   rcases aW (max a.length b.length) i.i with g | g
   ·have:=i.cz g;simp at hc;omega
   exact g
  have b1:=Dm da i.i;have b2:=Dm db i.i;refine QMX 8 I<|QL I (λ_ _ f k=>Ep (r:=ra) (l:=a) f k.1 O) λ_=>wB 2 I<|QL I (λ_ _ f k=>Ep (r:=rb) (l:=b) f k.1.2 O) λ_=>QA (Qn I I O)<|QJm I<|QA (Qn I I O)<|QMW 7 I<|QA (Y8 I I O O)<|JG I (J2 Qd) QY HZ I I λb37=>?_
  refine Yi (bs1:=[]) (ob:=i.ob) (k:=1) (sz:=1) (news:=[.int .i64 ((a.getD i.i 0+b.getD i.i 0+i.carry)%1000000000)]) I I Qd QY HZ I WR i.hr (Src.row (off:=0) w9 (λj v hv=>by rw[aV];show([au .i64 ((a.getD i.i 0+b.getD i.i 0+i.carry)%1000000000)].toArray)[j]?=some v;rw[aS];exact hv) rfl) O O (λu hu=>by rw[List.mem_singleton.1 hu];rfl) (λv' ob' hr'=>?_);refine QMW 5 I<|QA (VT I I O O O)<|wB 2 I<|Qg<|QMY 3 I<|QA (Qn I I O)<|wB 2 I ?_
  exact Qj (⟨i.i+1,i.out++[(a.getD i.i 0+b.getD i.i 0+i.carry)%B9],(a.getD i.i 0+b.getD i.i 0+i.carry)/B9,v',ob',O,by simp[hlen],i.dg.append (DG.cons (by rw[h9];omega) (by rw[h9];omega) (DG.nil _)),by rw[h9];omega,by rw[h9];omega,λg=>by rw[Nb (l:=a) O,Nb (l:=b) O,h9];omega,QCe hlen i.h I,by simpa[Qs,h9]using hr'⟩:QC7 a b) (by show max a.length b.length+1-(i.i+1)<max a.length b.length+1-i.i;omega) wX QKK λF h=>h.1.1.1
 refine JK ?_;refine wA 7 I ?_;obtain⟨r,hv,hrn,hrc,hfix⟩:=Q6.fix (w0:=w) (F0:=F) (bs1:=[]) (G:=λF=>JJ F ra a/\JJ F rb b) i.hr;refine QCy hfix ?_;have hex:max a.length b.length<=i.i/\i.carry=0:=by simp at hc;omega
 exact QM ((r,i.out):Sr×List Int) rfl (wO I) hv.symm λF h=>⟨⟨by rw[hrn];exact h.2,hrn.symm,by show r.n<=r.cap;omega⟩,i.dg,by have e:=i.h;rw[hex.2,ah O,ah O]at e;simpa using e,by show i.out.length<=_;omega⟩
structure QC5(a b:List Int) where
 k:Nat
 le:k<=a.length
 h:a.drop k=b.drop k
def Fz{a:List Int}(ha:k<a.length)(hb:k<b.length)(h:a.drop (k+1)=b.drop (k+1))(e:a[k]=b[k]):a.drop k=b.drop k:=by
 rw[aC ha,aC hb,h,e]
theorem Vh{a:List Int}(hF:Fits F w)(hA:JJ F ra a)(hB:JJ F rb b)(da:DG B9 a)(db:DG B9 b)(za:NZ a)(zb:NZ b)(la:a.length<=100000000)(lb:b.length<=100000000):
  Qi prog 332 [ra.v,rb.v] w F (.int .i64 (YY (dv B9 a) (dv B9 b))):=by
 have h91:(1:Int)<B9:=wk;have h90:(0:Int)<B9:=wk;obtain⟨q,n,c⟩:=ra;obtain⟨q',n',c'⟩:=rb;have na:=hA.2.1;have nb:=hB.2.1;dsimp only at na nb;refine QS.go (G:=λF=>JJ F ⟨q,n,c⟩ a/\JJ F ⟨q',n',c'⟩ b) func332 hF ⟨hA,hB⟩ ?_;dsimp only[Sr.v];refine wA 9 I<|QA (Qc I Qd)<|QJm I<|QA (Qc I Qd)<|QMW 3 I ?_
 refine QO I (λhc=>?_) λhc=>?_
 ·refine wA 4 I<|QA (Qc I Qd)<|QJm I<|QA (Qc I Qd)<|QMW 3 I ?_
  refine QO I (λhc=>?_) λhc2=>?_
  ·refine wA 6 I ?_;exact QM () I (wO I) (congrArg (au .i64) (VM (XH h91 da db zb (by simp at hc;omega)))) wz
  refine QMX 8 I ?_;exact QM () I (wO I) (congrArg (au .i64) (GD (XH h91 db da za (by simp at hc hc2;omega)))) wz
 refine QMX 6 I<|QA (Qc I Qd)<|QA (Jg I I O)<|QMW 3 I ?_
 have hab:n=n':=by simp at hc;omega
 refine QQ<|Xr (ι:=QC5 a b) (λi=>[(0,.slice q n c),(1,.slice q' n' c'),(5,.int .i64 ((i.k:Int)-1))]) (λ_=>[]) (λ_ F=>JJ F ⟨q,n,c⟩ a/\JJ F ⟨q',n',c'⟩ b) (λi=>i.k) ⟨n,O,by rw[bL O,bL O]⟩ wV QKK w7 λi=>?_
 have hle:=i.le;refine wA 7 I ?_;refine QO I (λhc=>?_) λhc=>?_
 ·refine QMX 6 I ?_;have hk0:0<i.k:=wi<|QLr hc
  have hka:i.k-1<a.length:=O;have hkb:i.k-1<b.length:=O;refine ZO _ (λ_ _ f h=>h.1.1.ptr (by dsimp only;omega)) (λhq=>?_);obtain⟨qb,qo,hq⟩:=hq;dsimp only at hq;subst hq;refine ZO _ (λ_ _ f h=>h.2.1.ptr (by dsimp only;omega)) (λhq=>?_);obtain⟨qb',qo',hq⟩:=hq;dsimp only at hq;subst hq;refine JE QKK mixed wj<|QJ (QC I)<|QJ (QC I)<|QJ (Qm (i:=i.k-1) rfl wN Qd QY O)<|QJ (XS (n:=n) (sz:=1) (cs:=a.map Qs) (u:=.int .i64 a[i.k-1]) I QY (λF h=>h.1.1) O (by simp[hka,Qs]))<|QJ (QC I)<|QJ (QC I)<|QJ (Qm (i:=i.k-1) rfl wN Qd QY O)<|QJ (XS (n:=n') (sz:=1) (cs:=b.map Qs) (u:=.int .i64 b[i.k-1]) I QY (λF h=>h.2.1) O (by simp[hkb,Qs]))<|QJ (QP I I I)<|Qy<|QD ?_
  refine QO I (λhc=>?_) λhca=>?_
  ·refine wA 5 I<|ZS ?_
   exact QM () I (wO I) (congrArg (au .i64) (VM (Px h90 da db O (i.k-1) hka (by rw[show i.k-1+1=i.k by omega];exact i.h) (QLr hc)))) wz
  refine QMX 3 I<|JE QKK mixed wj<|QJ (QC I)<|QJ (QC I)<|QJ (Qm (i:=i.k-1) rfl wN Qd QY O)<|QJ (XS (n:=n) (sz:=1) (cs:=a.map Qs) (u:=.int .i64 a[i.k-1]) I QY (λF h=>h.1.1) O (by simp[hka,Qs]))<|QJ (QC I)<|QJ (QC I)<|QJ (Qm (i:=i.k-1) rfl wN Qd QY O)<|QJ (XS (n:=n') (sz:=1) (cs:=b.map Qs) (u:=.int .i64 b[i.k-1]) I QY (λF h=>h.2.1) O (by simp[hkb,Qs]))<|QJ (QP I I I)<|Qy<|QD ?_
  refine QO I (λhc=>?_) λhcb=>?_
  ·refine wA 5 I<|ZS ?_
   exact QM () I (wO I) (congrArg (au .i64) (GD (Px h90 db da O (i.k-1) hkb (by rw[show i.k-1+1=i.k by omega];exact i.h.symm) (QLr hc)))) wz
  refine QN<|Qg<|QMY 3 I<|QA (Jg I I O)<|wB 2 I ?_
  exact Qj (⟨i.k-1,O,Fz hka hkb (by rw[show i.k-1+1=i.k by omega];exact i.h) (by simp at hca hcb;omega)⟩:QC5 a b) (by show i.k-1<i.k;omega) ⟨rfl,rfl,congrArg (λz:Int=>some (au .i64 z)) (by dsimp only;omega),trivial⟩ QKK w7
 refine JK ?_;refine wA 6 I ?_;exact QM () I (wO I) (congrArg (au .i64) (by have h0:i.k=0:=(wi<|QLs hc);have e:=i.h;rw[h0]at e;simp at e;rw[e];exact Du _)) wz
theorem Da{Q:Exit->Act->World->Prop}{c:Code}{N:Nat}{m:Sl}{E:Env}(h:∀w,St E w->St E' w)(k:J P c Q N m E'):J P c Q N m E:=λa w ha hw=>k a w ha (h w hw)
def zc{a out:List Int}{c c' d:Int}(hl:out.length=i)(h:dv B9 out+dv B9 (b.take i)=dv B9 (a.take i)+B9^i*c)(hd:d=a.getD i 0-b.getD i 0-c+B9*c'):
  dv B9 (out++[d])+dv B9 (b.take (i+1))=dv B9 (a.take (i+1))+B9^(i+1)*c':=by
 rw[XG,hl,KO,KO,aX,eW,hd,eF,bW,bW];omega
structure dV(a b:List Int) where
 i:Nat
 out:List Int
 borrow:Int
 v:Value
 ob:List (Nat×Obj)
 le:i<=a.length
 len:out.length=i
 dg:DG B9 out
 c0:0<=borrow
 c1:borrow<=1
 h:dv B9 out+dv B9 (b.take i)=dv B9 (a.take i)+B9^i*borrow
 hr:Q6 3 1 v out.length (out.map Qs) ob
def jG{a out:List Int}{c:Int}(da:DG B9 out)(hl:out.length=a.length)(hb:b.length<=a.length)(h:dv B9 out+dv B9 (b.take a.length)=dv B9 (a.take a.length)+B9^a.length*c)(h0:0<=c)(h1:c<=1)(hle:dv B9 b<=dv B9 a):dv B9 out=dv B9 a-dv B9 b:=by
 rw[im,ah hb]at h;have hlt:=Zh (b:=B9) wk da;rw[hl]at hlt;have hc:c=0\/c=1:=O;rcases hc with rfl | rfl
 ·rw[fN]at h;omega
 rw[fk]at h;omega
theorem Hg{a:List Int}(hF:Fits F w)(hA:JJ F ra a)(hB:JJ F rb b)(da:DG B9 a)(db:DG B9 b)(la:a.length<=100000000)(lb:b.length<=a.length)(hle:dv B9 b<=dv B9 a):
  BX prog 333 [ra.v,rb.v] w F (λl=>dv B9 l=dv B9 a-dv B9 b/\NZ l/\l.length<=a.length):=by
 obtain⟨q,n,c⟩:=ra;have na:=hA.2.1;have nb:=hB.2.1;dsimp only at na;have h9:B9=1000000000:=rfl;refine QS.go (G:=λF=>JJ F ⟨q,n,c⟩ a/\JJ F rb b) func333 hF ⟨hA,hB⟩ ?_;dsimp only[Sr.v];refine wA 22 I ?_;refine Xr (ι:=dV a b) (λi=>[(0,.slice q n c),(1,.slice rb.q rb.n rb.cap),(5,i.v),(6,.int .i64 i.borrow),(7,.int .i64 (i.i:Int))]) (λi=>i.ob) (λ_ F=>JJ F ⟨q,n,c⟩ a/\JJ F rb b) (λi=>a.length-i.i)
  ⟨0,[],0,.slice none 0 0,[],aM _,rfl,DG.nil _,wk,wk,wv,.nil⟩ wX tB w7 λi=>?_
 have hile:=i.le;have hlen:=i.len;have hc0:=i.c0;have hc1:=i.c1;refine wA 5 I<|QA (Qc I Qd)<|QMW 3 I ?_
 refine QO I (λhc=>?_) λhc=>?_
 ·have hi:i.i<n:=wi<|QLr hc
  have hia:i.i<a.length:=O;have b1:=Dm da i.i;have b2:=Dm db i.i;have e1:a[i.i]=a.getD i.i 0:=by simp[hia]
  refine ZO _ (λ_ _ f h=>h.1.1.ptr (by dsimp only;omega)) (λhq=>?_);obtain⟨qb,qo,hq⟩:=hq;dsimp only at hq;subst hq;refine QMX 5 I<|JE QKK mixed wj<|QJ (QC I)<|QJ (QC I)<|QJ (Qm (i:=i.i) rfl rfl Qd QY O)<|QJ (XS (n:=n) (sz:=1) (cs:=a.map Qs) (u:=.int .i64 (a.getD i.i 0)) I QY (λF h=>h.1.1) O (by simp[hia,Qs]))<|QJ (QC I)<|QJ (QC I)<|QZ I (λ_ _ f k=>Ep (r:=rb) (l:=b) f k.2 O) λ_=>QJ (Jg I I O)<|QJ (QC I)<|QJ (Jg I I O)<|QJ (QE I)<|Qy<|QMY 13 I ?_
  refine QO I (λhs=>?_) λhs=>?_
  ·refine wS I<|QA (Qn I I O)<|wR I<|QB<|QMW 6 I<|JG I (J2 Qd) QY HZ I I λb31=>?_
   refine Yi (bs1:=[]) (ob:=i.ob) (k:=1) (sz:=1) (news:=[.int .i64 ((a.getD i.i 0-b.getD i.i 0-i.borrow)+1000000000)]) I I Qd QY HZ I WR i.hr (Src.row (off:=0) w9 (λj v hv=>by rw[aV];show([au .i64 ((a.getD i.i 0-b.getD i.i 0-i.borrow)+1000000000)].toArray)[j]?=some v;rw[aS];exact hv) rfl) O O (λu hu=>by rw[List.mem_singleton.1 hu];rfl) (λv' ob' hr'=>?_);refine wB 2 I<|Qg<|QMY 3 I<|QA (Qn I I O)<|wB 2 I ?_
   exact Qj (⟨i.i+1,i.out++[((a.getD i.i 0-b.getD i.i 0-i.borrow)+1000000000)],1,v',ob',O,by simp[hlen],i.dg.append (DG.cons (wi<|QLr hs) (by have:=QLr hs;rw[h9];omega) (DG.nil _)),wk,wk,zc hlen i.h (by rw[h9];omega),by simpa[Qs]using hr'⟩:dV a b) (by show a.length-(i.i+1)<a.length-i.i;omega) wX QKK λF h=>h.1.1
  refine QMX 5 I<|JG I (J2 Qd) QY HZ I I λb31=>?_
  refine Yi (bs1:=[]) (ob:=i.ob) (k:=1) (sz:=1) (news:=[.int .i64 (a.getD i.i 0-b.getD i.i 0-i.borrow)]) I I Qd QY HZ I WR i.hr (Src.row (off:=0) w9 (λj v hv=>by rw[aV];show([au .i64 (a.getD i.i 0-b.getD i.i 0-i.borrow)].toArray)[j]?=some v;rw[aS];exact hv) rfl) O O (λu hu=>by rw[List.mem_singleton.1 hu];rfl) (λv' ob' hr'=>?_);refine wB 2 I<|Qg<|QMY 3 I<|QA (Qn I I O)<|wB 2 I ?_
  exact Qj (⟨i.i+1,i.out++[(a.getD i.i 0-b.getD i.i 0-i.borrow)],0,v',ob',O,by simp[hlen],i.dg.append (DG.cons (wi<|QLs hs) (by have:=QLs hs;rw[h9];omega) (DG.nil _)),wk,wk,zc hlen i.h (by rw[h9];omega),by simpa[Qs]using hr'⟩:dV a b) (by show a.length-(i.i+1)<a.length-i.i;omega) wX QKK λF h=>h.1.1
 refine JK ?_;refine QG ?_;obtain⟨r,hv,hrn,hrc,hfix⟩:=Q6.fix (w0:=w) (F0:=F) (bs1:=[]) (G:=λF=>JJ F ⟨q,n,c⟩ a/\JJ F rb b) i.hr;have hex:i.i=a.length:=wi<|QLs hc
 have hlz:=XQ i.out;refine Da hfix ?_;rw[hv];refine wA 2 I<|QL I (λ_ _ f k=>Vy (r:=r) (l:=i.out) f ⟨by rw[hrn];exact k.2,hrn.symm,O⟩ O) λc34=>wR I<|QU ?_
 exact QM ((⟨r.q,(Qx i.out).length,r.cap⟩,Qx i.out):Sr×List Int) rfl (wO I) rfl λF h=>⟨h.2,i.dg.Qx,by show dv B9 (Qx i.out)=_;rw[Ju];exact jG i.dg O lb (by have e:=i.h;rw[hex]at e;exact e) hc0 hc1 hle,XN _,by show(Qx i.out).length<=_;omega⟩
theorem Yz.one{l:List Value}{v:Value}:∀ {n:Nat},n<l.length->Yz l n [v] (l.set n v):=by
 induction l with
 |nil=>simp
 |cons x l ih =>
  intro n h;cases n with
  |zero=>exact .here .nil
  |succ n=>exact .skip (ih (by simp_all))
def Wz(la lb:List Int)(i j:Nat)(x:Int)(o:List Int)(c:Int):Prop :=
 o.length=la.length+lb.length/\DG B9 o/\(∀p,i+lb.length<=p->Qb o p=0)/\(0<=c/\c<B9) /\
  dv B9 o+B9^(i+j)*c=dv B9 (la.take i)*dv B9 lb+B9^i*(x*dv B9 (lb.take j))
def Q3:(0:Int)<B9:=wk
theorem AK{x y o c:Int}(hx:0<=x/\x<B9)(hy:0<=y/\y<B9)(ho:0<=o/\o<B9)(hc:0<=c/\c<B9):0<=x*y/\x*y<=999999998000000001/\0<=o+x*y+c/\(o+x*y+c)/B9<B9:=by
 have h9:B9=1000000000:=rfl;have h0:=bA hx.1 hy.1;have h1:x*y<=(B9-1)*(B9-1):=eR O O hy.1 O
 grind
theorem Wz.step{j:Nat}{x c s:Int}(h:Wz la lb i j x o c)(hx:0<=x/\x<B9)(hb:DG B9 lb)(hj:j<lb.length)(hi:i<la.length)(hs:s=Qb o (i+j)+x*Qb lb j+c):
  Wz la lb i (j+1) x (o.set (i+j) (s%B9)) (s/B9):=by
 obtain⟨h1,h2,h3,h4,h5⟩:=h;obtain⟨m0,m1,m2,m3⟩:=AK hx (hb.Qb Q3 j) (h2.Qb Q3 _) h4;rw[<-hs]at m2 m3;refine⟨by simp_all,h2.set _ (bh _ wk) (aT _ Q3),?_,⟨bZ m2 wk,m3⟩,?_⟩
 ·intro p hp;rw[KP O,if_neg O];simp_all
 rw[Wq B9 O,Kt,<-bj,aX]
 grind[B9,bS,Qb,eE]
theorem Wz.row{x c:Int}(h:Wz la lb i lb.length x o c)(hi:i<la.length)(hx:x=Qb la i):
  Wz la lb (i+1) 0 0 (o.set (i+lb.length) c) 0:=by
 obtain⟨h1,h2,h3,h4,h5⟩:=h;refine⟨by simp_all,h2.set _ h4.1 h4.2,?_,⟨eG _,Q3⟩,?_⟩
 ·intro p hp;rw[KP O,if_neg O];grind
 rw[Wq B9 O,h3 _ (ax _),Kt,<-hx]
 grind
def Wz.start(la lb:List Int):Wz la lb 0 0 0 (aH (la.length+lb.length) 0) 0:=by
 refine⟨wv,DG.replicate Q3 _,?_,⟨eG _,Q3⟩,by simp[MF]⟩;simp[Qb]
theorem Wz.next(h:Wz la lb i 0 0 o 0)(x:Int):Wz la lb i 0 x o 0:=by
 obtain⟨h1,h2,h3,h4,h5⟩:=h;exact⟨h1,h2,h3,h4,by simp_all⟩
theorem Wz.stop(h:Wz la lb i 0 0 o 0)(hi:la.length<=i):dv B9 o=dv B9 la*dv B9 lb:=by
 have e:=h.2.2.2.2
 grind[ah]
def BQ(h:k<o.length):(o.map Qs)[0+k*1]?=some (.int .i64 (Qb o k)):=by
 rw[Xz h];simp[h,Qs]
def JP(h:k<o.length):(o.map Qs)[k*1]?=some (.int .i64 (Qb o k)):=by
 rw[Xz h];simp[h,Qs]
def V4(h:k<o.length)(x:Int):Yz (o.map Qs) (0+k*1) [.int .i64 x] ((o.set k x).map Qs):=by
 have:=Yz.one (l:=o.map Qs) (n:=0+k*1) (v:=.int .i64 x) (by simpa using h);simpa[List.map_set,Qs]using this
structure QCm(a b:List Int) where
 i:Nat
 o:List Int
 le:i<=a.length
 h:Wz a b i 0 0 o 0
structure QCl(a b:List Int)(i:Nat) where
 j:Nat
 o:List Int
 c:Int
 le:j<=b.length
 h:Wz a b i j (Qb a i) o c
theorem Vz{a:List Int}(hF:Fits F w)(hA:JJ F ra a)(hB:JJ F rb b)(da:DG B9 a)(db:DG B9 b)(la:a.length<=100000000)(lb:b.length<=100000000):
  BX prog 257 [ra.v,rb.v] w F (λl=>dv B9 l=dv B9 a*dv B9 b/\NZ l/\l.length<=a.length+b.length):=by
 obtain⟨q,n,c⟩:=ra;obtain⟨q',n',c'⟩:=rb;have na:=hA.2.1;have nb:=hB.2.1;dsimp only at na nb;have h9:B9=1000000000:=rfl;refine QS.go (G:=λF=>JJ F ⟨q,n,c⟩ a/\JJ F ⟨q',n',c'⟩ b) func257 hF ⟨hA,hB⟩ ?_;dsimp only[Sr.v];refine wA 8 I<|QA (Qc I Qd)<|QJm I<|QA (Qc I Qd)<|QA (Qn I I O)<|K5 (n:=n+n') (bytes:=8) rfl rfl Qd QY HZ I WR O O λbk=>?_
 rw[show JL [au .i64 0] (n+n')=(aH (a.length+b.length) (0:Int)).map Qs by rw[ZM,na,nb];simp[Qs]];refine QMW 10 I ?_;refine Xr (ι:=QCm a b) (λi=>[(0,.slice q n c),(1,.slice q' n' c'),(5,.slice (some ⟨bk,0,none⟩) (n+n') (n+n')),(6,.int .i64 (i.i:Int))]) (λi=>[(bk,.cells (i.o.map Qs).toArray 3 (0,0))]) (λ_ F=>JJ F ⟨q,n,c⟩ a/\JJ F ⟨q',n',c'⟩ b) (λi=>a.length-i.i)
  ⟨0,_,aM _,Wz.start a b⟩ wW QKK w7 λi=>?_
 have hile:=i.le;refine wA 5 I<|QA (Qc I Qd)<|QMW 3 I ?_
 refine QO I (λhc=>?_) λhc=>?_
 ·have hi:i.i<n:=wi<|QLr hc
  have hia:i.i<a.length:=O;refine ZO _ (λ_ _ f h=>h.1.1.ptr (by dsimp only;omega)) (λhq=>?_);obtain⟨qb,qo,hq⟩:=hq;dsimp only at hq;subst hq;refine QMX 16 I ?_;refine Xr (ι:=QCl a b i.i) (λi2=>[(0,.slice (some ⟨qb,qo,none⟩) n c),(1,.slice q' n' c'),(5,.slice (some ⟨bk,0,none⟩) (n+n') (n+n')),(6,.int .i64 (i.i:Int)),(7,.int .i64 i2.c),(8,.int .i64 (i2.j:Int))]) (λi2=>[(bk,.cells (i2.o.map Qs).toArray 3 (0,0))]) (λ_ F=>JJ F ⟨some ⟨qb,qo,none⟩,n,c⟩ a/\JJ F ⟨q',n',c'⟩ b) (λi2=>b.length-i2.j)
   ⟨0,i.o,0,aM _,i.h.next _⟩ wY QKK w7 λi2=>?_
  have hjle:=i2.le;have hol:i2.o.length=a.length+b.length:=i2.h.1;have hcc:=i2.h.2.2.2.1;refine wA 5 I<|QA (Qc I Qd)<|QMW 3 I ?_
  refine QO I (λhc=>?_) λhc=>?_
  ·have hj:i2.j<n':=wi<|QLr hc
   have hjb:i2.j<b.length:=O;have hko:i.i+i2.j<i2.o.length:=O;have bx:=da.Qb Q3 i.i;have by':=db.Qb Q3 i2.j;have bo:=i2.h.2.1.Qb Q3 (i.i+i2.j);have bd:=AK bx by' bo hcc;have hst:=i2.h.step bx db hjb hia rfl;refine ZO _ (λ_ _ f h=>h.2.1.ptr (by dsimp only;omega)) (λhq=>?_);obtain⟨qb',qo',hq⟩:=hq;dsimp only at hq;subst hq;refine QMX 5 I<|JE QKK mixed wj<|QJ (QC I)<|QJ (QC I)<|QJ (QC I)<|QJ (Qn I I O)<|QJ (Qm (i:=i.i+i2.j) rfl rfl Qd QY O)<|QJ (Xh (c:=i2.o.map Qs) (T':=3) rfl QY .here (BQ hko))<|QJ (QC I)<|QJ (QC I)<|QJ (Qm (i:=i.i) rfl rfl Qd QY O)<|QJ (XS (n:=n) (sz:=1) (cs:=a.map Qs) rfl QY (λF h=>h.1.1) O (JP hia))<|QJ (QC I)<|QJ (QC I)<|QJ (Qm (i:=i2.j) rfl rfl Qd QY O)<|QJ (XS (n:=n') (sz:=1) (cs:=b.map Qs) rfl QY (λF h=>h.2.1) O (JP hjb))<|QJ (VV I I O)<|QJ (Qn I I O)<|QJ (QC I)<|QJ (Qn I I O)<|QJ (QE I)<|Qy<|QMY 6 I<|QA (Qn I I O)<|QJm I<|QA (Y8 I I O O)<|QA (Qm (i:=i.i+i2.j) rfl rfl Qd QY O)<|QV (vs:=[_]) I I I QY I .here (V4 hko _) wT<|QMW 4 I ?_
   refine QA (VT I I O O O)<|wB 2 I<|Qg<|QMY 3 I<|QA (Qn I I O)<|wB 2 I ?_
   exact Qj (⟨i2.j+1,i2.o.set (i.i+i2.j) _,_,O,hst⟩:QCl a b i.i) (by show b.length-(i2.j+1)<b.length-i2.j;omega) wY QKK w7
  have hjn:i2.j=b.length:=wi<|QLs hc
  have hko2:i.i+n'<i2.o.length:=O;have hrow:Wz a b (i.i+1) 0 0 (i2.o.set (i.i+n') i2.c) 0:=by
   have e:=i2.h;rw[hjn]at e;have:=e.row hia rfl
   rwa [nb]at this
  have hz:Qb i2.o (i.i+n')=0:=i2.h.2.2.1 _ O;refine JK ?_;refine wA 4 I<|QA (Qc I Qd)<|QA (Qn I I O)<|wB 3 I<|QA (Qc I Qd)<|QA (Qn I I O)<|QA (Qm (i:=i.i+n') rfl rfl Qd QY O)<|QA (Xh (c:=i2.o.map Qs) (T':=3) rfl QY .here (BQ hko2))<|QJm I<|QA (Qn I I O)<|QA (Qm (i:=i.i+n') rfl rfl Qd QY O)<|QV (vs:=[_]) I I I QY I .here (V4 hko2 _) wT<|QF<|Qg<|QMY 3 I<|QA (Qn I I O)<|wB 2 I ?_
  exact Qj (⟨i.i+1,i2.o.set (i.i+n') i2.c,O,hrow⟩:QCm a b) (by show a.length-(i.i+1)<a.length-i.i;omega) wW (by rw[hz,iU];exact lC _) w7
 refine JK ?_;refine QG ?_;have hex:a.length<=i.i:=wi<|QLs hc
 have hol:i.o.length=a.length+b.length:=i.h.1;have hr:Q6 3 1 (.slice (some ⟨bk,0,none⟩) (n+n') (n+n')) (n+n') (i.o.map Qs) [(bk,.cells (i.o.map Qs).toArray 3 (0,0))]:=by
  have:=Q6.some (T:=3) (sz:=1) (b:=bk) (n:=n+n') (cap:=n+n') (l:=i.o.map Qs) (rest:=[]) wy wy (ax _) (ae (show n+n'<=200000000 by omega) wk);simpa using this
 obtain⟨r,hv,hrn,hrc,hfix⟩:=Q6.fix (w0:=w) (F0:=F) (bs1:=[]) (G:=λF=>JJ F ⟨q,n,c⟩ a/\JJ F ⟨q',n',c'⟩ b) hr;have hlz:=XQ i.o;refine Da hfix ?_;rw[hv];refine wA 2 I<|QL I (λ_ _ f k=>Vy (r:=r) (l:=i.o) f ⟨by rw[hrn];exact k.2,by rw[hrn];omega,O⟩ O) λc71=>wR I<|QU ?_
 exact QM ((⟨r.q,(Qx i.o).length,r.cap⟩,Qx i.o):Sr×List Int) rfl (wO I) rfl λF h=>⟨h.2,i.h.2.1.Qx,by show dv B9 (Qx i.o)=_;rw[Ju];exact i.h.stop hex,XN _,by show(Qx i.o).length<=_;omega⟩
structure QC3(a:List Int)(d:Int) where
 k:Nat
 o:List Int
 r:Int
 le:k<=a.length
 len:o.length=a.length
 dg:DG B9 o
 r0:0<=r
 r1:r<d
 h:dv B9 (a.drop k)=d*dv B9 (o.drop k)+r
theorem set_drop{p:Nat}(h:p<o.length)(v:Int):(o.set p v).drop p=v::o.drop (p+1):=by
 simp_all[aC,congr,ba]
theorem xQ{r d x:Int}(r0:0<=r)(r1:r<d)(hd:d<B9)(hx:0<=x/\x<B9):0<=r*B9+x/\0<=(r*B9+x)/d/\(r*B9+x)/d<B9/\0<=(r*B9+x)%d/\(r*B9+x)%d<d:=by
 have h0:0<=r*B9:=bA r0 wk;refine⟨O,bZ O O,bT O ?_,bh _ O,aT _ O⟩;have h1:(r+1)*B9<=d*B9:=ao O wk
 grind
theorem dE{a:List Int}{d r s:Int}{p:Nat}(hp:p<a.length)(ho:p<o.length)(h:dv B9 (a.drop (p+1))=d*dv B9 (o.drop (p+1))+r)(hs:s=r*B9+Qb a p):
  dv B9 (a.drop p)=d*dv B9 ((o.set p (s/d)).drop p)+s%d:=by
 rw[set_drop ho,aC hp,<-Xz hp];simp;have e:=bS s d
 grind
theorem Br{a:List Int}{d:Int}(hF:Fits F w)(hA:JJ F ra a)(da:DG B9 a)(la:a.length<=100000000)(d0:0<d)(d1:d<B9):
  QS prog 334 [ra.v,.int .i64 d] w F (λ(c:(Sr×List Int)×Int)=>.tuple [.slice c.1.1.q c.1.1.n c.1.1.cap,.int .i64 c.2].toArray) (λc F=>JJ F c.1.1 c.1.2/\DG B9 c.1.2/\NZ c.1.2/\0<=c.2/\c.2<d/\dv B9 a=d*dv B9 c.1.2+c.2/\c.1.2.length<=a.length):=by
 obtain⟨q,n,c⟩:=ra;have na:=hA.2.1;dsimp only at na;have h9:B9=1000000000:=rfl;refine QS.go (G:=λF=>JJ F ⟨q,n,c⟩ a) func334 hF hA ?_;dsimp only[Sr.v];refine wA 9 I<|QA (Qc I Qd)<|K5 (n:=n) (bytes:=8) rfl rfl Qd QY HZ I WR O O λbk=>?_
 rw[show JL [au .i64 0] n=(aH a.length (0:Int)).map Qs by rw[ZM,na];simp[Qs]];refine QMW 12 I<|QA (Qc I Qd)<|QA (Jg I I O)<|wR I<|QQ ?_
 refine Xr (ι:=QC3 a d) (λi=>[(0,.slice q n c),(1,.int .i64 d),(6,.slice (some ⟨bk,0,none⟩) n n),(7,.int .i64 i.r),(8,.int .i64 ((i.k:Int)-1))]) (λi=>[(bk,.cells (i.o.map Qs).toArray 3 (0,0))]) (λ_ F=>JJ F ⟨q,n,c⟩ a) (λi=>i.k)
  ⟨n,aH a.length 0,0,O,wv,DG.replicate Q3 _,eG _,d0,by rw[bL O,bL wy];simp[dv]⟩ wX QKK w7 λi=>?_
 have hile:=i.le;have hol:=i.len;have hr0:=i.r0;have hr1:=i.r1;refine wA 7 I ?_;refine QO I (λhc=>?_) λhc=>?_
 ·have hk0:0<i.k:=wi<|QLr hc
  have hka:i.k-1<a.length:=O;have hko:i.k-1<i.o.length:=O;have bx:=da.Qb Q3 (i.k-1);have bd:=xQ hr0 hr1 d1 bx;rw[h9]at bd;have hst:=dE (d:=d) (r:=i.r) (s:=i.r*1000000000+Qb a (i.k-1)) hka hko (by rw[show i.k-1+1=i.k by omega];exact i.h) rfl;refine ZO _ (λ_ _ f h=>h.1.ptr (by dsimp only;omega)) (λhq=>?_);obtain⟨qb,qo,hq⟩:=hq;dsimp only at hq;subst hq;refine QMX 7 I<|QA (VV I I O)<|wB 2 I<|QA (Qm (i:=i.k-1) rfl wN Qd QY O)<|QA (XS (n:=n) (sz:=1) (cs:=a.map Qs) rfl QY w8 O (JP hka))<|QA (Qn I I O)<|QMW 9 I<|QA (VT I I O O O)<|QA (Qm (i:=i.k-1) rfl wN Qd QY O)<|QV (vs:=[_]) I I I QY I .here (V4 hko _) wT<|QMW 5 I<|QA (Y8 I I O O)<|wB 2 I<|Qg<|QMY 3 I<|QA (Jg I I O)<|wB 2 I ?_
  exact Qj (⟨i.k-1,i.o.set (i.k-1) ((i.r*1000000000+Qb a (i.k-1))/d),(i.r*1000000000+Qb a (i.k-1))%d,O,by simpa using hol,i.dg.set _ bd.2.1 bd.2.2.1,bd.2.2.2.1,bd.2.2.2.2,hst⟩:QC3 a d) (by show i.k-1<i.k;omega) ⟨rfl,rfl,rfl,rfl,congrArg (λz:Int=>some (au .i64 z)) (by dsimp only;omega),trivial⟩ QKK w7
 refine JK ?_;refine QG ?_;have hex:i.k=0:=wi<|QLs hc
 have hr:Q6 3 1 (.slice (some ⟨bk,0,none⟩) n n) n (i.o.map Qs) [(bk,.cells (i.o.map Qs).toArray 3 (0,0))]:=by
  have:=Q6.some (T:=3) (sz:=1) (b:=bk) (n:=n) (cap:=n) (l:=i.o.map Qs) (rest:=[]) wy wy (ax _) (ae (show n<=200000000 by omega) wk);simpa using this
 obtain⟨r,hv,hrn,hrc,hfix⟩:=Q6.fix (w0:=w) (F0:=F) (bs1:=[]) (G:=λF=>JJ F ⟨q,n,c⟩ a) hr;have hlz:=XQ i.o;have hfin:=i.h;rw[hex,aK,aK]at hfin;refine Da hfix ?_;rw[hv];refine wA 2 I<|QL I (λ_ _ f k=>Vy (r:=r) (l:=i.o) f ⟨by rw[hrn];exact k.2,by rw[hrn];omega,O⟩ O) λc37=>QMW 6 I ?_
 exact X4 (((⟨r.q,(Qx i.o).length,r.cap⟩,Qx i.o),i.r):(Sr×List Int)×Int) rfl (wP I I) rfl λF h=>⟨h.2,i.dg.Qx,XN _,hr0,hr1,by show _=d*dv B9 (Qx i.o)+i.r;rw[Ju];exact hfin,by show(Qx i.o).length<=_;omega⟩
theorem gk{v:List Int}{n:Nat}{r:Int}(h:Kx B9 u v n)(t0:0<=t)(e:t*Qb v (n+1)+r=Qb u (n+2)*B9+Qb u (n+1))(hc:r*B9+Qb u n<t*Qb v n):dv B9 u<t*dv B9 v:=by
 obtain⟨a1,a2,a3⟩:=ZV wk h.hu h.lu;obtain⟨b1,b2,b3⟩:=Ye wk h.hv h.lv;rw[a1,b1];refine E2 b2 a3 (pow_pos Q3 n) t0 ?_;rw[<-e]
 grind
def QBv{v:List Int}{n:Nat}(h:Kx B9 u v n)(ht:B9<=t):dv B9 u<t*dv B9 v:=by
 have h0:=Qw wk h.hv;have h1:=ao ht h0;have:=h.lt;omega
theorem j0{v:List Int}{n:Nat}(h:Kx B9 u v n)(t0:0<=t)(ht:Qb u (n+2)*B9+Qb u (n+1)<(t+1)*Qb v (n+1)):dv B9 u<(t+1)*dv B9 v:=by
 obtain⟨a1,a2,a3⟩:=ZV wk h.hu h.lu;obtain⟨b1,b2,b3⟩:=Ye wk h.hv h.lv;rw[a1,b1];refine E2 b2 a3 (pow_pos Q3 n) O ?_;have d1:=h.hu.Qb Q3 n;have d2:=h.hv.Qb Q3 n;have e1:0<=(t+1)*Qb v n:=bA O d2.1;have e2:(Qb u (n+2)*B9+Qb u (n+1)+1)*B9<=(t+1)*Qb v (n+1)*B9:=ao O wk
 grind
theorem yu{v:List Int}{n:Nat}{r:Int}(h:Kx B9 u v n)(t0:0<=t)(t1:t<B9)(e:t*Qb v (n+1)+r=Qb u (n+2)*B9+Qb u (n+1))(hc:t*Qb v n<=r*B9+Qb u n):(t-1)*dv B9 v<=dv B9 u:=by
 obtain⟨a1,a2,a3⟩:=ZV wk h.hu h.lu;obtain⟨b1,b2,b3⟩:=Ye wk h.hv h.lv;rw[a1,b1];have d2:=h.hv.Qb Q3 n;have d3:1*B9<=Qb v (n+1)*B9:=ao (wi h.nz) wk;refine SP (pow_pos Q3 n) b3 a2 t0 ?_ O b2;rw[<-e]
 grind
def Xb(h:k<o.length):(o.map Qs++rest)[0+k*1]?=some (.int .i64 (Qb o k)):=by
 rw[bm,if_pos wy];exact BQ h
def I5{l l':List Value}{n:Nat}(h:Yz l n vs l'):Yz (l++rest) n vs (l'++rest):=by
 induction h with
 |nil=>exact .nil
 |here h ih=>exact .here ih
 |skip h ih=>exact .skip ih
def Z5(h:k<o.length)(x:Int):Yz (o.map Qs++rest) (0+k*1) [.int .i64 x] ((o.set k x).map Qs++rest):=I5 (V4 h x)
def Ar(u v:List Int)(t:Int):Prop:=0<=t/\t<B9/\(t-1)*dv B9 v<=dv B9 u/\dv B9 u<(t+1)*dv B9 v
structure GuI(u v:List Int)(m:Nat) where
 t:Int
 r:Int
 t0:0<=t
 r0:0<=r
 r1:r<B9
 t2:t<=1000000000000000000
 e:t*Qb v (m+1)+r=Qb u (m+2)*B9+Qb u (m+1)
 h:dv B9 u<(t+1)*dv B9 v
theorem MI{U:List Int}{j:Nat}(h:k<m):Qb ((U.drop j).take m) k=Qb U (j+k):=by
 by_cases g:j+k<U.length
 ·rw[Xz wy,Xz g];simp
 rw[G2 wy,G2 O]
def AW{v:List Int}{n:Nat}{r:Int}(h:Kx B9 u v n)(t0:0<=t)(e:t*Qb v (n+1)+r=Qb u (n+2)*B9+Qb u (n+1))(hr:B9<=r)(hu:dv B9 u<(t+1)*dv B9 v):Ar u v t:=by
 have ht:=h.top wk;have d0:=h.hu.Qb Q3 n;have d1:=h.hu.Qb Q3 (n+1);have d2:=h.hv.Qb Q3 n;have hn:=h.nz;have e1:Qb u (n+2)*B9<=Qb v (n+1)*B9:=ao ht wk;have t1:t<B9:=by
  refine Int.not_le.1 λhc=>?_;have e2:B9*Qb v (n+1)<=t*Qb v (n+1):=ao hc O;rw[aq]at e2;omega
 refine⟨t0,t1,yu h t0 t1 e ?_,hu⟩;have e3:t*Qb v n<=B9*B9:=eR O O d2.1 wk;have e4:B9*B9<=r*B9:=ao hr wk;omega
theorem Nc{v:List Int}(hu:DG B9 u)(t0:0<=t)(h:dv B9 u<t*dv B9 v):0<=t-1:=by
 have:=Qw (b:=B9) wk hu;rcases fb 0 t with g | g
 ·omega
 have e:t=0:=O;subst e;rw[Int.zero_mul]at h;omega
theorem OB{w0:World}{F0:Gs}{G:Gs->Prop}{bs:List (Nat×Obj)}{bu nu cu j:Nat}{rv:Sr}{U v:List Int}(hU:U.length=nu)(hj:j+m+3<=nu)(hn:nu<=1000000000)(hG:∀F,G F->JJ F rv v)(hS:Kx B9 ((U.drop j).take (m+3)) v m):
  YQ prog 336 [.slice (some ⟨bu,0,none⟩) nu cu,rv.v,.int .i64 (j:Int)] ⟨w0,F0,(bu,.cells (U.map Qs++rest).toArray 3 (0,0))::bs,G⟩ (λt:Int=>.int .i64 t) (λt=>⟨w0,F0,(bu,.cells (U.map Qs++rest).toArray 3 (0,0))::bs,λF=>G F/\Ar ((U.drop j).take (m+3)) v t⟩):=by
 obtain⟨q,n,c⟩:=rv;have hlv:=hS.lv;have h9:B9=1000000000:=rfl;have u2:Qb ((U.drop j).take (m+3)) (m+2)=Qb U (j+(m+2)):=MI O;have u1:Qb ((U.drop j).take (m+3)) (m+1)=Qb U (j+(m+1)):=MI O;have u0:Qb ((U.drop j).take (m+3)) m=Qb U (j+m):=MI O;have b2:=hS.hu.Qb Q3 (m+2);have b1:=hS.hu.Qb Q3 (m+1);have b0:=hS.hu.Qb Q3 m;have c1:=hS.hv.Qb Q3 (m+1);have c0:=hS.hv.Qb Q3 m;have nz:=hS.nz;refine YQ.intro func336 rfl rfl rfl rfl ?_;dsimp only[Sr.v];refine ZO _ (λ_ F f h=>(hG F h).2.1) (λhnv=>?_);dsimp only at hnv;obtain rfl:n=m+2:=O;refine ZO _ (λ_ F f h=>(hG F h).1.ptr (by dsimp only;omega)) (λhq=>?_);obtain⟨qb,qo,hq⟩:=hq;dsimp only at hq;subst hq;refine wA 8 I<|QA (Qc I Qd)<|wR I<|QG<|JE QKK mixed wj<|QJ (QC I)<|QJ (QC I)<|QJ (QC I)<|QJ (Qn I I O)<|QJ (Qm (i:=j+(m+2)) I wN Qd QY O)<|QJ (Xh (v:=.int .i64 (Qb ((U.drop j).take (m+3)) (m+2))) (c:=U.map Qs++rest) (T':=3) rfl QY .here (by rw[u2];exact Xb O))<|QJ (VV I I O)<|QJ (QC I)<|QJ (QC I)<|QJ (QC I)<|QJ (Qn I I O)<|QJ (Jg I I O)<|QJ (Qm (i:=j+(m+1)) I wN Qd QY O)<|QJ (Xh (v:=.int .i64 (Qb ((U.drop j).take (m+3)) (m+1))) (c:=U.map Qs++rest) (T':=3) rfl QY .here (by rw[u1];exact Xb O))<|QJ (Qn I I O)<|QJ (QE I)<|Qy<|QD<|QG<|JE QKK mixed wj<|QJ (QC I)<|QJ (QC I)<|QJ (QC I)<|QJ (Jg I I O)<|QJ (Qm (i:=m+1) rfl wN Qd QY O)<|QJ (XS (n:=m+2) (sz:=1) (cs:=v.map Qs) rfl QY (λF h=>(hG F h).1) O (JP (show m+1<v.length by omega)))<|QJ (VT I I O O O) ?_
 refine QJ (QC I)<|QJ (QC I)<|QJ (QC I)<|QJ (Jg I I O)<|QJ (Qm (i:=m+1) rfl wN Qd QY O)<|QJ (XS (n:=m+2) (sz:=1) (cs:=v.map Qs) rfl QY (λF h=>(hG F h).1) O (JP (show m+1<v.length by omega)))<|QJ (Y8 I I O O)<|QJ (QE I)<|QJ (QE I)<|Qy<|QMY 3 I ?_
 refine Xr (ι:=GuI ((U.drop j).take (m+3)) v m) (λi=>[(0,.slice (some ⟨bu,0,none⟩) nu cu),(1,.slice (some ⟨qb,qo,none⟩) (m+2) c),(2,.int .i64 (j:Int)),(7,.int .i64 ((m+2:Nat):Int)),(9,.int .i64 i.t),(10,.int .i64 i.r)]) (λ_=>(bu,.cells (U.map Qs++rest).toArray 3 (0,0))::bs) (λ_=>G) (λi=>i.t.toNat)
  ⟨(Qb ((U.drop j).take (m+3)) (m+2)*1000000000+Qb ((U.drop j).take (m+3)) (m+1))/Qb v (m+1),(Qb ((U.drop j).take (m+3)) (m+2)*1000000000+Qb ((U.drop j).take (m+3)) (m+1))%Qb v (m+1),bZ O O,bh _ O,iX (aT _ nz) c1.2,Int.le_trans (Int.ediv_le_self (a:=(Qb ((U.drop j).take (m+3)) (m+2)*1000000000+Qb ((U.drop j).take (m+3)) (m+1))) _ O) O,by rw[aq,lz];exact bS _ _,j0 hS (bZ O O) (Int.lt_ediv_add_one_mul_self _ nz)⟩ wY QKK w7 λi=>?_
 have t0:=i.t0;have r0:=i.r0;have r1:=i.r1;have t2:=i.t2;refine QG<|QG<|JE QKK mixed wj<|QJ (QC I)<|QJ (QP I I I)<|QJ (QC I) ?_
 refine KH (t:=44) rfl (λhb44=>?_) λhb44=>?_
 ·refine Q7 I I I<|Q7 I I I<|Q7 I I I<|Q7 I I I<|Q7 I I I<|Q7 I I I<|Q7 I I I<|Q7 I I I<|Q7 I I I<|Q7 I I I<|Q7 I I I<|Q7 I I I<|Q7 I I I<|Q7 I I I<|Q7 I I I<|Q7 I I I<|Q7 I I I<|Q7 I I I<|QJ (QR I I I)<|Qy<|QD<|Jv I ?_
  have hl:dv B9 ((U.drop j).take (m+3))<i.t*dv B9 v:=QBv hS (wi<|QLr hb44);refine QMX 6 I<|QA (Jg I I O)<|QMW 8 I<|QA (Jg I I O)<|QA (Qm (i:=m+1) rfl wN Qd QY O)<|QA (XS (n:=m+2) (sz:=1) (cs:=v.map Qs) rfl QY (λF h=>(hG F h).1) O (JP (show m+1<v.length by omega)))<|QA (Qn I I O)<|QMW 9 I ?_
  refine QO I (λhc=>?_) λhc=>?_
  ·refine wA 6 I<|ZS ?_
   exact G5 (i.t-1) rfl (wO I) rfl λw h=>h.imp QKK λF h=>⟨h,AW (r:=i.r+Qb v (m+1)) hS (Nc hS.hu t0 hl) (by rw[bz,aR,<-i.e];omega) (wi<|QLr hc) (by rw[ew];exact hl)⟩
  refine QN<|Qg ?_
  exact Qj (⟨i.t-1,i.r+Qb v (m+1),(Nc hS.hu t0 hl),O,wi<|QLs hc,O,(by rw[bz,aR,<-i.e];omega),(by rw[ew];exact hl)⟩:GuI ((U.drop j).take (m+3)) v m) (by show(i.t-1).toNat<i.t.toNat;have:=(Nc hS.hu t0 hl);omega) wY QKK w7
 have tb:i.t<B9:=wi<|QLs hb44
 have p0:0<=i.t*Qb v m:=bA t0 c0.1;have p1:i.t*Qb v m<=1000000000*1000000000:=eR O O c0.1 wk;refine JA I I<|QJ (QC I)<|JA I I<|QJ (QC I)<|JA I I<|QJ (QC I)<|JA I I<|QJ (Jg I I O)<|JA I I<|QJ (Qm (i:=m) rfl wN Qd QY O)<|JA I I<|QJ (XS (n:=m+2) (sz:=1) (cs:=v.map Qs) rfl QY (λF h=>(hG F h).1) O (JP (show m<v.length by omega)))<|JA I I<|QJ (VV I I O)<|JA I I<|QJ (QC I)<|JA I I<|QJ (VV I I O)<|JA I I<|QJ (QC I)<|JA I I<|QJ (QC I)<|JA I I<|QJ (QC I)<|JA I I<|QJ (Qn I I O)<|JA I I<|QJ (Jg I I O)<|JA I I<|QJ (Qm (i:=j+m) rfl wN Qd QY O)<|JA I I<|QJ (Xh (v:=.int .i64 (Qb ((U.drop j).take (m+3)) (m))) (c:=U.map Qs++rest) (T':=3) rfl QY .here (by rw[u0];exact Xb O))<|JA I I<|QJ (Qn I I O)<|JA I I<|QJ (QP I I I)<|QJ (QT I I I)<|Qy<|QD ?_
 refine QO I (λhc=>?_) λhc=>?_
 ·have hl:dv B9 ((U.drop j).take (m+3))<i.t*dv B9 v:=gk hS t0 i.e (by have:=QLr hc;rw[h9];omega);refine QMX 6 I<|QA (Jg I I O)<|QMW 8 I<|QA (Jg I I O)<|QA (Qm (i:=m+1) rfl wN Qd QY O)<|QA (XS (n:=m+2) (sz:=1) (cs:=v.map Qs) rfl QY (λF h=>(hG F h).1) O (JP (show m+1<v.length by omega)))<|QA (Qn I I O)<|QMW 9 I ?_
  refine QO I (λhc=>?_) λhc=>?_
  ·refine wA 6 I<|ZS ?_
   exact G5 (i.t-1) rfl (wO I) rfl λw h=>h.imp QKK λF h=>⟨h,AW (r:=i.r+Qb v (m+1)) hS (Nc hS.hu t0 hl) (by rw[bz,aR,<-i.e];omega) (wi<|QLr hc) (by rw[ew];exact hl)⟩
  refine QN<|Qg ?_
  exact Qj (⟨i.t-1,i.r+Qb v (m+1),(Nc hS.hu t0 hl),O,wi<|QLs hc,O,(by rw[bz,aR,<-i.e];omega),(by rw[ew];exact hl)⟩:GuI ((U.drop j).take (m+3)) v m) (by show(i.t-1).toNat<i.t.toNat;have:=(Nc hS.hu t0 hl);omega) wY QKK w7
 refine JK ?_;refine wA 7 I ?_;exact G5 (i.t) rfl (wO I) rfl λw h=>h.imp QKK λF h=>⟨h,⟨t0,tb,yu hS t0 tb i.e (by have:=QLs hc;rw[h9];omega),i.h⟩⟩
end Go.Proofs.YtphlgddkpboamaaGreatDoor
namespace Ig
structure Mq(b:Int)(U v:List Int)(j:Nat)(t:Int)(i:Nat)(U':List Int)(br:Int):Prop where
 len:U'.length=U.length
 dg:DG b U'
 lo:U'.take j=U.take j
 hi:U'.drop (j+i)=U.drop (j+i)
 br0:0<=br
 br1:br<=b
 h:dv b U'+b^j*(t*dv b (v.take i))=dv b U+b^(j+i)*br
def Mq.start{b:Int}(hb:0<=b){U v:List Int}(hU:DG b U)(j:Nat)(t:Int):Mq b U v j t 0 U 0 :=
 ⟨rfl,hU,rfl,rfl,eG _,hb,wv⟩
def CR{l:List Int}{p k:Nat}:Qb (l.drop p) k=Qb l (p+k):=by
 by_cases g:p+k<l.length
 ·rw[Xz wy,Xz g];simp
 rw[G2 wy,G2 O]
def ZA{l m:List Int}{p q:Nat}(h:l.drop p=m.drop p)(hq:p<=q):Qb l q=Qb m q:=by
 have:=congrArg (λx=>Qb x (q-p)) h;simp only[CR]at this;rw[show p+(q-p)=q by omega]at this;exact this
def jH{b t x br:Int}(hb:1<b)(ht:0<=t/\t<b)(hx:0<=x/\x<b)(h:0<=br/\br<=b):0<=t*x/\t*x<=(b-1)*(b-1)/\0<=(t*x+br)/b/\(t*x+br)/b<b:=by
 have h0:=bA ht.1 hx.1;have h1:t*x<=(b-1)*(b-1):=eR O O hx.1 O;refine⟨h0,h1,bZ O O,bT O ?_⟩;have e:(b-1)*(b-1)=b*b-2*b+1:=by grind
 omega
def Mq.step{b:Int}{U v U':List Int}{j i:Nat}{t br x br':Int}(h:Mq b U v j t i U' br)(hj:j+i<U.length)
  (hx:0<=x/\x<b) (hbr:br'<=b/\0<=br') (e:x-b*br'=Qb U (j+i)-(t*Qb v i+br)):Mq b U v j t (i+1) (U'.set (j+i) x) br':=by
 obtain⟨h1,h2,h3,h4,h5,h6,h7⟩:=h;have hd:Qb U' (j+i)=Qb U (j+i):=ZA h4 (ax _);refine⟨by simpa using h1,h2.set _ hx.1 hx.2,?_,?_,hbr.2,hbr.1,?_⟩
 ·rw[aG O];exact h3
 ·rw[ba O,<-bj,<-aF,h4,aF]
 rw[Wq b O,hd,Kt,<-bj,aX];have e':b^(j+i)*(x-b*br')=b^(j+i)*(Qb U (j+i)-(t*Qb v i+br)):=by rw[e]
 rw[eE]at *
 generalize b^i=p at *
 generalize b^j=q at *
 grind
structure P3(b:Int)(U v:List Int)(j n:Nat)(t:Int)(U':List Int)(top:Int):Prop where
 len:U'.length=U.length
 dg:DG b (U'.set (j+n) 0)
 lo:U'.take j=U.take j
 hi:U'.drop (j+n+1)=U.drop (j+n+1)
 tp:Qb U' (j+n)=top
 h:dv b U'=dv b U-b^j*(t*dv b v)
def Mq.stop{b:Int}(hb:1<b){U v U':List Int}{j n:Nat}{t br:Int}(h:Mq b U v j t n U' br)(hn:v.length=n)(hj:j+n<U.length):P3 b U v j n t (U'.set (j+n) (Qb U (j+n)-br)) (Qb U (j+n)-br):=by
 obtain⟨h1,h2,h3,h4,h5,h6,h7⟩:=h;have hd:Qb U' (j+n)=Qb U (j+n):=ZA h4 (ax _);refine⟨by simpa using h1,?_,?_,?_,?_,?_⟩
 ·rw[iM];exact h2.set _ (eG _) O
 ·rw[aG O];exact h3
 ·rw[ba O,<-aF,h4,aF]
 ·rw[KP O,if_pos rfl]
 rw[Wq b O,hd];rw[ah O]at h7;generalize b^(j+n)=p at *
 generalize b^j=q at *
 grind
def Xp(b:Int)(l:List Int)(j:Nat):dv b l=dv b (l.take j)+b^j*dv b (l.drop j):=by
 by_cases h:j<=l.length
 ·exact Ys b l j h
 rw[ah O,fK O];simp
def P3.part{b:Int}(hb:0<b){U v U':List Int}{j n:Nat}{t top:Int}(h:P3 b U v j n t U' top):dv b (U'.drop j)=dv b (U.drop j)-t*dv b v:=by
 have e:=h.h;rw[Xp b U' j,Xp b U j,h.lo]at e;have hp:=pow_pos hb j;have e2:b^j*dv b (U'.drop j)=b^j*(dv b (U.drop j)-t*dv b v):=by
  rw[bW];generalize b^j*dv b (U'.drop j)=x at *;generalize b^j*dv b (U.drop j)=y at *;omega
 exact fF O e2
def Bk{l:List Int}{j n:Nat}(h:j+n<l.length):l.drop j=(l.drop j).take n++Qb l (j+n)::l.drop (j+n+1):=by
 have e:(l.drop j).drop n=Qb l (j+n)::l.drop (j+n+1):=by
  rw[aF,XL h]
 rw[<-e,bO]
def Fq{b:Int}(hb:1<b){U:List Int}{k n:Nat}(hU:DG b U)(h:dv b (U.drop k)<b^n):dv b (U.drop (k+n))=0:=by
 have e:=Xp b (U.drop k) n;rw[aF]at e;have h1:=Qw (b:=b) O ((hU.drop k).take n);have h2:=Qw (b:=b) O (hU.drop (k+n));have hp:=pow_pos (b:=b) O n;rcases fb 0 (dv b (U.drop (k+n)))with g | g
 ·have:b^n*1<=b^n*dv b (U.drop (k+n)):=ai O O;rw[fk]at this;omega
 omega
def P3.sign{b:Int}(hb:1<b){U v U':List Int}{j n:Nat}{t top:Int}(h:P3 b U v j n t U' top)(hz:dv b (U.drop (j+n+1))=0)(hj:j+n<U.length):
  ∃lo,0<=lo/\lo<b^n/\dv b (U'.drop j)=lo+b^n*top:=by
 have hlen:=h.len;have hw:=Bk (l:=U') (j:=j) (n:=n) O;refine⟨dv b ((U'.drop j).take n),?_,?_,?_⟩
 ·have:DG b ((U'.drop j).take n):=by
   have:=((h.dg.drop j).take n);rw[eV,if_neg O,bI,aG (ax _)]at this;exact this
  exact Qw O this
 ·have:DG b ((U'.drop j).take n):=by
   have:=((h.dg.drop j).take n);rw[eV,if_neg O,bI,aG (ax _)]at this;exact this
  have h2:=Zh (by omega:0<b) this;rw[show((U'.drop j).take n).length=n by simp;omega]at h2;exact h2
 have e:=congrArg (dv b) hw;rw[Xx,YL,h.hi,hz,h.tp,show((U'.drop j).take n).length=n by simp;omega]at e;simpa using e
def P3.gp{b:Int}(hb:1<b){U v U':List Int}{j n:Nat}{t top:Int}(h:P3 b U v j n t U' top)(hj:j+n<U.length)(h0:0<=top)(ht:top<b)
  (g:dv b (U.drop j)<(t+1)*dv b v):DG b U'/\dv b (U'.drop j)<dv b v/\dv b U'=dv b U-b^j*(t*dv b v):=by
 have hp:=h.part O;refine⟨?_,?_,h.h⟩
 ·have e:U'=(U'.set (j+n) 0).set (j+n) top:=by
   rw[iM];have:=h.tp;rw[Xz (by rw[h.len];exact hj)]at this;rw[<-this,List.set_getElem_self]
  rw[e];exact h.dg.set _ h0 ht
 rw[hp];rw[bJ,aR]at g;omega
structure BY(b:Int)(U v:List Int)(j n i:Nat)(U':List Int)(c:Int):Prop where
 len:U'.length=U.length
 dg:DG b (U'.set (j+n) 0)
 lo:U'.take j=U.take j
 hi:U'.drop (j+i)=U.drop (j+i)
 c0:0<=c
 c1:c<=1
 h:dv b U'+b^(j+i)*c=dv b U+b^j*dv b (v.take i)
def BY.start{b:Int}{U v:List Int}{j n:Nat}(hU:DG b (U.set (j+n) 0)):BY b U v j n 0 U 0 :=
 ⟨rfl,hU,rfl,rfl,eG _,O,wv⟩
def BY.step{b:Int}{U v U':List Int}{j n i:Nat}{c x c':Int}(h:BY b U v j n i U' c)(hi:i<n)(hj:j+n<U.length)
  (hx:0<=x/\x<b) (hc:0<=c'/\c'<=1) (e:x+b*c'=Qb U (j+i)+Qb v i+c):BY b U v j n (i+1) (U'.set (j+i) x) c':=by
 obtain⟨h1,h2,h3,h4,h5,h6,h7⟩:=h;have hd:Qb U' (j+i)=Qb U (j+i):=ZA h4 (ax _);refine⟨by simpa using h1,?_,?_,?_,hc.1,hc.2,?_⟩
 ·rw[List.set_comm _ _ O];exact h2.set _ hx.1 hx.2
 ·rw[aG O];exact h3
 ·rw[ba O,<-bj,<-aF,h4,aF]
 rw[Wq b O,hd,Kt,<-bj,aX];have e':b^(j+i)*(x+b*c')=b^(j+i)*(Qb U (j+i)+Qb v i+c):=by rw[e]
 rw[eE]at *
 generalize b^i=p at *
 generalize b^j=q at *
 grind
def BY.Qb{b:Int}(hb:1<b){U v U':List Int}{j n i:Nat}{c:Int}(h:BY b U v j n i U' c)(hi:i<n):0<=Qb U' (j+i)/\Qb U' (j+i)<b:=by
 have:=h.dg.Qb O (j+i);by_cases g:j+n<U'.length
 ·rw[KP g,if_neg O]at this;exact this
 rw[List.set_eq_of_length_le O]at this;exact this
def BY.gp{b:Int}(hb:1<b){U v U1 U':List Int}{j n:Nat}{t top c:Int}(h:BY b U1 v j n n U' c)(hs:P3 b U v j n t U1 top)(hU:DG b U)(hv:DG b v)(hn:v.length=n)(hz:dv b (U.drop (j+n+1))=0)(hj:j+n<U.length)(h0:top<0)
  (g:(t-1)*dv b v<=dv b (U.drop j)):DG b (U'.set (j+n) (top+c))/\dv b ((U'.set (j+n) (top+c)).drop j)<dv b v/\dv b (U'.set (j+n) (top+c))=dv b U-b^j*((t-1)*dv b v)/\0<=t-1/\(U'.set (j+n) (top+c)).length=U.length:=by
 obtain⟨lo,l0,l1,l2⟩:=hs.sign hb hz hj;have hp:=hs.part O;have hlen:=hs.len;obtain⟨a1,a2,a3,a4,a5,a6,a7⟩:=h;have hd:Ig.Qb U' (j+n)=top:=by rw[ZA a4 (ax _),hs.tp]
 rw[ah O]at a7;have hv0:=Qw (b:=b) O hv;have hv1:=Zh (b:=b) O hv;rw[hn]at hv1;have hB:=pow_pos (b:=b) O n;have hw:dv b (U'.set (j+n) (top+c))=dv b U-b^j*((t-1)*dv b v):=by
  rw[Wq b O,hd];have e:=hs.h;generalize b^(j+n)=p at *
  generalize b^j=q at *
  grind
 have hlo:(U'.set (j+n) (top+c)).take j=U.take j:=by
  rw[aG O,a3,hs.lo]
 have hpart:dv b ((U'.set (j+n) (top+c)).drop j)=dv b (U.drop j)-(t-1)*dv b v:=by
  have e:=hw;rw[Xp b _ j,Xp b U j,hlo]at e;have hq:=pow_pos (b:=b) O j;have e2:b^j*dv b ((U'.set (j+n) (top+c)).drop j)=b^j*(dv b (U.drop j)-(t-1)*dv b v):=by
   rw[bW];generalize b^j*dv b ((U'.set (j+n) (top+c)).drop j)=x at *;generalize b^j*dv b (U.drop j)=y at *;omega
  exact fF O e2
 have hneg:dv b (U1.drop j)<0:=by
  rw[l2];have:b^n*top<=b^n*(-1):=ai O O;omega
 have hlt:dv b ((U'.set (j+n) (top+c)).drop j)<dv b v:=by
  rw[hpart,bz,aR];omega
 have hge:0<=dv b ((U'.set (j+n) (top+c)).drop j):=by rw[hpart];omega
 have hsd:dv b ((U'.set (j+n) (top+c)).drop j)=dv b ((U'.drop j).take n)+b^n*(top+c):=by
  have hw2:=congrArg (dv b) (Bk (l:=U'.set (j+n) (top+c)) (j:=j) (n:=n) wy);have e3:(U'.set (j+n) (top+c)).drop (j+n+1)=U'.drop (j+n+1):=ba O;rw[Xx,YL,KP (show j+n<U'.length by omega),if_pos rfl,e3]at hw2;have:dv b (U'.drop (j+n+1))=0:=by
   rw[<-aF,a4,aF,hs.hi];exact hz
  have e2:((U'.set (j+n) (top+c)).drop j).take n=(U'.drop j).take n:=by
   rw[eV,if_neg O,bI,aG (ax _)]
  rw[this,e2,show((U'.drop j).take n).length=n by simp;omega]at hw2;simpa using hw2
 have hdg:DG b ((U'.drop j).take n):=by
  have:=((a2.drop j).take n);rw[eV,if_neg O,bI,aG (ax _)]at this;exact this
 have d0:=Qw (b:=b) O hdg;have d1:=Zh (b:=b) O hdg;rw[show((U'.drop j).take n).length=n by simp;omega]at d1;have ht0:top+c=0:=by
  rw[hsd]at hlt hge;have q1:¬1<=top+c:=λq=>by
   have:b^n*1<=b^n*(top+c):=ai q O;omega
  have q2:¬top+c<=-1:=λq=>by
   have:b^n*(top+c)<=b^n*(-1):=ai q O;omega
  omega
 refine⟨?_,hlt,hw,?_,wy⟩
 ·rw[ht0];exact a2
 rcases fb (t-1) 0 with q | q
 ·exfalso;have u0:=Qw (b:=b) O (hU.drop j);have:t*dv b v<=0:=Int.mul_nonpos_of_nonpos_of_nonneg O hv0;omega
 exact q
end Ig
namespace Go.Proofs.YtphlgddkpboamaaGreatDoor
variable{w w':World}{q:Option Addr}{b la lb o u:List Int}{α γ ι:Type}{a s:List UInt8}{cap i k m:Nat}{t z:Int}{x y:Operand}{F F':Gs}{P:Program}{f:FuncId}{args cs rest vs:List Value}{T e ty:TypeId}{vh:Option Value}{bs' ob:List (Nat×Obj)}{fn:Func}{c:UInt8}{E':Env}{g g':Bg}{ra rb:Sr}
open Go.RowKit Ig
def el{α:Type}[Inhabited α](l:List α)(i:Nat):α:=l.getD i default
theorem ZH[Inhabited α]{l:List α}{i:Nat}(h:i<l.length):el l i=l[i]:=by simp[el,h]
theorem Q2[Inhabited α]{l:List α}{i:Nat}(h:i<l.length):el l i∈l:=by grind[ZH,fh]
theorem JR[Inhabited α]{f:α->List Value}{k:Nat}(hf:∀x,(f x).length=k){l:List α}{i j:Nat}{u:Value}(h:i<l.length)(hj:(f (el l i))[j]?=some u):(l.flatMap f)[i*k+j]?=some u:=by
 grind[aW,AZ,ZH]
def Jo[Inhabited α]{f:α->Value}{l:List α}{i:Nat}(h:i<l.length):(l.map f)[i*1]?=some (f (el l i)):=by
 rw[Nat.mul_one,List.getElem?_map,fC h,ZH h];rfl
def ZB[Inhabited α]{l:List α}{i:Nat}(h:i<l.length):l.take (i+1)=l.take i++[el l i]:=by
 rw[aD h,ZH h]
def Gj[Inhabited α]{l:List α}{i:Nat}(h:i<l.length):l.drop i=el l i::l.drop (i+1):=by
 rw[aC h,ZH h]
def WO{l:List Int}(h:i<l.length):Qb l i=el l i:=by rw[Xz h,ZH h]
def vZ(q:Option Addr):Nat:=(q.getD ⟨0,0,none⟩).block
def vY(q:Option Addr):Nat:=(q.getD ⟨0,0,none⟩).off
section
variable[Dr][df:Df]{P:Program}{Q:Exit->Act->World->Prop}{N:Nat}{m:Sl}{E E0:Env}{ops:Array Oper}{l:List Oper}{w0:World}{F0:Gs}{bs:List (Nat×Obj)}{G:Gs->Prop}{ty:TypeId}
theorem Qo{n c sz sz':Nat}{g:Bool}(i:Nat)(hr:∀F,G F->JC F q n sz' cs)(hx:ev m x=some (.slice q n c))(hy:ev m y=some (.int .i64 (i:Int)))(hT:GI P T=some e)(hs:ZZ P e=some (g,sz))(hi:i<n):
  Qt P N m (St ⟨w0,F0,bs,G⟩) (.indexAddr T x y) ty (.pointer (some ⟨vZ q,vY q+i*sz,none⟩)):=λa w _ _ _ _ ha hw=>by
 obtain⟨F,hF⟩:=id hw;obtain⟨b,off,rfl⟩:=(hr F hF.hG).ptr O;exact Qm hx hy hT hs hi a w _ _ _ _ ha hw
theorem Ql{n sz:Nat}(j:Nat){u:Value}(hr:∀F,G F->JC F q n sz cs)(hn:0<n)(hx:ev m x=some (.pointer (some ⟨vZ q,vY q+j,none⟩)))(ht:ZZ P T=some (false,k))(hu:cs[j]?=some u):
  Qt P N m (St ⟨w0,F0,bs,G⟩) (.load T x) ty u:=λa w _ _ _ _ ha hw=>by
 obtain⟨F,hF⟩:=id hw;obtain⟨b,off,rfl⟩:=(hr F hF.hG).ptr hn;exact XS hx ht hr hn hu a w _ _ _ _ ha hw
theorem XE{n sz:Nat}(j:Nat)(hr:∀F,G F->JC F q n sz cs)(hn:0<n)(hx:ev m x=some (.pointer (some ⟨vZ q,vY q+j,none⟩)))(ht:ZZ P T=some (true,k))(hl:vs.length=k)(hu:∀i v,vs[i]?=some v->cs[j+i]?=some v):
  Qt P N m (St ⟨w0,F0,bs,G⟩) (.load T x) ty (.agg vs.toArray):=λa w _ _ _ _ ha hw=>by
 obtain⟨F,hF⟩:=id hw;obtain⟨b,off,rfl⟩:=(hr F hF.hG).ptr hn;exact FP hx ht hr hn hl hu a w _ _ _ _ ha hw
theorem YZ.append{m:Sl}:∀ {k l:Sl},YZ m k->YZ m l->YZ m (k++l)
 |[],_,_,h=>h
 |(_,_)::_,_,⟨h1,h2⟩,h=>⟨h1,YZ.append h2 h⟩
theorem XC{c:Code}(K:Sl)(M:ι->Sl)(B:ι->List _)(R:ι->Gs->Prop)(μ:ι->Nat)(i0:ι)
  (hk:YZ m K) (hm:YZ m (M i0)) (hb:(B i0).Sublist bs) (hg:∀F,G F->R i0 F)
  (round:∀i,J P c (Exit.then (Au N w0 F0 (λi=>K++M i) B (λi F=>G F/\R i F) μ i) Q) N (K++M i) ⟨w0,F0,B i,λF=>G F/\R i F⟩):J P (.loop c) Q N m ⟨w0,F0,bs,G⟩ :=
 Xr (λi=>K++M i) B (λi F=>G F/\R i F) μ i0 (hk.append hm) hb (λF h=>⟨h,hg F h⟩) round
theorem Jt{c:Code}(K:Sl)(M:ι->Sl)(μ:ι->Nat)(i0:ι)(hk:YZ m K)(hm:YZ m (M i0))
  (round:∀i,J P c (Exit.then (Au N w0 F0 (λi=>K++M i) (λ_=>bs) (λ_=>G) μ i) Q) N (K++M i) ⟨w0,F0,bs,G⟩):J P (.loop c) Q N m ⟨w0,F0,bs,G⟩ :=
 Xr (λi=>K++M i) (λ_=>bs) (λ_=>G) μ i0 (hk.append hm) QKK w7 round
theorem Xq{x y:Code}(K M:Sl)(hk:YZ m K)(h1:J P x (XW λa w=>JY N (K++M) a/\St ⟨w0,F0,bs,G⟩ w) N m ⟨w0,F0,bs,G⟩)(h2:J P y Q N (K++M) ⟨w0,F0,bs,G⟩):J P (.seq x y) Q N m ⟨w0,F0,bs,G⟩ :=
 kS _ _ _ h1 h2
theorem EK{x y:Code}(K:Sl)(M:ι->Sl)(B:ι->List _)(R:ι->Gs->Prop)(hk:YZ m K)(h1:J P x (XW λa w=>∃i,JY N (K++M i) a/\St ⟨w0,F0,B i,λF=>G F/\R i F⟩ w) N m ⟨w0,F0,bs,G⟩)
  (h2:∀i,J P y Q N (K++M i) ⟨w0,F0,B i,λF=>G F/\R i F⟩):J P (.seq x y) Q N m ⟨w0,F0,bs,G⟩ :=
 MN (λi=>K++M i) B (λi F=>G F/\R i F) h1 h2
end
def SZ:(1:Int)<B9:=wk
theorem PV{n:Nat}(db:DG B9 b)(zb:NZ b)(hn:b.length=n+1):1<=Qb b n/\1<=B9/(Qb b n+1)/\B9/(Qb b n+1)<B9/\B9/(Qb b n+1)*(Qb b n+1)<=B9:=by
 have hd:=db.Qb Q3 n;have h1:1<=Qb b n:=by
  have hlt:n<b.length:=O;have:Qb b n≠0:=by
   intro e;refine zb ?_;rw[eB,hn,er,fC hlt];rw[Xz hlt]at e;rw[e]
  omega
 have h9:B9=1000000000:=rfl;refine⟨h1,?_,?_,Int.ediv_mul_le _ O⟩
 ·exact(Int.le_ediv_iff_mul_le O).2 O
 exact bT O (by rw[eF];have:B9*1<=B9*Qb b n:=ai h1 O;omega)
theorem Oh{v:List Int}{n:Nat}{f:Int}(db:DG B9 b)(zb:NZ b)(hn:b.length=n+1)(dv':DG B9 v)(zv:NZ v)(h:dv B9 v=dv B9 b*f)(h1:1<=f)(h2:f*(Qb b n+1)<=B9):v.length=n+1:=by
 have hlt:n<b.length:=O;have e1:dv B9 b=dv B9 (b.take n)+B9^n*Qb b n:=by
  have:=Kt B9 b n;rw[ah O]at this;exact this
 have e2:=Zh Q3 (db.take n);rw[show(b.take n).length=n by simp;omega]at e2;have hb0:B9^n<=dv B9 b:=by
  have:=By Q3 db zb (by intro e;rw[e]at hn;simp at hn);rw[hn,er]at this;exact this
 have hp:=pow_pos Q3 n;have hup:dv B9 b<B9^n*(Qb b n+1):=by rw[eF,fk];omega
 have hv1:dv B9 v<B9^(n+1):=by
  rw[h,aX];have:dv B9 b*f<B9^n*(Qb b n+1)*f:=fy hup O;have q:B9^n*(Qb b n+1)*f<=B9^n*B9:=by
   rw[eW,aq (Qb b n+1)];exact ai h2 O
  omega
 have hv0:B9^n<=dv B9 v:=by
  rw[h];have:dv B9 b*1<=dv B9 b*f:=ai h1 O;omega
 rcases Nat.lt_trichotomy v.length (n+1)with g | g | g
 ·have h3:=Zh Q3 dv';have h4:=Ig.YI (b:=B9) wk (show v.length<=n by omega);omega
 ·exact g
 have h3:=By Q3 dv' zv (by intro e;rw[e]at g;simp at g);have h4:=Ig.YI (b:=B9) wk (show n+1<=v.length-1 by omega);omega
def gK{b:Int}(hb:0<b){U:List Int}{k:Nat}(hU:DG b U):b^k*dv b (U.drop k)<=dv b U:=by
 rw[Xp b U k];have:=Qw hb (hU.take k);omega
structure H6(a v:List Int)(f:Int)(n:Nat) where
 k:Nat
 U:List Int
 Q:List Int
 le:k+n<=a.length+1
 lu:U.length=a.length+1
 lq:Q.length=a.length+1-n
 du:DG B9 U
 dq:DG B9 Q
 lt:dv B9 (U.drop k)<dv B9 v
 h:dv B9 a*f=dv B9 v*(B9^k*dv B9 (Q.drop k))+dv B9 U
def H6.start{a b v U:List Int}{f:Int}{n:Nat}(da:DG B9 a)(db:DG B9 b)(zb:NZ b)(hn:b.length=n+1)(hv:dv B9 v=dv B9 b*f)(h1:1<=f)(du:DG B9 U)(lu:U.length=a.length+1)(hU:dv B9 U=dv B9 a*f)(hl:n+1<=a.length+1):H6 a v f (n+1) where
 k:=a.length+1-(n+1)
 U:=U
 Q:=aH (a.length+1-(n+1)) 0
 le:=O
 lu:=lu
 lq:=wv
 du:=du
 dq:=DG.replicate Q3 _
 lt:=by
  have hb0:B9^n<=dv B9 b:=by
   have:=By Q3 db zb (by intro e;rw[e]at hn;simp at hn);rw[hn,er]at this;exact this
  have h2:=gK Q3 (k:=a.length-n) du;have h3:=Zh Q3 da;have h4:dv B9 a*f<B9^a.length*f:=fy h3 O;have h5:B9^a.length*f=B9^(a.length-n)*(B9^n*f):=by rw[<-eW,<-eE];congr 2;omega
  rw[hU]at h2;have h6:B9^(a.length-n)*dv B9 (U.drop (a.length-n))<B9^(a.length-n)*(B9^n*f):=O;have h7:dv B9 (U.drop (a.length-n))<B9^n*f:=fD h6 (wi<|pow_pos Q3 (a.length-n));have h8:B9^n*f<=dv B9 b*f:=ao hb0 O;rw[show a.length+1-(n+1)=a.length-n by omega,hv];omega
 h:=by
  rw[fK wv,Pr,fN,fN,iU,hU]
def H6.zero{a v:List Int}{f:Int}{n:Nat}(i:H6 a v f n)(dv':DG B9 v)(hv:v.length=n):dv B9 (i.U.drop (i.k+n))=0:=by
 have:=Zh Q3 dv';rw[hv]at this;exact Fq SZ i.du (iX i.lt this)
theorem H6.Lx{a v:List Int}{f:Int}(i:H6 a v f (m+2))(dv':DG B9 v)(zv:0<Qb v (m+1))(hv:v.length=m+2)(hk:0<i.k):Kx B9 ((i.U.drop (i.k-1)).take (m+3)) v m/\dv B9 (i.U.drop (i.k-1))=dv B9 ((i.U.drop (i.k-1)).take (m+3)):=by
 have hz:=i.zero dv' hv;have hle:=i.le;have hlu:=i.lu;have e:dv B9 (i.U.drop (i.k-1))=dv B9 ((i.U.drop (i.k-1)).take (m+3)):=by
  have:=Xp B9 (i.U.drop (i.k-1)) (m+3);rw[aF,show i.k-1+(m+3)=i.k+(m+2) by omega,hz]at this;simpa using this
 refine⟨⟨(i.du.drop _).take _,dv',wy,hv,zv,?_⟩,e⟩;rw[<-e,XL O,YL,show i.k-1+1=i.k by omega];have hd:=i.du.Qb Q3 (i.k-1);have hlt:=i.lt;have:B9*dv B9 (i.U.drop i.k)<=B9*(dv B9 v-1):=ai O wk;rw[bW,fk]at this;omega
def H6.next{a v:List Int}{f:Int}{n:Nat}(i:H6 a v f n)(hk:0<i.k)(hn:0<n){U1:List Int}{t:Int}(t0:0<=t)(t1:t<B9)(h1:DG B9 U1)(h2:dv B9 (U1.drop (i.k-1))<dv B9 v)(h3:dv B9 U1=dv B9 i.U-B9^(i.k-1)*(t*dv B9 v))(h4:U1.length=i.U.length):H6 a v f n where
 k:=i.k-1
 U:=U1
 Q:=i.Q.set (i.k-1) t
 le:=wi i.le
 lu:=by rw[h4,i.lu]
 lq:=by rw[ay,i.lq]
 du:=h1
 dq:=i.dq.set _ t0 t1
 lt:=h2
 h:=by
  have hle:=i.le;have hlq:=i.lq;rw[h3,XL (l:=i.Q.set (i.k-1) t) (by rw[ay];omega),YL,KP O,if_pos rfl,ba O,show i.k-1+1=i.k by omega,i.h];have e:B9^i.k=B9^(i.k-1)*B9:=by rw[<-aX];congr 1;omega
  rw[e];generalize B9^(i.k-1)=p;generalize dv B9 (i.Q.drop i.k)=q;generalize dv B9 i.U=u;generalize dv B9 v=y;generalize B9=B
  grind
theorem H6.stop{a v:List Int}{f:Int}{n:Nat}(i:H6 a v f n)(hk:i.k=0)(db:DG B9 b)(da:DG B9 a)(hv:dv B9 v=dv B9 b*f)(h1:1<=f)(hb:0<dv B9 b)(dv':DG B9 v)(lv:v.length=n):
  dv B9 i.Q=dv B9 a/dv B9 b/\dv B9 (i.U.take n)=f*(dv B9 a%dv B9 b):=by
 have h:=i.h;have lt:=i.lt;rw[hk,aK]at lt;have hz:=i.zero dv' lv;rw[hk,aV]at hz;have e0:dv B9 (i.U.take n)=dv B9 i.U:=by
  rw[Xp B9 i.U n,hz];simp
 rw[hk,aK,iV,aR,hv]at h;rw[hv]at lt;have u0:=Qw Q3 i.du;rw[e0];have e1:dv B9 i.U=f*(dv B9 a-dv B9 b*dv B9 i.Q):=by rw[bW];grind
 have lt2:f*(dv B9 a-dv B9 b*dv B9 i.Q)<f*dv B9 b:=by rw[<-e1,aq f (dv B9 b)];exact lt
 have r1:dv B9 a-dv B9 b*dv B9 i.Q<dv B9 b:=fD lt2 O;have r0:0<=dv B9 a-dv B9 b*dv B9 i.Q:=by
  rcases fb (dv B9 a-dv B9 b*dv B9 i.Q) 0 with g | g
  ·have:f*(dv B9 a-dv B9 b*dv B9 i.Q)<=f*(-1):=ai O O;omega
  exact g
 have q:dv B9 a/dv B9 b=dv B9 i.Q:=Xy hb (by rw[aq];omega) (by rw[bJ,aR,aq];omega);refine⟨q.symm,?_⟩;rw[e1];have:=iZ (dv B9 a) (dv B9 b);rw[this,q]
section
variable[Dr][df:Df]{P:Program}{Q:Exit->Act->World->Prop}{N:Nat}{m:Sl}{ops:Array Oper}{l:List Oper}{w0:World}{F0:Gs}{bs:List (Nat×Obj)}{G:Gs->Prop}{ty:TypeId}{pos:String}{aft:Array Edge}
theorem Ky{d:Nat}{t:TypeId}{sz:Nat}{g:Bool}(ht:P.underlying t=some (.slice e))(hs:ZZ P e=some (g,sz))(k:∀b,JS P ops Q l N ((d,.slice (some ⟨b,0,none⟩) 0 0)::m) ⟨w0,F0,(b,.cells #[] e (0,0))::bs,G⟩)(hu:GX e=true:=by rfl)(hd:J1 N (some d)=true:=by rfl):
  JS P ops Q (⟨some d,.buildSlice t 0 #[],ty,pos,aft,none⟩::l) N m ⟨w0,F0,bs,G⟩:=λa w ha hw=>wpList_plain rfl λK hK=>by
 refine upon_value (v:=.slice (some ⟨w.heap.size,0,none⟩) 0 0) (w':=w.alloc (.cells #[] e)) ?_ (hK _ _ (k _ _ _ (ha.put hd _) (hw.alloc _ (ZD hu))));have hrun:(ij t 0 #[]).run P w = .ok (.slice (some ⟨w.heap.size,0,none⟩) 0 0) (w.alloc (.cells #[] e)):=by
  have hf:lA (λi=>some (i*sz,sz)) (Array.map (λx=>(#[]:Array Value)[x%(#[]:Array Value).size]!) (Array.range 0)) []=some #[]:=by simp[lA]
  simp only[ij,fQ,run_underlying ht,eX,Ym hs,eY,if_neg (show ¬0>2^24 by omega),fP,if_true,hf,newRow,run_newObj];rfl
 simp[execOp,hrun]
theorem U9{e':TypeId}{sz n:Nat}{v:Value}{S:World->Prop}(hx:ev m x=some v)(hr:Q6 e' sz v n cs ob)(hT:GI P T=some e):Qt P N m S (.call ⟨.builtin .len,#[x],#[T]⟩) ty (.int .i64 n):=by
 cases hr with
 |nil=>exact Qc hx hT
 |some=>exact Qc hx hT
theorem Q6.big{sz n:Nat}{v:Value}(hr:Q6 T sz v n cs ob)(hn:0<n):∃b cap rest,v = .slice (iH ⟨b,0,eN⟩) n cap/\ob=[(b,.cells (cs++rest).toArray T (0,0))]/\n<=cap:=by
 cases hr with
 |nil=>exact absurd hn (iL 0)
 |some h1 h2 h3 h4=>exact⟨_,_,_,rfl,rfl,h3⟩
theorem Src.QF1{sz b off c:Nat}{news:List Value}(hr:∀F,G F->JC F (some ⟨b,off,none⟩) k sz news)(hk:0<k)(hl:news.length=k*sz):Src ⟨w0,F0,bs,G⟩ sz (.slice (.some ⟨b,off,none⟩) k c) k news :=
 ⟨hl,.inr ⟨_,_,rfl,λw hw j v hv=>by rw[WS];exact Yl hw hr hk hv⟩⟩
end
theorem JJ.own{b n c:Nat}{l:List Int}(h:F b=some ((l.map Qs++rest).toArray,T))(hl:l.length=n)(hn:n<=c):JJ F ⟨some ⟨b,0,none⟩,n,c⟩ l:=by
 refine⟨⟨by simp[hl],λ_=>⟨b,0,_,T,rfl,h,λj u hu=>?_⟩⟩,hl,hn⟩;have hj:j<(l.map Qs).length:=by rcases aW j (l.map Qs).length with g | g;exact g;rw[bQ g]at hu;cases hu
 rw[aV,aS,bm,if_pos hj];exact hu
theorem JJ.QF9{b n c:Nat}{l:List Int}(h:F b=some ((l.map Qs).toArray,T))(hl:l.length=n)(hn:n<=c):JJ F ⟨some ⟨b,0,none⟩,n,c⟩ l:=JJ.own (rest:=[]) (by rw[eI];exact h) hl hn
def JJ.one{b:Nat}{x:Int}(h:F b=some (([au .i64 x]:List Value).toArray,T)):JJ F ⟨some ⟨b,0,none⟩,1,1⟩ [x]:=⟨JC.of h rfl,rfl,ax _⟩
def JJ.take{n c:Nat}{l:List Int}(h:JJ F ⟨q,n,c⟩ l)(hk:k<=n):JJ F ⟨q,k,c⟩ (l.take k):=by
 have hn:=h.2.1;have hc:=h.2.2;dsimp only at hn hc;exact⟨h.1.take hn hk,wy,by show k<=c;omega⟩
theorem Kq{l m:List Int}(hl:DG B9 l)(hm:DG B9 m)(zl:NZ l)(h:dv B9 l<=dv B9 m):l.length<=m.length:=by
 rcases aW m.length l.length with g | g
 ·have:=XH SZ hm hl zl g;omega
 exact g
def UU(x:Int):dv B9 [x]=x:=by simp[dv]
theorem OC{f x r:Int}(hf:0<f)(h:f*x=f*r+t)(h0:0<=t)(h1:t<f):r=x:=by
 have e:t=f*(x-r):=by rw[bW];omega
 rcases eZ (x-r) 0 with g | g | g
 ·have:f*(x-r)<=f*(-1):=ai O O;omega
 ·omega
 have:f*1<=f*(x-r):=ai O O;omega
def kb(a b:List Int)(c:(Sr×List Int)×(Sr×List Int))(F:Gs):Prop :=
 (JJ F c.1.1 c.1.2/\DG B9 c.1.2/\NZ c.1.2/\dv B9 c.1.2=dv B9 a/dv B9 b)/\(JJ F c.2.1 c.2.2/\DG B9 c.2.2/\NZ c.2.2/\dv B9 c.2.2=dv B9 a%dv B9 b)
theorem ja{a:List Int}(nb:b.length=1)(db:DG B9 b)(c:(Sr×List Int)×Int){k:Nat}
  (h:JJ F c.1.1 c.1.2/\DG B9 c.1.2/\NZ c.1.2/\0<=c.2/\c.2<Qb b 0/\dv B9 a=Qb b 0*dv B9 c.1.2+c.2/\c.1.2.length<=a.length) (h':JJ F ⟨some ⟨k,0,none⟩,(Qx [c.2]).length,1⟩ (Qx [c.2])) :
  kb a b ((c.1.1,c.1.2),(⟨some ⟨k,0,none⟩,(Qx [c.2]).length,1⟩,Qx [c.2])) F:=by
 obtain⟨h1,h2,h3,h4,h5,h6,_⟩:=h;have e:dv B9 b=Qb b 0:=by
  obtain⟨x,rfl⟩:=List.length_eq_one_iff.1 nb;simp[dv,Qb]
 have b0:=db.Qb Q3 0;refine⟨⟨h1,h2,h3,?_⟩,h',(DG.cons h4 O (DG.nil _)).Qx,XN _,?_⟩
 ·show dv B9 c.1.2=_;rw[e];exact(Xy O (by rw[aq];omega) (by rw[bJ,aR,aq];omega)).symm
 show dv B9 (Qx [c.2])=_;rw[Ju,UU,e,ZK (q:=dv B9 c.1.2) (by rw[aq];omega) (by rw[bJ,aR,aq];omega),aq];omega
structure QHl(a:List Int)(f:Int) where
 U:List Int
 v:Value
 ob:List (Nat×Obj)
 le:U.length<=a.length+1
 du:DG B9 U
 h:dv B9 U=dv B9 a*f
 hr:Q6 3 1 v U.length (U.map Qs) ob
structure QHh(U v:List Int)(j:Nat)(t:Int) where
 i:Nat
 U':List Int
 br:Int
 le:i<=v.length
 h:Mq B9 U v j t i U' br
structure QHy(U v:List Int)(j n:Nat) where
 i:Nat
 U':List Int
 c:Int
 le:i<=n
 h:Ig.BY B9 U v j n i U' c
@[reducible] def QFk (c:(Sr×List Int)×(Sr×List Int)):Value:=.tuple #[.slice c.1.1.q c.1.1.n c.1.1.cap,.slice c.2.1.q c.2.1.n c.2.1.cap]
set_option maxHeartbeats 4000000 in
theorem V0{a:List Int}(hF:Fits F w)(hA:JJ F ra a)(hB:JJ F rb b)(da:DG B9 a)(db:DG B9 b)(za:NZ a)(zb:NZ b)(hb:0<dv B9 b)(la:a.length<=10000000)(lb:b.length<=10000000):
  QS prog 254 [ra.v,rb.v] w F QFk (λc F=>kb a b c F):=by
 obtain⟨q,n,c⟩:=ra;obtain⟨q',n',c'⟩:=rb;have na:=hA.2.1;have nb:=hB.2.1;dsimp only at na nb;have h9:B9=1000000000:=rfl;have nb0:0<n':=by
  rcases bH n' with g | g
  ·rw[g]at nb;rw[bU nb]at hb;simp at hb
  exact g
 dsimp only[Sr.v];refine QS.go (G:=λF=>JJ F ⟨q,n,c⟩ a/\JJ F ⟨q',n',c'⟩ b) func254 hF ⟨hA,hB⟩ ?_;refine wA 11 I<|QL I (λ_ _ f k=>Vh f (ra:=⟨q,n,c⟩) (rb:=⟨q',n',c'⟩) k.1 (k.2) (da) (db) (za) (zb) O O) λ_=>QMW 3 I ?_
 refine QO I (λhc=>?_) λhc=>?_
 ·have hlt:dv B9 a<dv B9 b:=by have:=QLr hc;unfold YY at this;split at this;assumption;split at this<;>omega
  refine wA 8 I ?_;exact X4 (((⟨none,0,0⟩,[]),(⟨q,n,c⟩,a)):(Sr×List Int)×(Sr×List Int)) I (wP I I) (rfl) λF h9=>⟨⟨⟨JC.nil F _ _,rfl,ax _⟩,DG.nil _,by simp[NZ],by rw[Pr];exact(fO (Qw Q3 da) hlt).symm⟩,h9.1.1,da,za,(iw (Qw Q3 da) hlt).symm⟩
 have hge:dv B9 b<=dv B9 a:=by have:=QLs hc;unfold YY at this;split at this;exact absurd this wk;omega
 refine QMX 6 I<|QA (Qc I Qd)<|QMW 3 I ?_
 refine QO I (λhc=>?_) λhc=>?_
 ·have hn1:n'=1:=wi<|QLr hc
  subst hn1;obtain⟨f1,_⟩:=PV (n:=0) db zb nb;have bx:=db.Qb Q3 0;have d0:=bx.2;refine wA 4 I<|QA (Qo (n:=1) (0) (λF h9=>(h9.1.2).1) rfl wN Qd QY O)<|QA (Ql (n:=1) ((0)*1) (λF h9=>(h9.1.2).1) O rfl QY (JP (o:=b) O))<|QL I (λ_ _ f k=>Br f (ra:=⟨q,n,c⟩) k.1.1 (da) O O (d0)) λc37=>QMW 8 I<|ZO _ (λ_ _ f k=>k.2.2) λp37=>wA 3 I<|JG I (J2 Qd) QY HZ I I λb42=>QL I (λ_ _ f k=>Vy f (r:=⟨some ⟨b42,0,none⟩,1,1⟩) (JJ.one k.2) wv) λc43=>QMW 5 I ?_
  exact X4 (((c37.1.1,c37.1.2),(⟨some ⟨b42,0,none⟩,(Qx [c37.2]).length,1⟩,Qx [c37.2])):(Sr×List Int)×(Sr×List Int)) I (wP I I) (rfl) λF h9=>ja nb db c37 h9.1.1.2 h9.2
 have hn2:n'≠1:=λe=>QLs hc O;obtain⟨m,rfl⟩:∃m,n'=m+2:=⟨n'-2,O⟩;obtain⟨f1,f2,f3,f4⟩:=PV (n:=m+1) db zb nb;have bx:=db.Qb Q3 (m+1);rw[h9]at bx f2 f3 f4;have d1f:DG B9 [1000000000/(Qb b (m+1)+1)]:=DG.cons O f3 (DG.nil _);refine QMX 6 I<|QA (Qc I Qd)<|QA (Jg I I O)<|QA (Qo (n:=(m+2)) (m+1) (λF h9=>(h9.1.2).1) rfl wN Qd QY O)<|QA (Ql (n:=(m+2)) ((m+1)*1) (λF h9=>(h9.1.2).1) O rfl QY (JP (o:=b) O))<|QA (Qn I I O)<|QA (VT I I O O O)<|JG I (J2 Qd) QY HZ I I λb52=>QMW 7 I ?_
 refine QL I (λ_ _ f k=>Vz f (ra:=⟨q',m+2,c'⟩) (rb:=⟨some ⟨b52,0,none⟩,1,1⟩) k.1.1.2 (JJ.one k.2) (db) (d1f) O (by first | omega | (simp;done) | (simp;omega))) (λc55=>?_);rcases c55 with ⟨v55,l55⟩;dsimp only;refine XA _ (λw F hF ⟨⟨⟨⟨hA,hB⟩,_⟩,hs52⟩,⟨h55,h55p⟩⟩=>eU h55.2 h55p) (λp55=>wR rfl<|QG ?_);obtain⟨⟨n55,c55⟩,d55,e55,z55,m55⟩:=p55;rw[UU]at e55;have l55l:l55.length=m+2:=Oh db zb nb d55 z55 e55 f2 f4;obtain⟨qv,nv,cv⟩:=v55;dsimp only at n55 c55 ⊢;obtain rfl:nv=m+2:=O;have zv:0<Qb l55 (m+1):=wi ((PV (n:=m+1) d55 z55 l55l).1);have hlab:b.length<=a.length:=Kq db da zb hge;refine wA 2 I<|QA (Qc I Qd)<|QMW 5 I<|Ky (J2 Qd) QY λb58=>wB 2 I ?_
 refine QL I (λ_ _ f k=>Vz f (ra:=⟨q,n,c⟩) (rb:=⟨some ⟨b52,0,none⟩,1,1⟩) k.1.1.1.1 (JJ.one k.1.2) (da) (d1f) O (by first | omega | (simp;done) | (simp;omega))) (λc61=>?_);rcases c61 with ⟨v61,l61⟩;dsimp only;refine XA _ (λw F hF ⟨⟨⟨⟨⟨hA,hB⟩,_⟩,hs52⟩,⟨h55,h55p⟩⟩,⟨h61,h61p⟩⟩=>eU h61.2 h61p) (λp61=>?_);obtain⟨⟨n61,c61⟩,d61,e61,z61,m61⟩:=p61;rw[UU]at e61;have hpos:0<l61.length:=by
  rcases bH l61.length with g | g
  ·rw[bU g,Pr]at e61;have:0<dv B9 a*(1000000000/(Qb b (m+1)+1)):=Int.mul_pos O O;omega
  exact g
 obtain⟨qa,na',ca⟩:=v61;dsimp only at n61 c61 ⊢;refine XA _ (λ_ _ f h=>h.2.1.1.ptr (by dsimp only;omega)) (λhq=>?_);obtain⟨qab,qao,hq⟩:=hq;dsimp only at hq;subst hq;simp only[bP]at m61;refine Yi (bs1:=[]) (ob:=[(b58,.cells #[] 3 (0,0))]) (n:=0) (k:=na') (sz:=1) (olds:=[]) (news:=l61.map Qs) rfl rfl Qd QY HZ rfl WR (Q6.some (l:=[]) (rest:=[]) rfl rfl (ax _) (aM _)) (Src.QF1 (λF h=>h.2.1.1) O wy) O O (λv hv=>by obtain⟨x,_,rfl⟩:=List.mem_map.1 hv;rfl) (λv62 ob62 hr62=>QMW 5 I<|XC (ι:=QHl a (1000000000/(Qb b (m+1)+1))) [(0,_),(8,_),(9,_),(10,_)] (λi=>[(11,i.v)]) (λi=>i.ob) (λi F=>True) (λi=>a.length+1-i.U.length) (⟨l61,v62,ob62,O,d61,e61,by rw[n61];simpa using hr62⟩) wW wT QKK wz λi=>?_);have hle:=i.le;refine wA 4 I<|QA (U9 I i.hr Qd)<|QJm I<|QA (Qc I Qd)<|QA (Qn I I O)<|QMW 3 I ?_
 refine QO I (λhc=>?_) λhc=>?_
 ·refine QMX 5 I<|JG I (J2 Qd) QY HZ I I λb70=>?_
  refine Yi (bs1:=[]) (ob:=i.ob) (k:=1) (sz:=1) (news:=[.int .i64 0]) I I Qd QY HZ I WR i.hr (Src.row (off:=0) w9 (λj v hv=>by rw[aV];show([.int .i64 0].toArray)[j]?=some v;rw[aS];exact hv) rfl) O O (ZC wT) (λv71 ob71 hr71=>?_);refine wB 2 I<|Qg ?_
  exact Qj (⟨i.U++[0],v71,ob71,by have:=QLr hc;simp;omega,i.du.append (DG.cons wk wk (DG.nil _)),by rw[XG,i.h];simp,by simpa[Qs]using hr71⟩) (by have:=QLr hc;show a.length+1-(i.U++[0]).length<a.length+1-i.U.length;rw[ep,bP];omega) wX QKK λF h=>⟨h.1.1,trivial⟩
 refine JK ?_;refine QG ?_;have hle0:=i.le;have hU:i.U.length=a.length+1:=wi<|QLs hc
 obtain⟨U0,vU,obU,hle0,du0,hU0,hr0⟩:=i;dsimp only at hU hle0 hU0 ⊢;rw[hU]at hr0;obtain⟨bu,cu,rest,rfl,rfl,hcu⟩:=hr0.big O;refine wA 2 I<|QA (Qc I Qd)<|QJm I<|QA (Jg I I O)<|K5 (n:=a.length+1-(m+2)) (bytes:=8) wN wN Qd QY HZ I WR O O λbq=>?_
 rw[show JL [au .i64 0] (a.length+1-(m+2))=(aH (a.length+1-(m+2)) (0:Int)).map Qs by rw[ZM];simp[Qs]];refine KZ (List.Perm.swap _ _ _)<|QMW 7 I<|QA (Qc I Qd)<|QJm I<|QA (Jg I I O)<|QA (Jg I I O)<|wR I<|QQ<|XC (ι:=H6 a l55 (1000000000/(Qb b (m+1)+1)) (m+2)) [(8,_),(9,_),(10,_),(11,_),(12,_)] (λi2=>[(13,.int .i64 ((i2.k:Int)-1))]) (λi2=>[(bu,.cells (i2.U.map Qs++rest).toArray 3 (0,0)),(bq,.cells (i2.Q.map Qs).toArray 3 (0,0))]) (λi2 F=>True) (λi2=>i2.k) (H6.start da db zb nb e55 f2 du0 hU hU0 O) wX ⟨(congrArg (λz:Int=>some (au .i64 z)) (by simp only[H6.start];omega)),trivial⟩ QKK wz λi2=>?_
 have hle2:=i2.le;have lu2:=i2.lu;have lq2:=i2.lq;refine wA 7 I ?_;refine QO I (λhc=>?_) λhc=>?_
 ·have hk0:0<i2.k:=wi<|QLr hc
  rw[show((i2.k:Int)-1)=((i2.k-1:Nat):Int) by omega];obtain⟨hst,hwe⟩:=i2.Lx d55 zv l55l hk0;have hz0:=i2.zero d55 l55l;refine QMX 9 I<|S3 (bs1:=_) rfl (List.Perm.refl _) (OB (rest:=rest) (U:=i2.U) (v:=l55) (j:=(i2.k-1)) (m:=m) (rv:=⟨qv,m+2,cv⟩) lu2 O O (λF h9=>h9.1.1.1.2.1) hst) λt89=>XA _ (λ_ _ f h=>h.2) λg89=>?_
  obtain⟨t0,t1,t2,t3⟩:=g89;rw[<-hwe]at t2 t3;refine QMW 15 I<|XC (ι:=QHh i2.U l55 (i2.k-1) t89) [(8,_),(9,_),(10,_),(11,_),(12,_),(13,_),(14,_)] (λi3=>[(15,.int .i64 (i3.br)),(16,.int .i64 ((i3.i:Nat):Int))]) (λi3=>[(bu,.cells (i3.U'.map Qs++rest).toArray 3 (0,0)),(bq,.cells (i2.Q.map Qs).toArray 3 (0,0))]) (λi3 F=>True) (λi3=>l55.length-i3.i) (⟨0,i2.U,0,aM _,Mq.start wk i2.du _ _⟩) wZ wU QKK wz λi3=>?_
  have hle3:=i3.le;have lU3:=i3.h.len;have br0:=i3.h.br0;have br1:=i3.h.br1;rw[h9]at br1;refine wA 8 I ?_;refine QO I (λhc=>?_) λhc=>?_
  ·have hi3:i3.i<m+2:=wi<|QLr hc
   have bd:=jH SZ ⟨t0,t1⟩ (d55.Qb Q3 i3.i) ⟨i3.h.br0,i3.h.br1⟩;simp only[h9]at bd;have bu3:=i3.h.dg.Qb Q3 ((i2.k-1)+i3.i);rw[h9]at bu3;have hd3:Qb i3.U' ((i2.k-1)+i3.i)=Qb i2.U ((i2.k-1)+i3.i):=ZA i3.h.hi (ax _);refine QMX 9 I<|QA (Qo (n:=(m+2)) (i3.i) (λF h9=>(h9.1.1.1.1.1.2.1).1) rfl rfl Qd QY O)<|QA (Ql (n:=(m+2)) ((i3.i)*1) (λF h9=>(h9.1.1.1.1.1.2.1).1) O rfl QY (JP (o:=l55) O))<|QA (VV I I O)<|QJm I<|QA (Qn I I O)<|QMW 8 I<|QA (Qn I I O)<|QA (Qm (i:=(i2.k-1)+i3.i) rfl wN Qd QY O)<|QA (Xh (c:=(i3.U').map Qs++rest) (T':=3) rfl QY .here (Xb (by first | omega | (simp only[ay];omega))))<|QJm I<|QA (Y8 I I O O)<|QA (Jg I I O)<|QMW 6 I<|QA (VT I I O O O)<|QMW 6 I ?_
   refine QMW 4 I ?_;refine QO I (λhc=>?_) λhc=>?_
   ·have hx:=QLr hc;refine wS I<|QA (Qn I I O)<|QMW 5 I<|QA (Qn I I O)<|QMW 7 I<|QA (Qn I I O)<|QJm I<|QA (Qm (i:=(i2.k-1)+i3.i) rfl wN Qd QY O)<|QV (vs:=[_]) I I I QY I .here (Z5 (by first | omega | (simp only[ay];omega)) (((Qb (i3.U') ((i2.k-1)+i3.i)-(((t89*Qb l55 (i3.i))+i3.br)%1000000000))+1000000000))) wT<|QF<|Qg<|QMY 3 I<|QA (Qn I I O)<|wB 2 I ?_
    exact Qj (⟨i3.i+1,((i3.U').set ((i2.k-1)+i3.i) (((Qb (i3.U') ((i2.k-1)+i3.i)-(((t89*Qb l55 (i3.i))+i3.br)%1000000000))+1000000000))),((((t89*Qb l55 (i3.i))+i3.br)/1000000000)+1),O,i3.h.step O (by rw[h9];omega) (by rw[h9];omega) (by rw[h9,<-hd3];omega)⟩) (by show l55.length-(i3.i+1)<l55.length-i3.i;omega) wb QKK λF h=>⟨h.1,trivial⟩
   have hx:=QLs hc;refine QMX 6 I<|QA (Qn I I O)<|QJm I<|QA (Qm (i:=(i2.k-1)+i3.i) rfl wN Qd QY O)<|QV (vs:=[_]) I I I QY I .here (Z5 (by first | omega | (simp only[ay];omega)) ((Qb (i3.U') ((i2.k-1)+i3.i)-(((t89*Qb l55 (i3.i))+i3.br)%1000000000)))) wT<|QF<|Qg<|QMY 3 I<|QA (Qn I I O)<|wB 2 I ?_
   exact Qj (⟨i3.i+1,((i3.U').set ((i2.k-1)+i3.i) ((Qb (i3.U') ((i2.k-1)+i3.i)-(((t89*Qb l55 (i3.i))+i3.br)%1000000000)))),(((t89*Qb l55 (i3.i))+i3.br)/1000000000),O,i3.h.step O (by rw[h9];omega) (by rw[h9];omega) (by rw[h9,<-hd3];omega)⟩) (by show l55.length-(i3.i+1)<l55.length-i3.i;omega) wb QKK λF h=>⟨h.1,trivial⟩
  have hi3:i3.i=m+2:=wi<|QLs hc
  refine JK ?_;refine QG ?_;have hs3:Mq B9 i2.U l55 (i2.k-1) t89 (m+2) i3.U' i3.br:=by have:=i3.h;rw[hi3]at this;exact this
  have hd3:Qb i3.U' ((i2.k-1)+(m+2))=Qb i2.U ((i2.k-1)+(m+2)):=ZA hs3.hi (ax _);have hS:=hs3.stop SZ l55l O;rw[<-hd3]at hS;have bu4:=i2.du.Qb Q3 ((i2.k-1)+(m+2));rw[h9,<-hd3]at bu4;have htp:=hS.tp;have hz1:dv B9 (i2.U.drop ((i2.k-1)+(m+2)+1))=0:=by rw[show(i2.k-1)+(m+2)+1=i2.k+(m+2) by omega];exact hz0
  refine wA 4 I<|QA (Qn I I O)<|wB 3 I<|QA (Qn I I O)<|QA (Qm (i:=(i2.k-1)+(m+2)) I wN Qd QY O)<|QA (Xh (c:=(i3.U').map Qs++rest) (T':=3) rfl QY .here (Xb (by first | omega | (simp only[ay];omega))))<|QJm I<|QA (Jg I I O)<|QA (Qm (i:=(i2.k-1)+(m+2)) I wN Qd QY O)<|QV (vs:=[_]) I I I QY I .here (Z5 (by first | omega | (simp only[ay];omega)) ((Qb (i3.U') ((i2.k-1)+(m+2))-i3.br))) wT<|QMW 8 I<|QA (Qn I I O)<|QA (Qm (i:=(i2.k-1)+(m+2)) I wN Qd QY O)<|QA (Xh (c:=(((i3.U').set ((i2.k-1)+(m+2)) ((Qb (i3.U') ((i2.k-1)+(m+2))-i3.br)))).map Qs++rest) (T':=3) rfl QY .here (Xb (by first | omega | (simp only[ay];omega))))<|QMW 3 I ?_
  refine QO I (λhc=>?_) λhc=>?_
  ·have hneg:Qb i3.U' ((i2.k-1)+(m+2))-i3.br<0:=by have:=QLr hc;rw[htp]at this;exact this
   refine wS I<|QA (Jg I I O)<|QMW 15 I<|XC (ι:=QHy (i3.U'.set ((i2.k-1)+(m+2)) (Qb i3.U' ((i2.k-1)+(m+2))-i3.br)) l55 (i2.k-1) (m+2)) [(8,_),(9,_),(10,_),(11,_),(12,_),(13,_),(14,_)] (λi4=>[(19,.int .i64 (i4.c)),(20,.int .i64 ((i4.i:Nat):Int))]) (λi4=>[(bu,.cells (i4.U'.map Qs++rest).toArray 3 (0,0)),(bq,.cells (i2.Q.map Qs).toArray 3 (0,0))]) (λi4 F=>True) (λi4=>m+2-i4.i) (⟨0,_,0,aM _,BY.start hS.dg⟩) wZ wU QKK wz λi4=>?_
   have hle4:=i4.le;have lU4:=i4.h.len;rw[ay]at lU4;have c40:=i4.h.c0;have c41:=i4.h.c1;refine wA 8 I ?_;refine QO I (λhc=>?_) λhc=>?_
   ·have hi4:i4.i<m+2:=wi<|QLr hc
    have bu5:=i4.h.Qb SZ hi4;have bv5:=d55.Qb Q3 i4.i;rw[h9]at bu5 bv5;have hd4:=ZA i4.h.hi (ax _);refine QMX 5 I<|JE QKK mixed wj<|QJ (QC I)<|QJ (QC I)<|QJ (QC I)<|QJ (Qn I I O)<|QJ (Qm (i:=(i2.k-1)+i4.i) rfl wN Qd QY O)<|QJ (Xh (c:=(i4.U').map Qs++rest) (T':=3) rfl QY .here (Xb (by first | omega | (simp only[ay];omega))))<|QJ (QC I)<|QJ (QC I)<|QJ (Qo (n:=(m+2)) (i4.i) (λF h9=>(h9.1.1.1.1.1.1.2.1).1) rfl rfl Qd QY O)<|QJ (Ql (n:=(m+2)) ((i4.i)*1) (λF h9=>(h9.1.1.1.1.1.1.2.1).1) O rfl QY (JP (o:=l55) O))<|QJ (Qn I I O)<|QJ (QC I)<|QJ (Qn I I O)<|QJ (QE I)<|Qy<|QMY 6 I<|QA (Qn I I O)<|QJm I<|QA (Y8 I I O O)<|QA (Qm (i:=(i2.k-1)+i4.i) rfl wN Qd QY O)<|QV (vs:=[_]) I I I QY I .here (Z5 (by first | omega | (simp only[ay];omega)) ((((Qb (i4.U') ((i2.k-1)+i4.i)+Qb l55 (i4.i))+i4.c)%1000000000))) wT<|QMW 4 I<|QA (VT I I O O O)<|wB 2 I<|Qg<|QD ?_
    refine wA 2 I<|QA (Qn I I O)<|wB 2 I ?_
    exact Qj (⟨i4.i+1,((i4.U').set ((i2.k-1)+i4.i) ((((Qb (i4.U') ((i2.k-1)+i4.i)+Qb l55 (i4.i))+i4.c)%1000000000))),(((Qb (i4.U') ((i2.k-1)+i4.i)+Qb l55 (i4.i))+i4.c)/1000000000),O,i4.h.step hi4 (by rw[ay];omega) (by rw[h9];omega) O (by rw[h9,<-hd4];omega)⟩) (by show m+2-(i4.i+1)<m+2-i4.i;omega) wb QKK λF h=>⟨h.1,trivial⟩
   have hi4:i4.i=m+2:=wi<|QLs hc
   refine JK ?_;have hA4:Ig.BY B9 (i3.U'.set ((i2.k-1)+(m+2)) (Qb i3.U' ((i2.k-1)+(m+2))-i3.br)) l55 (i2.k-1) (m+2) (m+2) i4.U' i4.c:=by have:=i4.h;rw[hi4]at this;exact this
   have hd5:Qb i4.U' ((i2.k-1)+(m+2))=Qb i3.U' ((i2.k-1)+(m+2))-i3.br:=by rw[ZA hA4.hi (ax _)];exact htp
   have hS5:P3 B9 i2.U l55 (i2.k-1) (m+2) t89 (i3.U'.set ((i2.k-1)+(m+2)) (Qb i3.U' ((i2.k-1)+(m+2))-i3.br)) (Qb i4.U' ((i2.k-1)+(m+2))):=by rw[hd5];exact hS
   obtain⟨g1,g2,g3,g4,g5⟩:=hA4.gp SZ hS5 i2.du d55 l55l hz1 O (by rw[hd5];exact hneg) t2;have lU4:=i4.h.len;rw[ay]at lU4;have b5:Qb i4.U' ((i2.k-1)+(m+2))=Qb i3.U' ((i2.k-1)+(m+2))-i3.br:=hd5;refine wA 4 I<|QA (Qn I I O)<|wB 3 I<|QA (Qn I I O)<|QA (Qm (i:=(i2.k-1)+(m+2)) I wN Qd QY O)<|QA (Xh (c:=(i4.U').map Qs++rest) (T':=3) rfl QY .here (Xb (by first | omega | (simp only[ay];omega))))<|QJm I<|QA (Qn I I O)<|QA (Qm (i:=(i2.k-1)+(m+2)) I wN Qd QY O)<|QV (vs:=[_]) I I I QY I .here (Z5 (by first | omega | (simp only[ay];omega)) ((Qb (i4.U') ((i2.k-1)+(m+2))+i4.c))) wT<|QMW 6 I<|QA (Qm (i:=(i2.k-1)) I wN Qd QY O)<|QV (vs:=[_]) I I I QY I .u1 (V4 (by first | omega | (simp only[ay];omega)) ((t89-1))) wT<|QF<|Qg<|QMY 3 I<|QA (Jg I I O)<|wB 2 I ?_
   exact Qj (i2.next hk0 O (t:=t89-1) g4 O g1 g2 g3 g5) (by show i2.k-1<i2.k;omega) wY QKK λF h=>⟨h.1.1.1.1,trivial⟩
  have hneg:0<=Qb i3.U' ((i2.k-1)+(m+2))-i3.br:=by have:=QLs hc;rw[htp]at this;omega
  obtain⟨g1,g2,g3⟩:=hS.gp SZ O hneg (by rw[h9];omega) t3;refine QMX 6 I<|QA (Qm (i:=(i2.k-1)) I wN Qd QY O)<|QV (vs:=[_]) I I I QY I .u1 (V4 (by first | omega | (simp only[ay];omega)) (t89)) wT<|QF<|Qg<|QMY 3 I<|QA (Jg I I O)<|wB 2 I ?_
  exact Qj (i2.next hk0 O (t:=t89) t0 t1 g1 g2 g3 hS.len) (by show i2.k-1<i2.k;omega) wY QKK λF h=>⟨h.1.1.1,trivial⟩
 have hk0:i2.k=0:=wi<|QLs hc
 refine JK ?_;refine QG ?_;obtain⟨s1,s2⟩:=i2.stop hk0 db da e55 f2 hb d55 l55l;have lt40:=XQ (i2.U.take (m+2));rw[fg]at lt40;refine JN (b:=bu) .here<|JN (b:=bq) .here<|JE QKK mixed wj<|QJ (QC I)<|QJ (QC I)<|QJ (Tq (m+2) rfl rfl rfl Qd QY O)<|QZ I (λ_ _ f k=>Vy f (r:=⟨some ⟨bu,0,none⟩,m+2,cu⟩) ((JJ.own k.1.2 i2.lu hcu).take O) (by rw[fg];omega)) λc196=>QJ (QC I)<|QJ (Qo (n:=1) (0) (λF h9=>(JC.of (n:=1) (sz:=1) h9.1.1.1.1.1.1.2 I)) I wN Qd QY O)<|QJ (Ql (n:=1) ((0)*1) (λF h9=>(JC.of (n:=1) (sz:=1) h9.1.1.1.1.1.1.2 I)) O rfl QY I)<|QZ I (λ_ _ f k=>Br f (a:=Qx (i2.U.take (m+2))) (ra:=⟨some ⟨bu,0,none⟩,(Qx (i2.U.take (m+2))).length,cu⟩) k.2 ((i2.du.take _).Qx) O (f2) (f3)) λc200=>QJ (QC I)<|QJ (Qe I I)<|QJ (Qe I I)<|QJ (QE I)<|QJ (QE I)<|Qy<|QD<|wS I<|QL I (λ_ _ f k=>Vy f (r:=⟨some ⟨bq,0,none⟩,a.length+1-(m+2),a.length+1-(m+2)⟩) (JJ.QF9 k.1.1.2 i2.lq (ax _)) O) λc204=>QMW 6 I ?_
 exact X4 (((⟨some ⟨bq,0,none⟩,(Qx i2.Q).length,a.length+1-(m+2)⟩,Qx i2.Q),(c200.1.1,c200.1.2)):(Sr×List Int)×(Sr×List Int)) I (wP I I) (rfl) λF h9=>⟨⟨h9.2,i2.dq.Qx,XN _,by show dv B9 (Qx i2.Q)=_;rw[Ju];exact s1⟩,h9.1.2.1,h9.1.2.2.1,h9.1.2.2.2.1,OC O (by rw[<-s2,<-Ju];exact h9.1.2.2.2.2.2.2.1) h9.1.2.2.2.2.1 h9.1.2.2.2.2.2.1⟩
end Go.Proofs.YtphlgddkpboamaaGreatDoor
