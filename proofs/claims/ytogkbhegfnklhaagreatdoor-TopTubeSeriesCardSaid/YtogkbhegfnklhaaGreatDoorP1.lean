/- Steps of the proof of the theorem in the last file. -/
import Derived.Test.YtogkbhegfnklhaaGreatDoorP0
import Derived.StillTailTactics
import Derived.BigRegion
import Derived.Deep.DeepCutAuto
import Derived.Deep.CutBlock
import Derived.Lib.AppendStr
import Derived.Lib.Builder
import Derived.Shelf.Strings.Builder1
import Derived.Test.YtogkbhegfnklhaaGreatDoorChecked
import Derived.Lib.Walk
import Derived.Lib.ItoaMem
import Derived.WalkKit
import Derived.BigCall
import Derived.BigGuard
import Derived.Lib.ItoaNum
import Derived.Lib.Atoi
import Derived.Lib.Repeat
import Derived.Lib.IndexMore
import Derived.Lib.IndexBytes
set_option linter.all false
set_option maxHeartbeats 4000000
open Go.Proofs.Tryz
open Go.Lib renaming hid -> aa,decDigits -> ae,trimPrefix -> ai,run_eql_slice_nil -> ar,hasPrefix -> au,byteCells -> ay,decDigits_length -> aK,nDigits -> aQ,bitLen -> bK,zeros24 -> eQ,repeatL -> eR,decDigits_one -> fa,cut -> fy,strCells -> fN,itoa -> fY,decFrom -> fZ,byteCells_length -> hJ,byteCells_append -> ia,lt_pow_nDigits -> ir,TabIs -> iI,strCells_eq -> iL,atoi -> iQ,indexByte -> iT,pow10Tab -> jb
open Nat renaming le_trans -> af,pow_le_pow_right -> aF,le_refl -> aG,zero_add -> aM,lt_of_lt_of_le -> aR,lt_or_ge -> aS,zero_le -> aX,eq_zero_or_pos -> bB,add_mul -> bP,pow_succ -> bW,add_assoc -> ey,mod_lt -> eC,pow_le_pow_left -> eV,mul_le_mul_left -> eW,strongRecOn -> fm,mul_assoc -> fB,zero_mul -> fJ,sub_zero -> fK,mul_comm -> fL,gcd -> fM,le_of_ble_eq_true -> fO,mul_le_mul_right -> fR,add_sub_cancel -> iq,mod_eq_of_lt -> iE,lt_of_not_le -> iF,gcd_comm -> iW,ble -> iX,pow_one -> je,pow_mul -> jA,pow_add -> jS,mul_one -> jT,mul_add -> jU
open Go.Value renaming int -> ah,bool -> aj,pointer -> ax,ownBlock -> fq,slice -> iS
open List renaming take_of_length_le -> ak,length_append -> aq,length_cons -> aA,take_succ_eq_append_getElem -> aB,drop_eq_getElem_cons -> aC,eq_nil_of_length_eq_zero -> aD,take_succ_cons -> aT,drop_succ_cons -> aV,perm_append_comm_assoc -> bh,drop_zero -> bw,take_zero -> bH,drop_eq_nil_of_le -> bI,take_append_drop -> bJ,isPrefixOf -> bT,flatten_append -> bV,replicate -> ee,append_assoc -> er,append_cons -> eB,singleton_append -> eG,perm_append_comm -> eH,length_singleton -> eI,length -> eO,takeWhile_cons -> eT,flatMap_cons -> eY,getElem_mem -> fb,all_eq_true -> fc,nil_append -> fe,append_nil -> ff,isEmpty_eq_false_iff -> fz,getD -> fC,takeWhile_sublist -> fF,getElem_cons_zero -> fG,drop_of_length_le -> fH,replicate_succ' -> fP,length_flatten -> fS,dropWhile_cons -> fT,take_length -> iw,length_drop -> ix,drop -> iy,length_nil -> iG,map_cons -> iP
open Bool renaming eq_iff_iff -> ao,and_eq_true -> aw,or_eq_false_iff -> eP,not_eq_false' -> ij,not_eq_true' -> iv,or_eq_true -> iJ
open Int renaming mul_comm -> az,mul_le_mul_of_nonneg_left -> aH,mul_le_mul_of_nonneg_right -> aW,emod_lt_of_pos -> aZ,toNat_natCast -> bj,le_of_lt -> bz,emod_nonneg -> bA,neg_mul -> bS,pow_succ -> bY,tmod_lt_of_pos -> ek,natAbs_ediv_le_natAbs -> eu,gcd -> ew,mul_ne_zero -> eK,mul_ediv_add_emod -> eM,lt_trichotomy -> e8,sub_mul -> fg,mul_add -> fh,add_mul -> fi,natCast_mul -> fp,mul_nonneg -> fA,mul_ediv_cancel_left -> fD,eq_ofNat_of_zero_le -> fI,emod_add_mul_ediv -> fQ,pow_add -> fU,natAbs_of_nonneg -> fV,le_refl -> fW,ediv_nonneg -> iK,mul_assoc -> iR,neg_tmod -> iY,gcd_comm -> iZ,add_comm -> ja,one_mul -> jX,mul_sub -> jY,mul_neg -> jZ
open Go.Builtin renaming zeroCells -> aE,append_ -> ig
open Rat renaming divInt -> aY,num_intCast -> fj,den_intCast -> fk,neg_divInt_neg -> il,lt_iff -> im,divInt_ofNat -> iD,num_divInt -> iN,den_divInt -> iO,add_def' -> iV,inv_def -> jd
open UInt8 renaming ofNat -> bm
open Go.IntWalk renaming i64_in -> bD
open Go.Result renaming andThen_ok -> bF
open Array renaming size_replicate -> bL,ext' -> bZ,replicate -> iC
open And renaming intro -> bN
open Go.Utf8 renaming decode -> bO
open List.Perm renaming refl -> bQ
open Go.Value.slice renaming injEq -> bU
open UInt8.toNat renaming inj -> ep
open Go.Sem renaming run_pure -> eD,run_bind -> eE
open Go.Proofs renaming enters_of -> eF
open Option.some renaming injEq -> eL
open Go.Instr renaming sureAddr -> eN,loadAt -> eX,sliceAt -> iM,slice -> iU,next -> jc
open Go.Obj renaming cells -> eU
open Option renaming none -> eZ
open Go.RowKit.Below renaming heap_alloc -> e9
open Go.Lib.decDigits renaming eq_1 -> fu
open Go.Program renaming arrayLen -> fX
open ByteArray renaming size -> ib
open Go.World renaming ownsRow_nil -> ic
open Go.Ending renaming returned -> iu
open Go.Sort renaming grow -> iz
open Go.Extern.AbiNoEscape renaming same -> iA
open Go.Addr.mk renaming injEq -> iB
open Go.Region renaming wanted -> iH
open List.Sublist renaming cons_cons -> jV,cons -> jW
namespace Go.Proofs.YtogkbhegfnklhaaGreatDoor
variable{w w':World}{N b cap d i j k n off:Nat}{l la lb:List Int}{α γ:Type}{s:List UInt8}{a z:Int}{x y:Operand}{F F':Gs}{P:Program}{f:Obj->List (Nat×Obj)}{args cs olds:List Value}{ty yT:TypeId}{vh:Option Value}{bs' ob:List (Nat×Obj)}{G0:Gs->Prop}{fn:Func}{c:UInt8}{fr:Nat×Nat}{pos:String}{aft:Array Edge}{E':Env}{m:Sl}
open Go.RowKit Ig
structure WH(w:World)(u v pre post:List Int)(n j B bv ov:Nat):Prop where
 hB:YL w B 264 JR (pre++(u++post))
 hv:Cells w (some ⟨bv,ov,none⟩) JR v
def WH.ext{u v pre post:List Int}{B bv a:Nat}(h:WH w u v pre post n j B bv a)(k:Ext w w'):WH w' u v pre post n j B bv a :=
 ⟨h.hB.ext k,h.hv.ext k⟩
def WH.atu{u v pre post:List Int}{B bv a:Nat}(h:WH w u v pre post n j B bv a)(b:pre.length=j)(i:Nat)(hi:i<u.length):
  w.cell? ⟨B,j+i,none⟩=some (.int .u64 (Qg u i)):=by
 have h1:=h.hB.cell (i:=j+i) wv;have e:(pre++(u++post)).getD (j+i) default=Qg u i:=by
  rw[ZJ hi];subst b;simp only[fC];rw[List.getElem?_append_right O,Nat.add_sub_cancel_left,List.getElem?_append_left hi,List.getElem?_eq_getElem hi];rfl
 rw[e]at h1;exact h1
theorem WH.atv{u v pre post:List Int}{B bv a:Nat}(h:WH w u v pre post n j B bv a)(i:Nat)(hi:i<v.length):
  w.cell? ⟨bv,a+i,none⟩=some (.int .u64 (Qg v i)):=by
 obtain⟨b,o,e,_,hc⟩:=h.hv i hi;cases e;rw[Zk hi]at hc;exact hc
set_option maxRecDepth 100000 in
set_option maxHeartbeats 4000000 in
theorem O0(u v pre post:List Int)(n j B capu capv bv ov:Nat)(w:World)(h:WG u v n)(hj:pre.length=j)(hmax:n<=100000000000)
  (hM:WH w u v pre post n j B bv ov) (hne:bv≠B) :
  Calls prog 298 #[.slice (some ⟨B,j,none⟩) (n+3) capu,.slice (some ⟨bv,ov,none⟩) (n+2) capv] w λe w' =>
   (e = .returned (.int .u64 (dv W u/dv W v))/\∃u',YL w' B 264 JR (pre++(u'++post))/\u'.length=n+3/\DG W u'/\dv W u'=dv W u%dv W v)/\BL B w w':=by
 have F:=aa h.lu;have U:=aa h.lv;have HJ:=aa hj;clear hj;have hw1:IntKind.i64.wrap ((n:Int)+2-1)=(n:Int)+1:=by rw[show(n:Int)+2-1=(n:Int)+1 from by omega];exact bD _ O
 have ht1:((n:Int)+1).toNat=n+1:=O;have h01:0<=(n:Int)+1:=O;have h02:(n:Int)+1<(n:Int)+2:=O;have ht2:((n:Int)+2).toNat=n+2:=O;have h03:0<=(n:Int)+2:=O;have h04:(n:Int)+2<(n:Int)+3:=O;have h05:(n:Int)+1<(n:Int)+3:=O;have hu2:=hM.atu HJ.out (n+2) (wg F.out);have hu1:=hM.atu HJ.out (n+1) (wg F.out);have hv1:=hM.atv (n+1) (wg U.out);have du1:=JP h.hu (n+1);have du2:=JP h.hu (n+2);have dv1:=JP h.hv (n+1);go_enter func298,ntmps298
 go_wp2_with fail
 go_quiet (fail)
 go_upto_if 30 with (fail)
 go_cut [6,7,8] λq r o wx=>∃d m oo,q = .int .u64 d/\r = .int .u64 m/\o = .int .u64 oo/\Zv u v n d m oo/\Ext w wx
 case first =>
  by_cases hge:Qg v (n+1)<=Qg u (n+2)
  ·have HG:=aa (Vk.Cu h hge);have ha:=λw=>YU (Qg u (n+1)) (Qg v (n+1)) 0 du1.1 dv1.1 wj wj w;go_wp2
   go_quiet (fail)
   go_wp2
   go_meet
   exact⟨_,_,_,rfl,rfl,rfl,HG.out,(((Ext.refl w).drewN _).drewN _)⟩
  have HG:=aa (Vk.Cv h O);have hdy:Qg v (n+1)<W:=dv1.2;have hdh:0<=Qg u (n+2)/\Qg u (n+2)<Qg v (n+1):=⟨du2.1,O⟩;go_wp2
  go_region_held3 (λw'=>w'.cell? ⟨B,j+(n+2),none⟩=some (.int .u64 (Qg u (n+2)))/\w'.cell? ⟨B,j+(n+1),none⟩=some (.int .u64 (Qg u (n+1)))/\w'.cell? ⟨bv,ov+(n+1),none⟩=some (.int .u64 (Qg v (n+1))))
   (first | go_keep | exact⟨hx.cell hu2,hx.cell hu1,hx.cell hv1⟩)
   (first | (go_at_call 295;refine(SJ _ _ _ _ hdh du1 hdy).mono ?_;rintro e w' ⟨rfl,hx⟩))
  go_wp2
  go_meet
  exact⟨_,_,_,rfl,rfl,rfl,HG.out,((Ext.refl w).drewN _).trans hx⟩
 case rest =>
  obtain⟨q1,r1,o1,rfl,rfl,rfl,hG,E⟩:=hcut;have HM0:=aa hM;clear hu2 hu1 hv1 du1 du2 hM;go_upto_block 0 with (fail)
  go_cut [6] λq wx=>∃d,q = .int .u64 d/\(0<=d/\d<W)/\((d-1)*dv W v<=dv W u/\dv W u<(d+1)*dv W v)/\Ext w wx
  case first =>
   have hw2:IntKind.i64.wrap ((n:Int)+2-2)=(n:Int):=by rw[show(n:Int)+2-2=(n:Int)from by omega];exact bD _ O
   have hn0:(0:Int)<=(n:Int):=O;go_wp2_with fail
   go_loopw [6,7,8] (λq r o wr=>∃d m oo,q = .int .u64 d/\r = .int .u64 m/\o = .int .u64 oo/\Zv u v n d m oo/\Ext w wr) λ_ r o _=>(2*W-(intOf r+W*intOf o)).toNat
   case atStart=>exact⟨_,_,_,rfl,rfl,rfl,hG,E⟩
   case round =>
    clear hG E;obtain⟨d,m,oo,rfl,rfl,rfl,hG,E⟩:=hrel;obtain⟨g1,g2,g3,g4,g5⟩:=id hG;have HG:=aa hG;clear hG g4 g5;by_cases ho:oo=0
    ·subst ho;have hM:=HM0.out.ext E;have hv0:=hM.atv n (wg U.out);have hv1:=hM.atv (n+1) (wg U.out);have hu0:=hM.atu HJ.out n (wg F.out);have dv0:=JP h.hv n;have du0:=JP h.hu n;have e1:J4 d (Qg v n)+W*Xq d (Qg v n)=d*Qg v n:=by unfold J4 Xq;rw[ja];exact eM _ _
     have l0:0<=J4 d (Qg v n)/\J4 d (Qg v n)<W:=⟨bA _ wj,aZ _ Jj⟩;have HY:Hid (d*Qg v n<=m*W+Qg u n->(d-1)*dv W v<=dv W u/\dv W u<(d+1)*dv W v):=λhy=>HG.out.fin h (λ_=>hy);have HN:Hid (m*W+Qg u n<d*Qg v n->Zv u v n (d-1) (XH m (Qg v (n+1)) 0) (Xi m (Qg v (n+1)) 0)):=λhy=>HG.out.less h hy;have H:Hid (m*W+Qg u n<d*Qg v n->1<=d):=λhy=>by
      have:=(HN.out hy).1;omega
     have hnz:=h.nz;have hq2:d<=18446744073709551615:=by have:=g1.2;simp only[GC]at this;omega
     have hme:Hid (2*W-(XH m (Qg v (n+1)) 0+W*Xi m (Qg v (n+1)) 0)<2*W-(m+W*0)):=by
      have:=(GB g2 dv1 (by decide:(0:Int)<=0/\(0:Int)<=1)).1;show _<_;omega
     have hme2:Hid (0<2*W-(m+W*0)):=by show _<_;omega
     have ha:=λw=>YU m (Qg v (n+1)) 0 g2.1 dv1.1 wj wj w;generalize K:Xq d (Qg v n)=mh at *
     generalize L:J4 d (Qg v n)=ml at *
     have HMH:=aa K;have HML:=aa L;have E1:Hid (d*Qg v n=ml+W*mh):=e1.symm;clear K L e1;have cmpY:Hid (mh<m->d*Qg v n<=m*W+Qg u n):=λhh=>by
      have:W*(mh+1)<=W*m:=aH O wj;rw[E1.out];grind
     have cmpY2:Hid (mh=m->ml<=Qg u n->d*Qg v n<=m*W+Qg u n):=λhh hl=>by
      rw[E1.out,hh];grind
     have cmpN:Hid (m<mh->m*W+Qg u n<d*Qg v n):=λhh=>by
      have:W*(m+1)<=W*mh:=aH O wj;rw[E1.out];grind
     have cmpN2:Hid (mh=m->Qg u n<ml->m*W+Qg u n<d*Qg v n):=λhh hl=>by
      rw[E1.out,hh];grind
     rcases e8 mh m with g | g | g
     ·have HF:=aa (HY.out (cmpY.out g));go_wp2_with (go_at_call 215;refine(YW _ _ _ g1 dv0).mono ?_;rw[HMH.out,HML.out];rintro e w' ⟨rfl,rfl⟩)
      go_meet
      exact⟨_,rfl,HG.out.1,HF.out,E⟩
     ·have gb:(mh==m)=true:=by simpa using g
      have gl:m<=mh:=O;have G:=aa g;clear g;by_cases hl:ml<=Qg u n
      ·have HF:=aa (HY.out (cmpY2.out G.out hl));go_wp2_with (go_at_call 215;refine(YW _ _ _ g1 dv0).mono ?_;rw[HMH.out,HML.out];rintro e w' ⟨rfl,rfl⟩)
       go_meet
       exact⟨_,rfl,HG.out.1,HF.out,E⟩
      have hl':Qg u n<ml:=O;have HF:=aa (HN.out (cmpN2.out G.out hl'));have H:=H.out (cmpN2.out G.out hl');clear hl;go_wp2_with (go_at_call 215;refine(YW _ _ _ g1 dv0).mono ?_;rw[HMH.out,HML.out];rintro e w' ⟨rfl,rfl⟩)
      go_roundw
      case rel=>exact⟨_,_,_,rfl,rfl,rfl,HF.out,E⟩
      case measure=>have:=hme.out;have:=hme2.out;simp only[intOf];omega
     have HF:=aa (HN.out (cmpN.out g));have H:=H.out (cmpN.out g);have gb:(mh==m)=false:=wv;go_wp2_with (go_at_call 215;refine(YW _ _ _ g1 dv0).mono ?_;rw[HMH.out,HML.out];rintro e w' ⟨rfl,rfl⟩)
     go_roundw
     case rel=>exact⟨_,_,_,rfl,rfl,rfl,HF.out,E⟩
     case measure=>have:=hme.out;have:=hme2.out;simp only[intOf];omega
    have ho1:(oo==0)=false:=by simpa using ho
    have HF:=aa (HG.out.fin h λe=>absurd e ho);go_wp2
    go_meet
    exact⟨_,rfl,HG.out.1,HF.out,E⟩
  case rest =>
   clear hG E;obtain⟨d,rfl,hq,hF,E⟩:=hcut;have HF:=aa hF;have HB0:=aa (HM0.out.ext E).hB;have HU0:Hid (BL B w _):=(BL.refl B w).ext E;clear hF E dv1 h05 h02 h04;go_wp2
   go_loopw [105,11,12] (λi b c wr=>∃(k:Nat) (ds:List Int) (bb y:Int),k<=n+2/\i = .int .i64 k/\b = .int .u64 bb/\c = .int .u64 y/\Dq u v d k ds bb y/\YL wr B 264 JR (pre++((ds++u.drop k)++post))/\BL B w wr)
    (λi _ _ _=>n+2-(intOf i).toNat)
   case atStart=>exact⟨0,[],0,0,O,rfl,rfl,rfl,Dq.start u v d,HB0.out,HU0.out⟩
   case round =>
    clear HB0 HU0;obtain⟨k,ds,bb,y,hk,rfl,rfl,rfl,hI,z,hU⟩:=hrel;by_cases hlt:k<n+2
    ·have hst:=hI.step h.hu h.hv hq;obtain⟨Y,hd2,hd3,X,hd5⟩:=hI;have HD1:=aa Y;have hvk:=hU.cell (p:=⟨bv,ov+k,none⟩) hne (HM0.out.atv k (wg U.out));rw[XC (wg F.out)]at z;have a:=z.cell (Ii HJ.out HD1.out);rw[Ij HJ.out HD1.out]at a;simp only[JR]at a;have hfr:=z.frozen (j+k);have f:=z.set (j+k) (Zh (Qg u k) (XH (J4 d (Qg v k)) y 0) bb);rw[Mt HJ.out HD1.out,eB ds]at f;have HBs:=aa f;have HS:=aa hst;have hy:=JP h.hv k;have hx:=JP h.hu k;obtain⟨_,g2,g3,g4,g5,_,_⟩:=Mr hq hy X (by decide:(0:Int)<=0/\(0:Int)<W);clear Y hd5 z f hst;generalize K:Xq d (Qg v k)=mh at *
     generalize L:J4 d (Qg v k)=ml at *
     have HMH:=aa K;have HML:=aa L;clear K L;have ha1:=λw=>YU ml y 0 g2.1 X.1 wj wj w;have ha2:=λw=>Hf (Qg u k) (XH ml y 0) bb hx g3 hd3 w;have b1:0<=mh+Xi ml y 0:=g4.1;have b2:mh+Xi ml y 0<=18446744073709551615:=by have:=g4.2;simp only[GC]at this;omega
     go_wp2_with (go_at_call 215;refine(YW _ _ _ hq hy).mono ?_;rw[HMH.out,HML.out];rintro e w' ⟨rfl,rfl⟩)
     go_roundw
     case rel=>exact⟨k+1,_,_,_,O,by go_num,rfl,rfl,HS.out,HBs.out,hU.setCell _ _⟩
     case measure=>simp[intOf];omega
    have hk':k=n+2:=O;subst hk';have HI:=aa hI;obtain⟨Y,hd2,hd3,X,hd5⟩:=hI;have HD1:=aa Y;rw[XC (wg F.out)]at z;have a:=z.cell (Ii HJ.out HD1.out);rw[Ij HJ.out HD1.out]at a;simp only[JR]at a;have hfr:=z.frozen (j+(n+2));have f:=z.set (j+(n+2)) (Zh (Qg u (n+2)) y bb);rw[Mt HJ.out HD1.out,bI (wg F.out)]at f;have HBs:=aa f;have hx:=JP h.hu (n+2);have hs:=(DE hx X hd3).2;have ha2:=λw=>Hf (Qg u (n+2)) y bb hx X hd3 w;clear Y hd5 z f;have hs3:=hs.2;have hs2:=hs.1;clear hs;by_cases hb0:V4 (Qg u (n+2)) y bb=0
    ·have hR:=zX h HI.out HF.out hb0;have HR:=aa hR;have hbb:(V4 (Qg u (n+2)) y bb==0)=true:=by simpa using hb0
     clear hR hb0;go_wp2
     go_ret
     exact⟨⟨congrArg (λx=>iu (.int .u64 x)) HR.out.2.1,_,HBs.out,by simp[HD1.out],HR.out.1,HR.out.2.2⟩,hU.setCell _ _⟩
    have hb1:V4 (Qg u (n+2)) y bb=1:=O;have hbb:(V4 (Qg u (n+2)) y bb==0)=false:=by simpa using hb0
    have HB1:=aa hb1;clear hb0 hb1;have HU1:Hid (BL B w _):=hU.setCell (j+(n+2)) (JR (Zh (Qg u (n+2)) y bb));have hdL:DG W (ds++[Zh (Qg u (n+2)) y bb]):=hd2.append (DG.cons hs2.1 hs2.2 (DG.nil _));go_wp2
    go_loopw [157,17] (λi c wr=>∃(k:Nat) (es:List Int) (c2:Int),k<=n+2/\i = .int .i64 k/\c = .int .u64 c2/\Eh ds v k es c2/\YL wr B 264 JR (pre++((es++(ds++[Zh (Qg u (n+2)) y bb]).drop k)++post))/\BL B w wr)
     (λi _ _=>n+2-(intOf i).toNat)
    case atStart=>exact⟨0,[],0,O,rfl,rfl,⟨rfl,DG.nil _,wj,wu⟩,HBs.out,HU1.out⟩
    case round =>
     clear HU1 HBs a hfr hU ha2;obtain⟨k,es,c2,hk,rfl,rfl,hA,z,hU⟩:=hrel;have HA:=aa hA;obtain⟨he1,he2,he3,he4⟩:=hA;have HE1:=aa he1;clear he1 he4;have hll:(ds++[Zh (Qg u (n+2)) y bb]).length=n+3:=by simp[HD1.out]
     rw[XC O]at z;have HLL:=aa hll;clear hll;have a:=z.cell (Ii HJ.out HE1.out);rw[Ij HJ.out HE1.out]at a;simp only[JR]at a;have hfr:=z.frozen (j+k);by_cases hlt:k<n+2
     ·have hvk:=hU.cell (p:=⟨bv,ov+k,none⟩) hne (HM0.out.atv k (wg U.out));have hek:Hid (Qg (ds++[Zh (Qg u (n+2)) y bb]) k=Qg ds k):=by
       have h1:k<ds.length:=wg HD1.out;show _=_;rw[ZJ (wg HLL.out),ZJ h1,List.getElem_append_left h1]
      rw[hek.out]at a z;have f:=z.set (j+k) (XH (Qg ds k) (Qg v k) c2);rw[Mt HJ.out HE1.out,eB es]at f;have HBs:=aa f;have HS:=aa (HA.out.step hd2 h.hv);have hx:=JP hd2 k;have hy:=JP h.hv k;have ha1:=λw=>YU (Qg ds k) (Qg v k) c2 hx.1 hy.1 he3.1 he3.2 w;have hk0:(0:Int)<=(k:Int):=O;have hk1:(k:Int)<(n:Int)+2:=O;have hk2:(k:Int)<(n:Int)+3:=O;clear f z;go_wp2
      go_region
      go_wp2
      go_roundw
      case rel=>exact⟨k+1,_,_,O,by go_num,rfl,HS.out,HBs.out.drew,(hU.setCell _ _).drew⟩
      case measure=>simp[intOf];omega
     have hk':k=n+2:=O;subst hk';have hR:=gq h HI.out HF.out HB1.out HA.out;have HR:=aa hR;clear hR;have hek:Hid (Qg (ds++[Zh (Qg u (n+2)) y bb]) (n+2)=Zh (Qg u (n+2)) y bb):=by
      show _=_;rw[ZJ (wg HLL.out)];simp[HD1.out]
     rw[hek.out,bI (wg HLL.out)]at z;rw[hek.out]at a;have f:=z.set (j+(n+2)) 0;rw[Mt HJ.out HE1.out]at f;have HBs:=aa f;have H:1<=d:=by
      have h0:=Qp Jj h.hu;have h1:=Qp Jj h.hv;have:=iK h0 h1;rw[<-HR.out.1]at this;omega
     have hq2:d<=18446744073709551615:=by have:=hq.2;simp only[GC]at this;omega
     have hwr:IntKind.u64.wrap (Zh (Qg u (n+2)) y bb+c2)=0:=by
      rw[HR.out.2.2];decide
     clear z f;go_wp2
     go_ret
     exact⟨⟨congrArg (λx=>iu (.int .u64 x)) HR.out.1,_,HBs.out,by simp[HE1.out],he2.append (DG.cons (fW _) Jj (DG.nil _)),by rw[XO,HR.out.2.1];simp⟩,hU.setCell _ _⟩
theorem Cells.EB{q:Option Addr}{o:Nat}{v:Value}(h:Cells w q JR l)(hb:∀a,q=some a->a.block≠b):Cells (w.setCell ⟨b,o,none⟩ v) q JR l:=by
 intro i hi;obtain⟨b',off,h1,h2,h3⟩:=h i hi;exact⟨b',off,h1,h2.set _ _ _,XZ (hb _ h1) h3⟩
theorem Cells.old{q:Option Addr}(h:Cells w q JR l)(c:l≠[])(b:Nat)(hb:w.heap.size<=b):∀a,q=some a->a.block≠b:=by
 intro a ha;obtain⟨b',off,h1,h2,_⟩:=h 0 (List.length_pos_iff.2 c);rw[h1]at ha;cases ha;show b'≠b;have:=h2.lt;omega
def YL.EB{E b' o:Nat}{enc:D1 α}{l:List α}{v:Value}(h:YL w b E enc l)(hb:b≠b'):YL (w.setCell ⟨b',o,none⟩ v) b E enc l:=by
 unfold YL;rw[Below.heap_setCell _ _ _ _ hb];exact h
theorem Ia{s:Nat}(hb:DG W lb)(h:lb.length=n+2)(f:s<64)(h1:Qg lb (n+1)*p2 s<W)(h2:9223372036854775808<=Qg lb (n+1)*p2 s):
  W^(n+1)*9223372036854775808<=dv W lb*p2 s/\dv W lb*p2 s<W^(n+2):=by
 have e:=J9 lb (n+1);rw[ak (by omega:lb.length<=n+1+1)]at e;have t0:=Qp Jj (hb.take (n+1));have c:=Zu Jj (hb.take (n+1));rw[List.length_take,Nat.min_eq_left O]at c;have hp:=pow_pos Jj (n+1);have a:=Z5 s;have top:(Qg lb (n+1)+1)*p2 s<=W:=by
  have e3:=W3 f;have:Qg lb (n+1)<p2 (64-s):=by
   refine Int.not_le.1 λhc=>?_;have:=aW hc (bz a);omega
  have:=aW (show Qg lb (n+1)+1<=p2 (64-s) by omega) (bz a);omega
 constructor
 ·have b:W^(n+1)*9223372036854775808<=W^(n+1)*(Qg lb (n+1)*p2 s):=aH h2 (bz hp);have d:0<=dv W (lb.take (n+1))*p2 s:=fA t0 (bz a);have g:dv W lb*p2 s=dv W (lb.take (n+1))*p2 s+W^(n+1)*(Qg lb (n+1)*p2 s):=by rw[e];grind
  omega
 have b:(dv W (lb.take (n+1))+1)*p2 s<=W^(n+1)*p2 s:=aW O (bz a);have d:W^(n+1)*((Qg lb (n+1)+1)*p2 s)<=W^(n+1)*W:=aH top (bz hp);have g:dv W lb*p2 s=dv W (lb.take (n+1))*p2 s+W^(n+1)*(Qg lb (n+1)*p2 s):=by rw[e];grind
 rw[bY W (n+1)];have e3:W^(n+1)*((Qg lb (n+1)+1)*p2 s)=W^(n+1)*(Qg lb (n+1)*p2 s)+W^(n+1)*p2 s:=by grind
 rw[fi]at b;omega
set_option maxRecDepth 100000 in
set_option maxHeartbeats 2000000 in
theorem Ap(v v':Value)(la lb:List Int)(n:Nat)(w:World)(ha:DG W la)(hb:DG W lb)(na:NZ la)(nb:NZ lb)(F:SL w v JR la)(hs':SL w v' JR lb)(hge:dv W lb<=dv W la)
  (hn:lb.length=n+2) (h1:la.length<=10000000000) (h2:lb.length<=10000000000) :
  Calls prog 262 #[v,v'] w λe w'=>ZI w (UB (dv W la) (dv W lb)) e w':=by
 have H3:0<=ZS (dv W la) (dv W lb):=HH hge;have hm:n+2<=la.length:=by
  refine Nat.not_lt.1 λhc=>?_;have:=XX MZ ha hb nb O;omega
 have HS:=aa F;obtain⟨q,cap,rfl,hcap,hmax,hca⟩:=F;have HA:=aa hca;have HS':=aa hs';obtain⟨q2,cap2,rfl,hcap2,hmax2,hcb⟩:=hs';have HB:=aa hcb;obtain⟨bb,ob,rfl,hbb,z⟩:=hcb (n+1) O;rw[Zk O]at z;simp only[JR]at z;clear hca hcb;have hL:=aa hn;rw[hn]at HS' hcap2 ⊢;have hyp:0<Qg lb (n+1)/\Qg lb (n+1)<W:=by
  have:=JP hb (n+1);have hz:Qg lb (n+1)≠0:=by
   intro e;apply nb;rw[List.getLast?_eq_getElem?,hn];rw[ZJ O]at e;simp[hn,e]
  omega
 clear hn;have hb1:((n:Int)+2==1)=false:=wv;have e57:(n:Int)+2-1=(n:Int)+1:=O;go_enter func262,ntmps262
 go_wp2_with (first | (go_at_call 254;refine(ZR _ _ _ _ _ ha hb na nb HS.out HS'.out).mono ?_;rintro e w1 ⟨rfl,j⟩;have z:=j.cell z) | (go_at_call 296;fail))
 go_wp2_with fail
 refine(zk _ _ hyp).mono ?_;rintro e w' ⟨⟨s,rfl,F,hs1,hs2⟩,rfl⟩;have hbv:=Ia hb hL.out F hs1 hs2;have HBV:=aa hbv;clear hs1 hs2 z hbv;go_wp2_with fail
 refine(Er s _ lb _ F hb (HS'.out.ext j) O).mono ?_;rintro e w2 ⟨_,rfl,⟨l1,rfl,hB1,hl1,d,m⟩,hx2⟩;rw[hL.out]at hl1;have E:=SL.Gx hB1 (n+3) O O;rw[ak O,hl1]at E;have HSL1:=aa E;rw[hL.out];clear E hB1 hl1;go_wp2_with fail
 refine(KO _ _ _ HSL1.out).mono ?_;rintro e w' ⟨⟨_,rfl,qv,capv,rfl,hcv1,hcv2,hcv⟩,rfl⟩;have hlv:(Q3 l1).length=n+2:=Iq d.Q3 (Xa _) (by rw[XB,m];have:=HBV.out.1;have:=aH (show(1:Int)<=9223372036854775808 by decide) (bz (pow_pos Jj (n+1)));omega) (by rw[XB,m];exact HBV.out.2);have hdv:DG W (Q3 l1):=d.Q3;have hnv:NZ (Q3 l1):=Xa _;have HVV:Hid (dv W (Q3 l1)=dv W lb*p2 s):=by show _=_;rw[XB,m]
 generalize Q3 l1=lv at *
 rw[hlv]at hcv1 ⊢;have HLV:=aa hlv;have HCV:=aa hcv;clear m d hcv hlv;go_wp2_with fail
 refine(Er s _ la _ F ha ((HS.out.ext j).ext hx2) O).mono ?_;rintro e w3 ⟨_,rfl,⟨o0,rfl,hB3,hl3,y,hv3⟩,hx3⟩;have hmk:=λw=>Zx (la.length-(n+2)+1) O w;have ec:((la.length-(n+2)+1:Nat):Int)=(la.length:Int)-((n:Int)+2)+1:=O;simp only[ec]at hmk;clear ec;have Y:lv≠[]:=by intro e;have:=HLV.out;rw[e]at this;simp at this
 have hne1:=HCV.out.old Y w2.heap.size (aG _);have hne2:=HCV.out.old Y w3.heap.size hx3.size;have HSTART:Hid (Vn (dv W la*p2 s) (dv W lb*p2 s) n (la.length-(n+2)+1) la.length o0 []) :=
  Vn.start hl3 y hv3 F (Zu Jj ha) HBV.out.1 hm
 have HB3:=aa hB3;have HX2:Hid (Ext w w2):=j.trans hx2;have HXB:=aa hx3;have hsz:w2.heap.size<w3.heap.size:=hB3.lt;have HN1:=aa hne1;have HN2:=aa hne2;clear hB3 hl3 y hv3 j hx2 hx3 hge H3 hne1 hne2;go_wp2
 go_loopw [14] (λi wr=>∃(k:Nat) (o X:List Int),k<=la.length-(n+2)+1/\i = .int .i64 ((k:Int)-1)/\Vn (dv W la*p2 s) (dv W lb*p2 s) n k la.length o X /\
   YL wr w2.heap.size 264 JR o/\YL wr w3.heap.size 264 JR (ee k 0++X)/\Cells wr qv JR lv/\Ext w2 wr)
  (λi _=>(intOf i+1).toNat)
 case atStart=>exact⟨la.length-(n+2)+1,o0,[],aG _,by go_num,HSTART.out,HB3.out.ext ((Ext.refl _).alloc _),by rw[ff];exact YL.made w3 _ JR 0 _ _ I,(HCV.out.ext HXB.out).ext ((Ext.refl _).alloc _),HXB.out.alloc _⟩
 case round =>
  clear HSTART hmk HB3 HCV HXB;obtain⟨k,o,X,hk,rfl,hI,a,f,U,hE⟩:=hrel;cases k with
  |zero =>
   have HI:=aa hI;obtain⟨i1,i2,i3,i4,i5,i6⟩:=hI;have HI1:=aa i1;have HI3:=aa i3;have HBU:=aa a;have HBQ:Hid (YL _ w3.heap.size 264 JR X):=f;clear i1 i3 i5 i6 a f U;rw[show((0:Nat):Int)-1 = -1 from rfl];go_wp2
   go_loopw [97] (λi wx=>∃(k:Nat) (ds:List Int),k<=n+2/\i = .int .i64 k/\Kr o s k ds/\YL wx w2.heap.size 264 JR (ds++o.drop k)/\YL wx w3.heap.size 264 JR X/\Ext w2 wx)
    (λi _=>n+2-(intOf i).toNat)
   case atStart=>exact⟨0,[],O,rfl,Kr.start o s,HBU.out,HBQ.out,hE⟩
   case round =>
    clear HBU HBQ hE;obtain⟨k,ds,hk,rfl,hS,a,f,hE⟩:=hrel;have HBQ:=aa f;by_cases hlt:k<n+2
    ·have HS:=aa hS;obtain⟨d,hd2,y⟩:=hS;have HD1:=aa d;have hkl:k+1<o.length:=wg HI1.out;rw[XC O,XC hkl]at a;have hx:=JP i2 k;have j:=JP i2 (k+1);have c:=a.cell (i:=k) wv;have g:=a.cell (i:=k+1) wv;have g0:(ds++Qg o k::Qg o (k+1)::iy (k+1+1) o).getD k default=Qg o k:=by rw[<-HD1.out];simp[fC]
     have g1:(ds++Qg o k::Qg o (k+1)::iy (k+1+1) o).getD (k+1) default=Qg o (k+1):=by rw[<-HD1.out];simp[fC]
     rw[g0]at c;rw[g1]at g;simp only[JR]at c g;have hfr:=a.frozen k;have HBU:=aa a;clear d y a f g0 g1;have hk0:(0:Int)<=(k:Int):=O;have hk1:(k:Int)<(la.length:Int)+1:=O;have hk2:(k:Int)+1<(la.length:Int)+1:=O;have hk3:(0:Int)<=(k:Int)+1:=O;have hk4:IntKind.i64.wrap ((k:Int)+1)=(k:Int)+1:=bD _ O;have hk5:((k:Int)+1).toNat=k+1:=O;have hk6:IntKind.i64.wrap (64-(s:Int))=64-(s:Int):=bD _ O;have hk7:(64-(s:Int)).toNat=64-s:=O;have hk8:¬(64-(s:Int)<0):=O;by_cases hs0:0<s
     ·have hs1:(0:Int)<(s:Int):=O;go_wp2
      go_region
      go_wp2
      go_roundw
      case rel =>
       refine⟨k+1,ds++[Qg o k/p2 s+Qg o (k+1)*p2 (64-s)%W],O,by go_num,HS.out.step i2 F hs0,?_,(HBQ.out.EB O).EB O,((hE.Xh wu _).Xh wu _).drew⟩;have b:=Lg F hx;obtain⟨b1,_⟩:=TB (x:=Qg o (k+1)) (s:=64-s) O b.1 b.2;rw[Ni,show Qg o k/2^s=Qg o k/p2 s from rfl,b1];have h1:=HBU.out.set k (Qg o k/p2 s);rw[Hd _ _ _ _ _ HD1.out]at h1;have h2:=h1.set k (Qg o k/p2 s+Qg o (k+1)*p2 (64-s)%W);rw[Hd _ _ _ _ _ HD1.out,eB ds,<-XC hkl]at h2;exact h2.drew
      case measure=>simp[intOf];omega
     have hs9:s=0:=O;have HS0:Hid (Kr o s (k+1) (ds++[Qg o k/p2 s])):=by subst hs9;exact HS.out.j7 i2
     clear hs9;go_wp2
     go_roundw
     case rel =>
      refine⟨k+1,ds++[Qg o k/p2 s],O,by go_num,HS0.out,?_,HBQ.out.EB O,hE.Xh wu _⟩;have h1:=HBU.out.set k (Qg o k/p2 s);rw[Hd _ _ _ _ _ HD1.out,eB ds,<-XC hkl]at h1;exact h1
     case measure=>simp[intOf];omega
    have hk':k=n+2:=O;subst hk';have H:0<dv W lb:=by
     have h7:=HBV.out.1;have h8:=pow_pos Jj (n+1);refine Int.not_le.1 λhc=>?_;have:=aW hc (bz (Z5 s));omega
    have HF:=aa (pS HI.out F H HBV.out.2 hm hS);obtain⟨d,hd2,y⟩:=hS;have hq1:X.length=la.length-(n+2)+1:=wg HI3.out;have hSq:=SL.Gx HBQ.out (la.length-(n+2)+1) O O;have L:=SL.Gx a (n+2) wv (by simp;have:=HI1.out;omega);rw[ak O,hq1]at hSq;rw[List.take_append_of_le_length O,ak O]at L;have hol:(ds++iy (n+2) o).length=la.length+1:=by simp;have:=HI1.out;omega
    rw[hol]at L;have HSq:=aa hSq;have HSr:=aa L;have hn0:(0:Int)<=(n:Int)+2:=O;have hn1:(n:Int)+2<=(la.length:Int)+1:=O;have hn2:((n:Int)+2).toNat=n+2:=O;clear d y a f hSq L hq1 hol;go_wp2
    go_region_held3 (λ_=>True) (trivial) (first | (go_at_call 261;(with_reducible refine(KO _ _ _ (HSq.out.ext (Ext.refl _).drew)).mono ?_);rintro e w' ⟨⟨v1,rfl,m⟩,rfl⟩) | (go_at_call 261;(with_reducible refine(KO _ _ _ (HSr.out.ext (Ext.refl _).drew)).mono ?_);rintro e w' ⟨⟨v2,rfl,hv2⟩,rfl⟩))
    go_wp2
    go_ret2
    exact⟨_,rfl,⟨v1,v2,_,_,rfl,m,hv2,⟨i4.Q3,Xa _⟩,⟨hd2.Q3,Xa _⟩,by rw[XB];exact HF.out.1,by rw[XB];exact HF.out.2⟩,(HX2.out.trans hE).drew⟩
  |succ k =>
   obtain⟨pre,u,post,rfl,lj,K,hpost,lpost,hjm⟩:=hI.QAk hdv HLV.out (by
    have:=JP hdv (n+1);have hz:Qg lv (n+1)≠0:=by
     intro e;apply hnv;rw[List.getLast?_eq_getElem?,HLV.out];rw[ZJ (wg HLV.out)]at e;simp[HLV.out,e]
    omega) HVV.out hm
   have HI:=aa hI;have LJ:=aa lj;have HBQ:=aa f;have e1:((k+1:Nat):Int)-1=(k:Int):=O;have hwin:Hid (k+n+2<=la.length):=hjm;have hk3:(k:Int)+((n:Int)+2)+1<=(la.length:Int)+1:=O;obtain⟨bq,oq,rfl,_,_⟩:=U 0 (wg HLV.out);have HCV:=aa U;have HBU:=aa a;clear hI lj f hjm lpost U a;rw[e1];clear e1;go_wp2_with fail
   rw[show k+(n+2)+1-k=n+3 from by omega];refine(O0 u lv pre post n k _ _ _ bq oq _ K LJ.out O ⟨HBU.out,HCV.out⟩ (HN1.out _ I)).mono ?_;rintro e w4 ⟨⟨rfl,u',hB',lu',du',vu'⟩,hU⟩;have h:=hU.ZH O HBQ.out;have hlen:k<(ee (k+1) (0:Int)++X).length:=wv;have c:=h.cell hlen;have hz:(ee (k+1) (0:Int)++X).getD k default=0:=by simp[fC,List.getElem?_append_left]
   rw[hz]at c;simp only[JR]at c;have hfr:=h.frozen k;have hBs:=h.set k (dv W u/dv W lv);rw[Uj]at hBs;have HBs:=aa hBs;have H:0<dv W lb*p2 s:=by have:=HBV.out.1;have:=pow_pos Jj (n+1);omega
   have HQL:Hid (dv W u/dv W lv<W):=by
    refine Int.ediv_lt_of_lt_mul (by rw[HVV.out];exact H) ?_;exact K.lt
   have HST:=aa (HI.out.step LJ.out K.lu du' lu' HVV.out H hpost HQL.out (Qp Jj K.hu) vu');have HB':=aa hB';have HU:=aa hU;clear hBs h hB' hU hz hlen vu';go_wp2
   go_roundw
   case rel=>exact⟨k,_,_,O,by go_num,HST.out,HB'.out.EB O,HBs.out,(HU.out.cells HN1.out HCV.out).EB HN2.out,(HU.out.QAs hE (aG _)).Xh wv _⟩
   case measure=>simp[intOf]
theorem I4(v d:Value)(la lb:List Int)(w:World)(ha:DG W la)(hb:DG W lb)(f:NZ la)(nb:NZ lb)(g:SL w v JR la)(a:SL w d JR lb)(h:lb≠[])
  (h1:la.length<=10000000000) (h2:lb.length<=10000000000) :
  Calls prog 262 #[v,d] w λe w'=>ZI w (UB (dv W la) (dv W lb)) e w':=by
 by_cases b:dv W la<dv W lb
 ·exact Aq v d la lb w ha hb f nb g a b
 match lb,hb,nb,a,h,b,h2 with
 |[y],hb,nb,a,_,b,_ =>
  have e:dv W [y]=y:=wu;rw[e]at b ⊢;have hy:=hb.head;have j:y≠0:=by intro e;subst e;exact nb rfl
  obtain⟨i,c,k,_⟩:=id a;subst k;exact I3 v i c la y w ha ⟨O,hy.2⟩ f g a O O
 |x::y::l,hb,nb,a,_,b,h2=>exact Ap v d la (x::y::l) l.length w ha hb f nb g a O rfl h1 h2
theorem Yg.sign{s:Int}{q:Option Addr}(h:Yg w s q n cap z):s<0↔z<0:=by
 rcases h with ⟨_,_,_,rfl,_⟩ | ⟨b,off,l,_,_,_,_,_,_,_,_,h,hz,hb⟩
 ·exact Iff.rfl
 rcases h with rfl | rfl<;>omega
def Bx.cT(w:World)(o:Obj)(T:TypeId)(c:Array Value):Bx ((w.alloc o).alloc (.cells c T)) (w.heap.size+1) T c.toList:=by
 have:=Bx.new (w.alloc o) T c;simpa using this
def Bx.zZ(w:World)(o a:Obj)(T:TypeId)(c:Array Value):Bx (((w.alloc o).alloc (.cells c T)).alloc a) (w.heap.size+1) T c.toList:=(Bx.cT w o T c).alloc a
def Bx.OH(w:World)(o a:Obj)(T:TypeId)(c:Array Value):Bx (((w.alloc o).alloc a).alloc (.cells c T)) (w.heap.size+1+1) T c.toList:=by
 have:=Bx.new ((w.alloc o).alloc a) T c;simpa using this
def Bx.Iz(w:World)(o a:Obj)(T:TypeId)(c:Array Value):Bx (((w.alloc (.cells c T)).alloc o).alloc a) w.heap.size T c.toList:=((Bx.new w T c).alloc o).alloc a
def Ext.BY{a:World}(h:Ext a w){R:Nat}(b:a.heap.size<=R)(v0 v1:Value):Ext a ((w.setCell ⟨R,0,none⟩ v0).setCell ⟨R,1,none⟩ v1):=(h.Xh b v0).Xh b v1
theorem uD(v:Value)(z:Int)(w:World)(hv:XL w v z):
  Calls prog 267 #[v] w λe w'=>ZI w (λv w'=>XL w' v (JZ z)) e w':=by
 have HV:=aa hv;obtain⟨s,q,n,cap,rfl,hp⟩:=hv;have HP:=aa hp;by_cases g:s<0
 ·have HI:=aa (Da (hp.sign.1 g));have HB:=aa (Bx.cT w (.cells #[.int .i64 s,.slice q n cap] 85) 85 IZ);clear hp;go_enter func267,ntmps267
  go_wp2_with fail
  refine(TE _ z _ (HV.out.ext (((Ext.refl _).alloc _).alloc _))).mono ?_;rintro e i ⟨_,rfl,⟨c,d,f,a,rfl,b⟩,hx⟩;obtain⟨h,c1,k,j⟩:=(HB.out.ext hx).two;have HB2:=aa (HB.out.ext hx);go_wp2
  refine bodyPost_ret (v:=.agg #[.int .i64 c,.slice d f a]) (by simp[results,results267,go_sem,h,c1]) I ⟨_,rfl,?_,?_⟩
  ·rw[HI.out];exact⟨_,_,_,_,rfl,b.kp ((Kp.refl _).BY HB2.out.PM U9 _ _)⟩
  exact(((((Ext.refl w).alloc _).alloc _).trans hx).Xh wu _).Xh wu _
 have HI:=aa (Wl (z:=z) (wg hp.sign));clear hp;go_enter func267,ntmps267
 go_wp2
 refine bodyPost_ret (v:=.agg #[.int .i64 s,.slice q n cap]) (by simp[results,results267,go_sem]) I ⟨_,rfl,?_,((Ext.refl _).alloc _).alloc _⟩;rw[HI.out];exact⟨_,_,_,_,rfl,HP.out.ext (((Ext.refl _).alloc _).alloc _)⟩
def Xr(hd:DG W l)(a:NZ l)(h:dv W l=JZ z)(hz:sz z<=1000000000):l.length<=1000000000:=by
 have:=QBd hd a;rw[h,Mk]at this;omega
def Ui{b:Int}(h:decide (a<0)=decide (b<0)):sg (decide (a<0)) (JZ a+JZ b)=a+b:=by
 unfold sg JZ;by_cases ha:a<0<;>by_cases hb:b<0<;>simp[ha,hb]at h ⊢<;>omega
def Uh{b:Int}(h:decide (a<0)≠decide (b<0)):sg (decide (a<0)) (JZ a-JZ b)=a+b:=by
 unfold sg JZ;by_cases ha:a<0<;>by_cases hb:b<0<;>simp[ha,hb]at h ⊢<;>omega
def Sv{b:Int}(h:decide (a<0)≠decide (b<0)):sg (decide (b<0)) (JZ b-JZ a)=a+b:=by
 unfold sg JZ;by_cases ha:a<0<;>by_cases hb:b<0<;>simp[ha,hb]at h ⊢<;>omega
theorem Ea(s s':Int)(q q':Option Addr)(n n' cap d:Nat)(a b:Int)(w:World)(hv:Yg w s q n cap a)(hv':Yg w s' q' n' d b)
  (hc:q.isNone=false\/(q.isNone=true/\q'.isNone=false)\/(q.isNone=true/\q'.isNone=true/\(decide (s<wrap64 (s+s'))==decide (0<s'))=false))
  (ha:sz a<=1000000000) (hb:sz b<=1000000000) :
  Calls prog 198 #[.agg #[.int .i64 s,.slice q n cap],.agg #[.int .i64 s',.slice q' n' d]] w λe w'=>ZI w (λv w'=>XL w' v (a+b)) e w':=by
 have hn:=λw=>ar (P:=prog) w 83 264 q n cap 0 0 underlying83;have hn':=λw=>ar (P:=prog) w 83 264 q' n' d 0 0 underlying83;have HV:Hid (XL w (.agg #[.int .i64 s,.slice q n cap]) a):=⟨_,_,_,_,rfl,hv⟩;have HV':Hid (XL w (.agg #[.int .i64 s',.slice q' n' d]) b):=⟨_,_,_,_,rfl,hv'⟩;have HBb:=aa (Bx.zZ w (.cells #[.int .i64 s,.slice q n cap] 85) (.cells IZ 85) 85 #[.int .i64 s',.slice q' n' d]);have HBr:=aa (Bx.OH w (.cells #[.int .i64 s,.slice q n cap] 85) (.cells #[.int .i64 s',.slice q' n' d] 85) 85 IZ);clear hv hv';rcases hc with h1 | ⟨h1,h2⟩ | ⟨h1,h2,h3⟩
 all_goals
  rw[h1]at hn
  try rw[h2]at hn'
  go_enter func198,ntmps198
  go_wp2_with fail
  refine(YV _ a _ (HV.out.ext ((((Ext.refl _).alloc _).alloc _).alloc _))).mono ?_;rintro e w1 ⟨_,rfl,⟨p,la,rfl,hsa,k,hna,hva⟩,hx⟩;have HB1:=aa (HBb.out.ext hx);have HR1:=aa (HBr.out.ext hx);obtain⟨c0,c1,f0,f1⟩:=HB1.out.two;have hlea:=Xr k hna hva ha;have HVA:=aa hva;clear hva;go_wp2_with fail
  refine(YV _ b _ (HV'.out.ext (((((Ext.refl _).alloc _).alloc _).alloc _).trans hx))).mono ?_;rintro e w2 ⟨_,rfl,⟨p',lb,rfl,F,j,Y,hvb⟩,z⟩;have HR2:=aa (HR1.out.ext z);have hleb:=Xr j Y hvb hb;have HVB:=aa hvb;clear hvb c0 c1 f0 f1;have i:=hsa.ext z;by_cases h:decide (a<0)=decide (b<0)
  ·have hgg:(decide (a<0)==decide (b<0))=true:=by simpa using h
   have HSG:Hid (sg (decide (a<0)) (dv W la+dv W lb)=a+b):=by
    show sg _ _=_;rw[HVA.out,HVB.out];exact Ui h
   clear h;go_wp2_with fail
   refine(Tu _ _ la lb _ k j i F O O).mono ?_;rintro e w3 ⟨_,rfl,⟨l3,K,X,U,g⟩,c⟩;have HV3:=aa g;clear g;go_wp2_with fail
   refine(Vb _ _ l3 _ K X U).mono ?_;rw[HV3.out,HSG.out];rintro e w4 ⟨_,rfl,⟨s4,q4,n4,m,rfl,L⟩,f⟩;have HR4:=aa ((HR2.out.ext c).ext f);obtain⟨c0,c1,f0,f1⟩:=HR4.out.two;go_wp2
   refine bodyPost_ret (v:=.agg #[.int .i64 s4,.slice q4 n4 m]) (by simp[results,results198,go_sem,c0,c1]) I ⟨_,rfl,⟨_,_,_,_,rfl,L.kp ((Kp.refl _).BY HR4.out.PM U9 _ _)⟩,?_⟩;exact(((((((Ext.refl w).alloc _).alloc _).alloc _).trans hx).trans z).trans c |>.trans f).BY O _ _
  have hgg:(decide (a<0)==decide (b<0))=false:=by simpa using h
  have hcl:=HH (x:=dv W la) (y:=dv W lb);have hcg:=WE (x:=dv W la) (y:=dv W lb);by_cases hge:dv W lb<=dv W la
  ·have HSG:Hid (sg (decide (a<0)) (dv W la-dv W lb)=a+b):=by
    show sg _ _=_;rw[HVA.out,HVB.out];exact Uh h
   have hc3:=hcl hge;have hll:lb.length<=la.length:=by
    refine Nat.not_lt.1 λhlt=>?_;have:=XX MZ k j Y hlt;omega
   have HGE:=aa hge;clear h hcl hcg hge;go_wp2_with fail
   refine(ZR _ _ la lb _ k j hna Y i F).mono ?_;rintro e w3 ⟨rfl,c⟩;have H:=i.ext c;have E:=F.ext c;go_wp2_with fail
   refine(DF _ _ la lb _ k j H E O hll HGE.out).mono ?_;rintro e w4 ⟨_,rfl,⟨l3,K,X,U,g⟩,f⟩;have HV3:=aa g;clear g;go_wp2_with fail
   refine(Vb _ _ l3 _ K X U).mono ?_;rw[HV3.out,HSG.out];rintro e w5 ⟨_,rfl,⟨s4,q4,n4,m,rfl,L⟩,o⟩;have HR4:=aa (((HR2.out.ext c).ext f).ext o);obtain⟨c0,c1,f0,f1⟩:=HR4.out.two;go_wp2
   refine bodyPost_ret (v:=.agg #[.int .i64 s4,.slice q4 n4 m]) (by simp[results,results198,go_sem,c0,c1]) I ⟨_,rfl,⟨_,_,_,_,rfl,L.kp ((Kp.refl _).BY HR4.out.PM U9 _ _)⟩,?_⟩;exact(((((((Ext.refl w).alloc _).alloc _).alloc _).trans hx).trans z).trans c |>.trans f |>.trans o).BY O _ _
  have HSG:Hid (sg (decide (b<0)) (dv W lb-dv W la)=a+b):=by
   show sg _ _=_;rw[HVA.out,HVB.out];exact Sv h
  have HC3:=aa (hcg O);have hll:la.length<=lb.length:=by
   refine Nat.not_lt.1 λhlt=>?_;have:=XX MZ j k hna hlt;omega
  have HGE:Hid (dv W la<=dv W lb):=by show _<=_;omega
  clear h hcl hcg hge;go_wp2_with fail
  refine(ZR _ _ la lb _ k j hna Y i F).mono ?_;rw[HC3.out];rintro e w3 ⟨rfl,c⟩;have H:=i.ext c;have E:=F.ext c;go_wp2_with fail
  refine(DF _ _ lb la _ j k E H O hll HGE.out).mono ?_;rintro e w4 ⟨_,rfl,⟨l3,K,X,U,g⟩,f⟩;have HV3:=aa g;clear g;go_wp2_with fail
  refine(Vb _ _ l3 _ K X U).mono ?_;rw[HV3.out,HSG.out];rintro e w5 ⟨_,rfl,⟨s4,q4,n4,m,rfl,L⟩,o⟩;have HR4:=aa (((HR2.out.ext c).ext f).ext o);obtain⟨c0,c1,f0,f1⟩:=HR4.out.two;go_wp2
  refine bodyPost_ret (v:=.agg #[.int .i64 s4,.slice q4 n4 m]) (by simp[results,results198,go_sem,c0,c1]) I ⟨_,rfl,⟨_,_,_,_,rfl,L.kp ((Kp.refl _).BY HR4.out.PM U9 _ _)⟩,?_⟩;exact(((((((Ext.refl w).alloc _).alloc _).alloc _).trans hx).trans z).trans c |>.trans f |>.trans o).BY O _ _
set_option maxRecDepth 100000 in
set_option maxHeartbeats 800000 in
theorem qN(s a:Int)(w:World)(h0 : -9223372036854775808<=s)(h1:s<=9223372036854775807)(h : -9223372036854775808<=a)(g:a<=9223372036854775807)
  (b : -9223372036854775808<=s+a) (c:s+a<=9223372036854775807) :
  Calls prog 198 #[.agg #[.int .i64 s,.slice none 0 0],.agg #[.int .i64 a,.slice none 0 0]] w λe w'=>ZI w (λv w'=>XL w' v (s+a)) e w':=by
 have i:=λw=>ar (P:=prog) w 83 264 none 0 0 0 0 underlying83;have f:(decide (s<s+a)==decide (0<a))=true:=beq_iff_eq.2 (decide_eq_decide.2 O);have d:(decide (0<a)==decide (0<a))=true:=wu;go_enter func198,ntmps198
 go_wp2_with fail
 exact bodyPost_ret (v:=.agg #[.int .i64 (s+a),.slice none 0 0]) (by simp[results,results198,go_sem]) I ⟨_,rfl,XL.small _ b c,((((Ext.refl _).alloc _).alloc _).alloc _)⟩
theorem Oi(v i:Value)(a b:Int)(w:World)(hv:XL w v a)(f:XL w i b)(ha:sz a<=1000000000)(hb:sz b<=1000000000):
  Calls prog 198 #[v,i] w λe w'=>ZI w (λv w'=>XL w' v (a+b)) e w':=by
 obtain⟨s,q,n,cap,rfl,hp⟩:=hv;obtain⟨d,k,m,j,rfl,c⟩:=f;rcases hp.isNone with ⟨rfl,rfl,rfl,rfl,h0,h1⟩ | ⟨_,_,rfl⟩
 ·rcases c.isNone with ⟨rfl,rfl,rfl,rfl,h,g⟩ | ⟨_,_,rfl⟩
  ·by_cases hl : -9223372036854775808<=s+d/\s+d<=9223372036854775807
   ·exact qN s d w h0 h1 h g hl.1 hl.2
   refine Ea _ _ _ _ _ _ _ _ _ _ w hp c (.inr (.inr ⟨rfl,rfl,?_⟩)) ha hb;simp only[wrap64,beq_eq_false_iff_ne,ne_eq,decide_eq_decide];omega
  exact Ea _ _ _ _ _ _ _ _ _ _ w hp c (.inr (.inl ⟨rfl,rfl⟩)) ha hb
 exact Ea _ _ _ _ _ _ _ _ _ _ w hp c (.inl rfl) ha hb
theorem LZ(v v':Value)(a b:Int)(w:World)(hv:XL w v a)(y:XL w v' b)(ha:sz a<=1000000000)(hb:sz b<=1000000000):
  Calls prog 220 #[v,v'] w λe w'=>ZI w (λv w'=>XL w' v (a-b)) e w':=by
 have HV:=aa hv;have HV':=aa y;obtain⟨s,q,n,cap,rfl,hp⟩:=hv;obtain⟨m,o,x,f,rfl,H⟩:=y;have HBa:=aa (Bx.Iz w (.cells #[.int .i64 m,.slice o x f] 85) (.cells IZ 85) 85 #[.int .i64 s,.slice q n cap]);have HBb:=aa (Bx.zZ w (.cells #[.int .i64 s,.slice q n cap] 85) (.cells IZ 85) 85 #[.int .i64 m,.slice o x f]);have HBr:=aa (Bx.OH w (.cells #[.int .i64 s,.slice q n cap] 85) (.cells #[.int .i64 m,.slice o x f] 85) 85 IZ);have K:sz (-b)<=1000000000:=by rw[Kh];exact hb
 have HE:Hid (a + -b=a-b):=(Int.sub_eq_add_neg).symm;clear hp H;go_enter func220,ntmps220
 go_wp2_with fail
 have g:Ext w (((w.alloc (.cells #[.int .i64 s,.slice q n cap] 85)).alloc (.cells #[.int .i64 m,.slice o x f] 85)).alloc (.cells IZ 85)):=(((Ext.refl w).alloc _).alloc _).alloc _;generalize hW:(((w.alloc (.cells #[.int .i64 s,.slice q n cap] 85)).alloc (.cells #[.int .i64 m,.slice o x f] 85)).alloc (.cells IZ 85))=W0 at *
 have HW:=aa hW;clear hW;obtain⟨k,j,Y,X⟩:=HBa.out.two;obtain⟨i,h,U,L⟩:=HBb.out.two;clear Y X U L;go_region_held3 (λw'=>w'.cell? ⟨w.heap.size,0,none⟩=some (.int .i64 s)/\w'.cell? ⟨w.heap.size,1,none⟩=some (.slice q n cap)/\w'.cell? ⟨w.heap.size+1,0,none⟩=some (.int .i64 m)/\w'.cell? ⟨w.heap.size+1,1,none⟩=some (.slice o x f))
  (first | exact⟨c.cell k,c.cell j,c.cell i,c.cell h⟩ | exact⟨d.cell (c.cell k),d.cell (c.cell j),d.cell (c.cell i),d.cell (c.cell h)⟩ | exact⟨XZ O (XZ O (d.cell (c.cell k))),XZ O (XZ O (d.cell (c.cell j))),XZ O (XZ O (d.cell (c.cell i))),XZ O (XZ O (d.cell (c.cell h)))⟩ | go_keep)
  (first
   |(go_at_call 186;refine(TE _ b _ (HV'.out.ext (g.drew))).mono ?_;rintro e w1 ⟨_,rfl,⟨s1,q1,n1,cap1,rfl,F⟩,c⟩)
   |(go_at_call 198;refine(Oi _ _ a (-b) _ (HV.out.ext ((g.drew).trans c)) ⟨_,_,_,_,rfl,F⟩ ha K).mono ?_;rw[HE.out];rintro e w2 ⟨_,rfl,⟨s2,q2,n2,z,rfl,E⟩,d⟩;obtain⟨c0,c1,f0,f1⟩:=((HBr.out.drew.ext c).ext d).two))
 go_wp2
 refine bodyPost_ret (v:=.agg #[.int .i64 s2,.slice q2 n2 z]) (by simp[results,results220,go_sem,c0,c1]) I ⟨_,rfl,⟨_,_,_,_,rfl,E.kp ((Kp.refl _).BY ((HBr.out.drew.ext c).ext d).PM U9 _ _)⟩,?_⟩;exact((g.drew.trans c).trans d).BY O _ _
def FD(a b:Int):Na (a-b)=ZS a b:=(y7 a b).symm
theorem qC(s a:Int)(w:World):
  Calls prog 157 #[.agg #[.int .i64 s,.slice none 0 0],.agg #[.int .i64 a,.slice none 0 0]] w λe w'=>e = .returned (.int .i64 (ZS s a))/\Ext w w':=by
 have b:=λw=>ar (P:=prog) w 83 264 none 0 0 0 0 underlying83;rcases e8 s a with g | g | g
 ·have HC:=aa (WE g);go_enter func157,ntmps157
  go_wp2
  go_ret
  exact⟨by rw[HC.out];rfl,((Ext.refl _).alloc _).alloc _⟩
 ·subst g;have HC:=aa (M5 s);go_enter func157,ntmps157
  go_wp2
  go_ret
  exact⟨by rw[HC.out];rfl,((Ext.refl _).alloc _).alloc _⟩
 have HC:=aa (Hm g);have c:¬s<a:=O;go_enter func157,ntmps157
 go_wp2
 go_ret
 exact⟨by rw[HC.out];rfl,((Ext.refl _).alloc _).alloc _⟩
theorem OX(v o:Value)(a b:Int)(w:World)(s i:Int)(q d:Option Addr)(n h cap c:Nat)(hv:Yg w s q n cap a)(f:Yg w i d h c b)(E:v = .agg #[.int .i64 s,.slice q n cap])(z:o = .agg #[.int .i64 i,.slice d h c])
  (hc:q.isNone=false\/(q.isNone=true/\d.isNone=false)) (ha:sz a<=1000000000) (hb:sz b<=1000000000) :
  Calls prog 157 #[v,o] w λe w'=>e = .returned (.int .i64 (ZS a b))/\Ext w w':=by
 subst E z;have y:=λw=>ar (P:=prog) w 83 264 q n cap 0 0 underlying83;have m:=λw=>ar (P:=prog) w 83 264 d h c 0 0 underlying83;have HV:Hid (XL w (.agg #[.int .i64 s,.slice q n cap]) a):=⟨_,_,_,_,rfl,hv⟩;have HV':Hid (XL w (.agg #[.int .i64 i,.slice d h c]) b):=⟨_,_,_,_,rfl,f⟩;have HC:=aa (FD a b);clear hv f;rcases hc with h1 | ⟨h1,h2⟩
 all_goals
  rw[h1]at y
  try rw[h2]at m
  go_enter func157,ntmps157
  go_wp2_with fail
  refine(LZ _ _ a b _ (HV.out.ext (((Ext.refl _).alloc _).alloc _)) (HV'.out.ext (((Ext.refl _).alloc _).alloc _)) ha hb).mono ?_;rintro e H ⟨_,rfl,⟨K,L,n1,x,rfl,g⟩,k⟩;have HP1:=aa g;clear g;go_wp2_with fail
  refine(Ug _ (a-b) _ ⟨_,_,_,_,rfl,HP1.out⟩).mono ?_;rw[HC.out];rintro e F ⟨rfl,j⟩;go_wp2
  go_ret
  exact⟨rfl,((((Ext.refl _).alloc _).alloc _).trans k).trans j⟩
theorem pZ(v h:Value)(a b:Int)(w:World)(hv:XL w v a)(d:XL w h b)(ha:sz a<=1000000000)(hb:sz b<=1000000000):
  Calls prog 157 #[v,h] w λe w'=>e = .returned (.int .i64 (ZS a b))/\Ext w w':=by
 obtain⟨s,q,n,cap,g,hp⟩:=hv;obtain⟨j,o,x,i,f,c⟩:=d;rcases hp.isNone with ⟨rfl,rfl,rfl,rfl,h0,h1⟩ | ⟨_,_,rfl⟩
 ·rcases c.isNone with ⟨rfl,rfl,rfl,rfl,m,k⟩ | ⟨_,_,rfl⟩
  ·subst g f;exact qC s j w
  exact OX _ _ _ _ w _ _ _ _ _ _ _ _ hp c g f (.inr ⟨rfl,rfl⟩) ha hb
 exact OX _ _ _ _ w _ _ _ _ _ _ _ _ hp c g f (.inl rfl) ha hb
def Mu{s:Int}(h0 : -9223372036854775808<=s)(h1:s<=9223372036854775807):0<=JZ s/\JZ s<W:=by
 rw[K3];have:=GC;omega
def zW{x y:Int}:J4 x y+W*Xq x y=x*y:=by unfold J4 Xq;rw[ja];exact eM _ _
def zU{s t:Int}:(if(decide (s<0)==decide (t<0))then JZ s*JZ t else -(JZ s*JZ t))=s*t:=by
 unfold JZ;by_cases h1:s<0<;>by_cases h2:t<0<;>simp[h1,h2,bS,jZ]
def xE{s t:Int}:sg (!(decide (s<0)==decide (t<0))) (JZ s*JZ t)=s*t:=by
 rw[<-zU (s:=s) (t:=t)];unfold sg;cases (decide (s<0)==decide (t<0))<;>simp
set_option maxRecDepth 100000 in
set_option maxHeartbeats 2000000 in
theorem CT(s a:Int)(w:World)(h0 : -9223372036854775808<=s)(h1:s<=9223372036854775807)(i : -9223372036854775808<=a)(h:a<=9223372036854775807)
  (o:JZ s*JZ a<=9223372036854775807) :
  Calls prog 156 #[.agg #[.int .i64 s,.slice none 0 0],.agg #[.int .i64 a,.slice none 0 0]] w λe w'=>ZI w (λv w'=>XL w' v (s*a)) e w':=by
 have m:=λw=>ar (P:=prog) w 83 264 none 0 0 0 0 underlying83;have b1:=Mu h0 h1;have b2:=Mu i h;have d:0<=JZ s*JZ a:=fA b1.1 b2.1;have g:Xq (JZ s) (JZ a)=0:=Int.ediv_eq_zero_of_lt d (wg GC);have f:J4 (JZ s) (JZ a)=JZ s*JZ a:=Int.emod_eq_of_lt d (wg GC);have HHI:=aa g;have HLO:=aa f;have HSG:=aa (zU (s:=s) (t:=a));have HBa:=aa (Bx.Iz w (.cells #[.int .i64 a,.slice none 0 0] 85) (.cells IZ 85) 85 #[.int .i64 s,.slice none 0 0]);have HBb:=aa (Bx.zZ w (.cells #[.int .i64 s,.slice none 0 0] 85) (.cells IZ 85) 85 #[.int .i64 a,.slice none 0 0]);generalize JZ s*JZ a=p at *
 clear g f;by_cases c:(decide (s<0)==decide (a<0))=true
 all_goals
  have b:=HSG.out
  first | rw[if_pos c]at b | rw[if_neg c]at b
  have HS2:=aa b
  try have k:(decide (s<0)==decide (a<0))=false:=by simpa using c
  clear b;go_enter func156,ntmps156
  go_wp2_with fail
  go_region_held3 (λw'=>w'.cell? ⟨w.heap.size,0,none⟩=some (.int .i64 s)/\w'.cell? ⟨w.heap.size+1,0,none⟩=some (.int .i64 a))
   (first | go_keep)
   (first
    |(go_at_call 216;(with_reducible refine(Gn s _ h0 h1).mono ?_);rintro e j ⟨rfl,rfl⟩)
    |(go_at_call 216;(with_reducible refine(Gn a _ i h).mono ?_);rintro e j ⟨rfl,rfl⟩)
    |(go_at_call 215;refine(YW _ _ _ b1 b2).mono ?_;rw[HHI.out,HLO.out];rintro e j ⟨rfl,rfl⟩))
  go_wp2
  first
   |exact bodyPost_ret (v:=.agg #[.int .i64 (-p),.slice none 0 0]) (by simp[results,results156,go_sem]) I ⟨_,rfl,by rw[<-HS2.out];exact XL.small _ O O,(((Ext.refl w).alloc _).alloc _).alloc _ |>.drewN 1⟩
   |exact bodyPost_ret (v:=.agg #[.int .i64 p,.slice none 0 0]) (by simp[results,results156,go_sem]) I ⟨_,rfl,by rw[<-HS2.out];exact XL.small _ O O,(((Ext.refl w).alloc _).alloc _).alloc _ |>.drewN 1⟩
set_option maxRecDepth 100000 in
set_option maxHeartbeats 4000000 in
theorem R7(s j:Int)(q d:Option Addr)(n i cap c:Nat)(a b:Int)(w:World)(hv:Yg w s q n cap a)(x:Yg w j d i c b)
  (hc:q.isNone=false\/(q.isNone=true/\d.isNone=false)) (ha:sz a<=1000000000) (hb:sz b<=1000000000) :
  Calls prog 156 #[.agg #[.int .i64 s,.slice q n cap],.agg #[.int .i64 j,.slice d i c]] w λe w'=>ZI w (λv w'=>XL w' v (a*b)) e w':=by
 have hn:=λw=>ar (P:=prog) w 83 264 q n cap 0 0 underlying83;have hn':=λw=>ar (P:=prog) w 83 264 d i c 0 0 underlying83;have HV:Hid (XL w (.agg #[.int .i64 s,.slice q n cap]) a):=⟨_,_,_,_,rfl,hv⟩;have HV':Hid (XL w (.agg #[.int .i64 j,.slice d i c]) b):=⟨_,_,_,_,rfl,x⟩;have HBb:=aa (Bx.zZ w (.cells #[.int .i64 s,.slice q n cap] 85) (.cells IZ 85) 85 #[.int .i64 j,.slice d i c]);have HBr:=aa (Bx.OH w (.cells #[.int .i64 s,.slice q n cap] 85) (.cells #[.int .i64 j,.slice d i c] 85) 85 IZ);clear hv x;rcases hc with h1 | ⟨h1,h2⟩
 all_goals
  rw[h1]at hn
  try rw[h2]at hn'
  go_enter func156,ntmps156
  go_wp2_with fail
  refine(YV _ a _ (HV.out.ext ((((Ext.refl _).alloc _).alloc _).alloc _))).mono ?_;rintro e w1 ⟨_,rfl,⟨p,la,rfl,K,E,Y,h⟩,hx⟩;have HB1:=aa (HBb.out.ext hx);have HR1:=aa (HBr.out.ext hx);obtain⟨c0,c1,f0,f1⟩:=HB1.out.two;have hlea:=Xr E Y h ha;have HVA:=aa h;clear h;go_wp2_with fail
  refine(YV _ b _ (HV'.out.ext (((((Ext.refl _).alloc _).alloc _).alloc _).trans hx))).mono ?_;rintro e w2 ⟨_,rfl,⟨p',lb,rfl,H,z,X,g⟩,f⟩;have HR2:=aa (HR1.out.ext f);have hleb:=Xr z X g hb;have HVB:=aa g;clear g c0 c1 f0 f1;have y:=K.ext f;have HSG:Hid (sg (!(decide (a<0)==decide (b<0))) (dv W la*dv W lb)=a*b):=by
   show sg _ _=_;rw[HVA.out,HVB.out];exact xE
  go_wp2_with fail
  refine(DX _ _ la lb _ E z y H O O).mono ?_;rintro e w3 ⟨_,rfl,⟨l3,L,hd3,hn3,o⟩,m⟩;have HV3:=aa o;clear o;go_wp2_with fail
  refine(Vb _ _ l3 _ L hd3 hn3).mono ?_;rw[HV3.out,HSG.out];rintro e w4 ⟨_,rfl,⟨s4,q4,n4,F,rfl,U⟩,k⟩;have HR4:=aa ((HR2.out.ext m).ext k);obtain⟨c0,c1,f0,f1⟩:=HR4.out.two;go_wp2
  refine bodyPost_ret (v:=.agg #[.int .i64 s4,.slice q4 n4 F]) (by simp[results,results156,go_sem,c0,c1]) I ⟨_,rfl,⟨_,_,_,_,rfl,U.kp ((Kp.refl _).BY HR4.out.PM U9 _ _)⟩,?_⟩;exact(((((((Ext.refl w).alloc _).alloc _).alloc _).trans hx).trans f).trans m |>.trans k).BY O _ _
set_option maxRecDepth 100000 in
set_option maxHeartbeats 4000000 in
theorem zV(s a:Int)(w:World)(h0 : -9223372036854775808<=s)(h1:s<=9223372036854775807)(j : -9223372036854775808<=a)(i:a<=9223372036854775807)
  (hl:9223372036854775808<=JZ s*JZ a) (ha:sz s<=1000000000) (hb:sz a<=1000000000) :
  Calls prog 156 #[.agg #[.int .i64 s,.slice none 0 0],.agg #[.int .i64 a,.slice none 0 0]] w λe w'=>ZI w (λv w'=>XL w' v (s*a)) e w':=by
 have hn:=λw=>ar (P:=prog) w 83 264 none 0 0 0 0 underlying83;have b1:=Mu h0 h1;have b2:=Mu j i;have HV:=aa (XL.small w h0 h1);have HV':=aa (XL.small w j i);have HBa:=aa (Bx.Iz w (.cells #[.int .i64 a,.slice none 0 0] 85) (.cells IZ 85) 85 #[.int .i64 s,.slice none 0 0]);have HBb:=aa (Bx.zZ w (.cells #[.int .i64 s,.slice none 0 0] 85) (.cells IZ 85) 85 #[.int .i64 a,.slice none 0 0]);have HBr:=aa (Bx.OH w (.cells #[.int .i64 s,.slice none 0 0] 85) (.cells #[.int .i64 a,.slice none 0 0] 85) 85 IZ);have K:=zW (x:=JZ s) (y:=JZ a);have E:Xq (JZ s) (JZ a)≠0\/9223372036854775808<=J4 (JZ s) (JZ a):=by
  by_cases h:Xq (JZ s) (JZ a)=0
  ·right;rw[h]at K;omega
  exact .inl h
 have f:(Xq (JZ s) (JZ a)==0)=false\/((Xq (JZ s) (JZ a)==0)=true/\9223372036854775808<=J4 (JZ s) (JZ a)):=by
  by_cases h:Xq (JZ s) (JZ a)=0
  ·exact .inr ⟨by simpa using h,by rcases E with g | g;exact absurd h g;exact g⟩
  exact .inl (by simpa using h)
 clear E K hl;generalize H:Xq (JZ s) (JZ a)=mh at *
 generalize F:J4 (JZ s) (JZ a)=ml at *
 have HMH:=aa H;have HML:=aa F;clear H F;rcases f with g1 | ⟨g1,g2⟩
 all_goals
  go_enter func156,ntmps156
  go_wp2_with fail
  go_region_held3 (λw'=>w'.cell? ⟨w.heap.size,0,none⟩=some (.int .i64 s)/\w'.cell? ⟨w.heap.size+1,0,none⟩=some (.int .i64 a))
   (first | go_keep)
   (first
    |(go_at_call 216;(with_reducible refine(Gn s _ h0 h1).mono ?_);rintro e Y ⟨rfl,rfl⟩)
    |(go_at_call 216;(with_reducible refine(Gn a _ j i).mono ?_);rintro e Y ⟨rfl,rfl⟩)
    |(go_at_call 215;refine(YW _ _ _ b1 b2).mono ?_;rw[HMH.out,HML.out];rintro e Y ⟨rfl,rfl⟩))
  go_wp2_with fail
  refine(YV _ s _ (HV.out.ext (((((Ext.refl _).alloc _).alloc _).alloc _).drew))).mono ?_;rintro e Y ⟨_,rfl,⟨p,la,rfl,hsa,U,hna,d⟩,hx⟩;have HB1:=aa (HBb.out.drew.ext hx);have HR1:=aa (HBr.out.drew.ext hx);obtain⟨c0,c1,f0,f1⟩:=HB1.out.two;have hlea:=Xr U hna d ha;have HVA:=aa d;clear d;go_wp2_with fail
  refine(YV _ a _ (HV'.out.ext ((((((Ext.refl _).alloc _).alloc _).alloc _).drew).trans hx))).mono ?_;rintro e w2 ⟨_,rfl,⟨p',lb,rfl,hsb,L,hnb,c⟩,b⟩;have HR2:=aa (HR1.out.ext b);have hleb:=Xr L hnb c hb;have HVB:=aa c;clear c c0 c1 f0 f1;have z:=hsa.ext b;have HSG:Hid (sg (!(decide (s<0)==decide (a<0))) (dv W la*dv W lb)=s*a):=by
   show sg _ _=_;rw[HVA.out,HVB.out];exact xE
  go_wp2_with fail
  refine(DX _ _ la lb _ U L z hsb O O).mono ?_;rintro e w3 ⟨_,rfl,⟨l3,hs3,hd3,hn3,o⟩,m⟩;have HV3:=aa o;clear o;go_wp2_with fail
  refine(Vb _ _ l3 _ hs3 hd3 hn3).mono ?_;rw[HV3.out,HSG.out];rintro e w4 ⟨_,rfl,⟨s4,q4,n4,X,rfl,hp4⟩,k⟩;have HR4:=aa ((HR2.out.ext m).ext k);obtain⟨c0,c1,f0,f1⟩:=HR4.out.two;go_wp2
  refine bodyPost_ret (v:=.agg #[.int .i64 s4,.slice q4 n4 X]) (by simp[results,results156,go_sem,c0,c1]) I ⟨_,rfl,⟨_,_,_,_,rfl,hp4.kp ((Kp.refl _).BY HR4.out.PM U9 _ _)⟩,?_⟩;exact((((((((Ext.refl w).alloc _).alloc _).alloc _).drew).trans hx).trans b).trans m |>.trans k).BY O _ _
theorem gm(v i:Value)(a b:Int)(w:World)(hv:XL w v a)(h:XL w i b)(ha:sz a<=1000000000)(hb:sz b<=1000000000):
  Calls prog 156 #[v,i] w λe w'=>ZI w (λv w'=>XL w' v (a*b)) e w':=by
 obtain⟨s,q,n,cap,rfl,hp⟩:=hv;obtain⟨g,m,o,j,rfl,c⟩:=h;rcases hp.isNone with ⟨rfl,rfl,rfl,rfl,h0,h1⟩ | ⟨_,_,rfl⟩
 ·rcases c.isNone with ⟨rfl,rfl,rfl,rfl,f,d⟩ | ⟨_,_,rfl⟩
  ·by_cases k:JZ s*JZ g<=9223372036854775807
   ·exact CT s g w h0 h1 f d k
   exact zV s g w h0 h1 f d O ha hb
  exact R7 _ _ _ _ _ _ _ _ _ _ w hp c (.inr ⟨rfl,rfl⟩) ha hb
 exact R7 _ _ _ _ _ _ _ _ _ _ w hp c (.inl rfl) ha hb
theorem QBS(n:Int)(w:World)(h0 : -9223372036854775808<=n)(h1:n<=9223372036854775807):
  Calls prog 143 #[.int .i64 n] w λe w'=>ZI w (λv w'=>XL w' v n) e w':=by
 go_enter func143,ntmps143
 go_wp2
 exact bodyPost_ret (v:=.agg #[.int .i64 n,.slice none 0 0]) (by simp[results,results143,go_sem]) I ⟨_,rfl,XL.small _ h0 h1,(Ext.refl _).alloc _⟩
def F8{b:Int}(hb:0<b):(0<=a.tmod b->a.tdiv b=a/b/\a.tmod b=a%b)/\(a.tmod b<0->a.tdiv b-1=a/b/\a.tmod b+b=a%b):=by
 have h1:=Int.mul_tdiv_add_tmod a b;have h3:a.tmod b<b/\-b<a.tmod b:=by
  have:=ek a hb;refine⟨this,?_⟩;have h:=ek (-a) hb;rw[iY]at h;omega
 generalize a.tdiv b=q at *
 generalize a.tmod b=r at *
 constructor
 ·intro hr;have g1:q*b<=a:=by rw[az];omega
  have c:a<(q+1)*b:=by rw[fi,az q];omega
  exact⟨(ZQ hb g1 c).symm,by rw[Zo g1 c,az q];omega⟩
 intro hr;have g1:(q-1)*b<=a:=by rw[fg,az q];omega
 have c:a<(q-1+1)*b:=by rw[show q-1+1=q from by omega,az];omega
 exact⟨(ZQ hb g1 c).symm,by rw[Zo g1 c,fg,az q];omega⟩
def QHQ(a b:Int)(r:Value)(w':World):Prop:=∃v v',r = .tuple #[v,v']/\XL w' v (a/b)/\XL w' v' (a%b)
set_option maxRecDepth 100000 in
set_option maxHeartbeats 400000 in
theorem Th(s b:Int)(w:World)(h0 : -9223372036854775807<=s)(h1:s<=9223372036854775807)(d:0<b)(o:b<=9223372036854775807):
  Calls prog 268 #[.agg #[.int .i64 s,.slice none 0 0],.agg #[.int .i64 b,.slice none 0 0]] w λe w'=>ZI w (QHQ s b) e w':=by
 have y:=λw=>ar (P:=prog) w 83 264 none 0 0 0 0 underlying83;have hm:(s != -9223372036854775808)=true:=wv;have hz:(b==0)=false:=wv;have g:=F8 (a:=s) d;have HT:=aa g;have m : -9223372036854775807<=s.tdiv b/\s.tdiv b<=9223372036854775807:=by
  have h:=Int.natAbs_tdiv_le_natAbs s b;omega
 have k : -9223372036854775807<=s.tmod b/\s.tmod b<=9223372036854775807:=by
  have:=ek s d;have h:=ek (-s) d;rw[iY]at h;omega
 clear g;have c:Hid (-9223372036854775808<=s/b/\s/b<=9223372036854775807/\0<=s%b/\s%b<=9223372036854775807):=by
  have f:=bA s (by omega:b≠0);have x:=aZ s d;by_cases hr:0<=s.tmod b
  ·have:=HT.out.1 hr;exact⟨O,O,f,O⟩
  have:=HT.out.2 O;exact⟨O,O,f,O⟩
 by_cases hr:0<=s.tmod b
 ·have HR:=aa (HT.out.1 hr);go_enter func268,ntmps268
  go_wp2_with fail
  go_quiet (fail)
  go_wp2
  refine bodyPost_ret (v:=.tuple #[.agg #[.int .i64 (s.tdiv b),.slice none 0 0],.agg #[.int .i64 (s.tmod b),.slice none 0 0]]) (by simp[results,results268,go_sem]) I ⟨_,rfl,⟨_,_,rfl,?_,?_⟩,?_⟩
  ·rw[HR.out.1];exact XL.small _ c.out.1 c.out.2.1
  ·rw[HR.out.2];exact XL.small _ (wg c.out) c.out.2.2.2
  repeat (first | (with_reducible exact Ext.refl _) | (with_reducible refine Ext.drewN ?_ _) | (with_reducible refine Ext.drew ?_) | (with_reducible refine Ext.alloc ?_ _) | (with_reducible refine Ext.Xh ?_ (by dsimp only;omega) _))
 have HR:=aa (HT.out.2 O);have j:IntKind.i64.wrap (s.tdiv b-1)=s.tdiv b-1:=bD _ (by have:=HR.out;have:=c.out;omega);have i:IntKind.i64.wrap (s.tmod b+b)=s.tmod b+b:=bD _ O;have hr:s.tmod b<0:=O;go_enter func268,ntmps268
 go_wp2_with fail
 go_quiet (fail)
 go_wp2
 go_quiet (fail)
 go_wp2
 refine bodyPost_ret (v:=.tuple #[.agg #[.int .i64 (s.tdiv b-1),.slice none 0 0],.agg #[.int .i64 (s.tmod b+b),.slice none 0 0]]) (by simp[results,results268,go_sem]) I ⟨_,rfl,⟨_,_,rfl,?_,?_⟩,?_⟩
 ·rw[HR.out.1];exact XL.small _ c.out.1 c.out.2.1
 ·rw[HR.out.2];exact XL.small _ (wg c.out) c.out.2.2.2
 repeat (first | (with_reducible exact Ext.refl _) | (with_reducible refine Ext.drewN ?_ _) | (with_reducible refine Ext.drew ?_) | (with_reducible refine Ext.alloc ?_ _) | (with_reducible refine Ext.Xh ?_ (by dsimp only;omega) _))
def Pr(F:Gs)(w:World):Prop:=∀b c T,F b=some (c,T)->∃fr,w.heap[b]?=some (.cells c T fr)
def Fits.r(h:Fits F w):Pr F w:=h.row
theorem Pr.le(h:Pr F' w)(k:Gs.le F F'):Pr F w:=λb c T e=>h b c T (k b _ e)
def FN(w w':World):Prop:=∀(b:Nat) (c:Array Value) (fr:Nat×Nat),w.heap[b]?=some (.cells c 264 fr)->∃fr',w'.heap[b]?=some (.cells c 264 fr')
theorem Kd.GK(h:FN w w'){b:Nat}(hb:Kd w b 264):Kd w' b 264:=by
 obtain⟨c,fr,e⟩:=hb;obtain⟨a,d⟩:=h b c fr e;exact⟨c,a,d⟩
theorem Cells.GK(h:FN w w'){q:Option Addr}{l:List Int}(hc:Cells w q JR l):Cells w' q JR l:=by
 intro i hi;obtain⟨b,off,e,ht,a⟩:=hc i hi;refine⟨b,off,e,Kd.GK h ht,?_⟩;obtain⟨c,fr,hb⟩:=ht;obtain⟨f,d⟩:=h b c fr hb;have j:w.cell? ⟨b,off+i,none⟩=c[off+i]?:=by simp[World.cell?,hb]
 have g:w'.cell? ⟨b,off+i,none⟩=c[off+i]?:=by simp[World.cell?,d]
 simp_all
theorem SL.GK(h:FN w w'){v:Value}{l:List Int}(a:SL w v JR l):SL w' v JR l:=by
 obtain⟨q,cap,h1,h2,h3,h4⟩:=a;exact⟨q,cap,h1,h2,h3,h4.GK h⟩
theorem Yg.GK(h:FN w w'){s:Int}{q:Option Addr}{n cap:Nat}{z:Int}(hv:Yg w s q n cap z):Yg w' s q n cap z:=by
 rcases hv with hv | ⟨b,off,l,h1,h2,h3,h4,h5,h6⟩
 ·exact .inl hv
 exact .inr ⟨b,off,l,h1,h2,h3,h4,h5.GK h,h6⟩
theorem QU.lift{f:FuncId}{val:γ->Value}{R:γ->World->Prop}(pr:γ->Prop)(he:Enters P f)(g:Fits F w)
  (h:Calls P f args.toArray w λe w'=>∃c,e = .returned (val c)/\R c w'/\pr c/\Ext w w') (k:∀c w' w'',FN w' w''->R c w'->R c w''):QU P f args w F val (λc F=>(∀w,Pr F w->R c w)/\pr c):=by
 refine⟨he,h.mono ?_⟩;rintro e w' ⟨c,rfl,hr,i,hx⟩;refine⟨c,λb=>if b<w.heap.size then F b else match w'.heap[b]? with | some (.cells c T _)=>if T=264 then some (c,264)else none | _=>none,rfl,.of hx,?_,?_,⟨?_,?_⟩,?_⟩
 ·intro b x hb;show(if b<w.heap.size then _ else _)=_;rw[if_pos (g.lt hb)];exact hb
 ·simp_all
 ·intro b c T hb;by_cases a:b<w.heap.size
  ·rw[if_pos a]at hb;obtain⟨fr,e⟩:=g.row b c T hb;exact⟨fr,by rw[hx.block b a];exact e⟩
  grind
 ·intro b c fr hb;by_cases a:b<w.heap.size
  ·rw[if_pos a];rw[hx.block b a]at hb;exact g.all b c fr hb
  grind
 intro F'' j;refine⟨λw'' d=>?_,i⟩;refine k c w' w'' (λb c fr hb=>?_) hr;refine d b c _ (j b _ ?_);show(if b<w.heap.size then _ else _)=_;by_cases a:b<w.heap.size
 ·rw[if_pos a];rw[hx.block b a]at hb;exact g.all b c fr hb
 grind
structure Bg where
 s:Int
 q:Option Addr
 n:Nat
 cap:Nat
variable{g g':Bg}
@[reducible] def Bg.v (g:Bg):Value:=.agg #[.int .i64 g.s,.slice g.q g.n g.cap]
def Jt(F:Gs)(g:Bg)(z:Int):Prop:=∀w,Pr F w->Yg w g.s g.q g.n g.cap z
theorem Jt.le(h:Jt F g z)(k:Gs.le F F'):Jt F' g z:=λw a=>h w (a.le k)
instance{g:Bg}{z:Int}: Up (λF=>Jt F g z):=⟨λk h=>Jt.le h k⟩
def Jt.at(h:Jt F g z){w:World}(a:Fits F w):XL w g.v z:=⟨_,_,_,_,rfl,h w a.r⟩
def Jt.small(F:Gs){z:Int}(h0 : -9223372036854775808<=z)(h1:z<=9223372036854775807):Jt F ⟨z,none,0,0⟩ z:=λ_ _=>.inl ⟨rfl,rfl,rfl,rfl,h0,h1⟩
abbrev ZU(P:Program)(f:FuncId)(args:List Value)(w:World)(F:Gs)(z:Int):Prop:=QU P f args w F Bg.v λg F=>Jt F g z
theorem ZU.of{f:FuncId}(he:Enters P f)(i:Fits F w)(h:Calls P f args.toArray w λe w'=>ZI w (λv w'=>XL w' v z) e w'):ZU P f args w F z:=by
 refine(QU.lift (λ_=>True) he i (h.mono ?_) λc w' b d hr=>hr.GK d).imp λc F' g=>⟨c,rfl,λF'' a=>Jt.le g.1 a⟩;rintro e w' ⟨v,rfl,⟨s,q,n,cap,rfl,hp⟩,hx⟩;exact⟨⟨s,q,n,cap⟩,rfl,hp,trivial,hx⟩
abbrev QX[Dr](P:Program)(f:FuncId)(args:List Value)(w:World)(F:Gs)(v:Value):Prop:=QU P f args w F (λ(_:Unit)=>v) λ_ _=>True
theorem QX.of{f:FuncId}{v:Value}(he:Enters P f)(a:Fits F w)(h:Calls P f args.toArray w λe w'=>e = .returned v/\Ext w w'):QX P f args w F v:=by
 have:=QU.lift (val:=λ_=>v) (R:=λ_ _=>True) (λ_=>True) he a (h.mono λe w' ⟨h1,h2⟩=>⟨(),h1,trivial,trivial,h2⟩) (λ_ _ _ _ h=>h);simp_all
section
variable{w:World}{F:Gs}{g g':Bg}{a b:Int}
theorem Ny(b:Fits F w)(h:Jt F g a):QX prog 190 [g.v] w F (.int .i64 (Na a)) :=
 .of (enters_of func190 wm rfl) b (Ug _ a w (h.at b))
theorem AD(b:Fits F w)(h:Jt F g a):ZU prog 186 [g.v] w F (-a) :=
 .of (enters_of func186 wm rfl) b (TE _ a w (h.at b))
theorem QAV(b:Fits F w)(h:Jt F g a):ZU prog 267 [g.v] w F (JZ a) :=
 .of (enters_of func267 wm rfl) b (uD _ a w (h.at b))
theorem Oh(c:Fits F w)(h:Jt F g a)(d:Jt F g' b)(ha:sz a<=1000000000)(hb:sz b<=1000000000):ZU prog 198 [g.v,g'.v] w F (a+b) :=
 .of (enters_of func198 wm rfl) c (Oi _ _ a b w (h.at c) (d.at c) ha hb)
theorem QE0(c:Fits F w)(h:Jt F g a)(d:Jt F g' b)(ha:sz a<=1000000000)(hb:sz b<=1000000000):ZU prog 220 [g.v,g'.v] w F (a-b) :=
 .of (enters_of func220 wm rfl) c (LZ _ _ a b w (h.at c) (d.at c) ha hb)
theorem BE(c:Fits F w)(h:Jt F g a)(d:Jt F g' b)(ha:sz a<=1000000000)(hb:sz b<=1000000000):ZU prog 156 [g.v,g'.v] w F (a*b) :=
 .of (enters_of func156 wm rfl) c (gm _ _ a b w (h.at c) (d.at c) ha hb)
theorem QGk(c:Fits F w)(h:Jt F g a)(d:Jt F g' b)(ha:sz a<=1000000000)(hb:sz b<=1000000000):QX prog 157 [g.v,g'.v] w F (.int .i64 (ZS a b)) :=
 .of (enters_of func157 wm rfl) c (pZ _ _ a b w (h.at c) (d.at c) ha hb)
theorem CO{n:Int}(a:Fits F w)(h0 : -9223372036854775808<=n)(h1:n<=9223372036854775807):ZU prog 143 [.int .i64 n] w F n :=
 .of (enters_of func143 wm rfl) a (QBS n w h0 h1)
end
structure Sr where
 q:Option Addr
 n:Nat
 cap:Nat
variable{ra rb:Sr}
@[reducible] def Sr.v (r:Sr):Value:=.slice r.q r.n r.cap
def Ke(F:Gs)(r:Sr)(l:List Int):Prop:=(∀w,Pr F w->SL w r.v JR l)/\DG W l/\NZ l
theorem Ke.le{r:Sr}(h:Ke F r l)(k:Gs.le F F'):Ke F' r l:=⟨λw a=>h.1 w (a.le k),h.2⟩
section
variable{w:World}{F:Gs}{g g':Bg}{a b:Int}
theorem Mo(i:Fits F w)(h:Jt F g a):QU prog 217 [g.v] w F (λ(c:Sr×List Int)=>.tuple #[.bool (decide (a<0)),.slice c.1.q c.1.n c.1.cap]) (λc F=>Ke F c.1 c.2/\dv W c.2=JZ a):=by
 refine(QU.lift (λc=>DG W c.2/\NZ c.2/\dv W c.2=JZ a)
  (enters_of func217 wm rfl) i ((YV _ a w (h.at i)).mono ?_) λc w' j d hr=>hr.GK d).imp λc F' b=>⟨c,rfl,λF'' f=>⟨Ke.le ⟨b.1,b.2.1,b.2.2.1⟩ f,b.2.2.2⟩⟩
 rintro e w' ⟨_,rfl,⟨p,l,rfl,d,h1,h2,h3⟩,hx⟩;obtain⟨q,cap,rfl,k⟩:=d;exact⟨(⟨q,l.length,cap⟩,l),rfl,⟨q,cap,rfl,k⟩,⟨h1,h2,h3⟩,hx⟩
theorem zj{neg:Bool}{r:Sr}(a:Fits F w)(h:Ke F r l):ZU prog 218 [.bool neg,r.v] w F (sg neg (dv W l)) :=
 .of (enters_of func218 wm rfl) a (Vb neg _ l w (h.1 w a.r) h.2.1 h.2.2)
theorem Ar{r r':Sr}(z:Fits F w)(h:Ke F r la)(E:Ke F r' lb)(y:lb≠[])(h1:la.length<=10000000000)(h2:lb.length<=10000000000):
  QU prog 262 [r.v,r'.v] w F (λ(c:(Sr×List Int)×(Sr×List Int))=>.tuple #[.slice c.1.1.q c.1.1.n c.1.1.cap,.slice c.2.1.q c.2.1.n c.2.1.cap])
   (λc F=>(Ke F c.1.1 c.1.2/\Ke F c.2.1 c.2.2)/\dv W c.1.2=dv W la/dv W lb/\dv W c.2.2=dv W la%dv W lb):=by
 refine(QU.lift (val:=λ(c:(Sr×List Int)×(Sr×List Int))=>.tuple #[.slice c.1.1.q c.1.1.n c.1.1.cap,.slice c.2.1.q c.2.1.n c.2.1.cap]) (R:=λc w=>SL w c.1.1.v JR c.1.2/\SL w c.2.1.v JR c.2.2)
  (λc=>(DG W c.1.2/\NZ c.1.2)/\(DG W c.2.2/\NZ c.2.2)/\dv W c.1.2=dv W la/dv W lb/\dv W c.2.2=dv W la%dv W lb)
  (enters_of func262 wm rfl) z ((I4 _ _ la lb w h.2.1 E.2.1 h.2.2 E.2.2 (h.1 w z.r) (E.1 w z.r) y h1 h2).mono ?_) λc w' U L hr=>⟨hr.1.GK L,hr.2.GK L⟩).imp
  λc F' d=>⟨c,rfl,λF'' b=>⟨⟨Ke.le ⟨λw f=>(d.1 w f).1,d.2.1⟩ b,Ke.le ⟨λw f=>(d.1 w f).2,d.2.2.1⟩ b⟩,d.2.2.2⟩⟩
 rintro e w' ⟨_,rfl,⟨Y,pr,lq,K,rfl,k,j,x,o,i,g⟩,hx⟩;obtain⟨q,cap,rfl,X⟩:=k;obtain⟨H,a,rfl,m⟩:=j;exact⟨((⟨q,lq.length,cap⟩,lq),(⟨H,K.length,a⟩,K)),rfl,⟨⟨q,cap,rfl,X⟩,⟨H,a,rfl,m⟩⟩,⟨x,o,i,g⟩,hx⟩
end
def Dg{b:Int}(hb:0<b):
  (0<=sg (decide (a<0)) (JZ a%b)->sg (decide (a<0)) (JZ a/b)=a/b/\sg (decide (a<0)) (JZ a%b)=a%b) /\
  (sg (decide (a<0)) (JZ a%b)<0->sg (decide (a<0)) (JZ a/b)-1=a/b/\sg (decide (a<0)) (JZ a%b)+b=a%b):=by
 have g:=eM (JZ a) b;have j:=bA (JZ a) (by omega:b≠0);have i:=aZ (JZ a) hb;generalize JZ a/b=q at *
 generalize hr:JZ a%b=r at *
 by_cases h:a<0
 ·rw[Da h]at g;have f:sg (decide (a<0)) r = -r:=by simp[sg,h]
  have d:sg (decide (a<0)) q = -q:=by simp[sg,h]
  rw[f,d];constructor
  ·intro h0;have:r=0:=O;have g1 : -q*b<=a:=by rw[bS,az];omega
   have c:a<(-q+1)*b:=by rw[fi,bS,az q];omega
   exact⟨(ZQ hb g1 c).symm,by rw[Zo g1 c,bS,az q];omega⟩
  intro h0;have g1:(-q-1)*b<=a:=by rw[fg,bS,az q];omega
  have c:a<(-q-1+1)*b:=by rw[show -q-1+1 = -q from by omega,bS,az];omega
  exact⟨(ZQ hb g1 c).symm,by rw[Zo g1 c,fg,bS,az q];omega⟩
 rw[Wl O]at g hr;have f:sg (decide (a<0)) r=r:=by simp[sg,h]
 have d:sg (decide (a<0)) q=q:=by simp[sg,h]
 rw[f,d];constructor
 ·intro _;have g1:q*b<=a:=by rw[az];omega
  have c:a<(q+1)*b:=by rw[fi,az q];omega
  exact⟨(ZQ hb g1 c).symm,by rw[Zo g1 c,az q];omega⟩
 intro h0;omega
def YS(x:Int):Na x<0↔x<0:=by unfold Na;split<;>(try split)<;>omega
def UY(a b:Int):sz (JZ a/b)<=sz a:=by
 rw[<-Mk a];apply VR;exact eu _ _
def uf(n:Bool)(x:Int):sz (sg n x)=sz x:=by unfold sg;split<;>simp[Kh]
def LY{b:Int}(hb:0<b):sz (a%b)<=sz b:=by
 apply VR;have:=bA a (by omega:b≠0);have:=aZ a hb;omega
abbrev Sf(P:Program)(f:FuncId)(args:List Value)(w:World)(F:Gs)(y z:Int):Prop:=QU P f args w F (λ(c:Bg×Bg)=>.tuple #[c.1.v,c.2.v]) λc F=>Jt F c.1 y/\Jt F c.2 z
theorem I2{b:Int}(y:Fits F w)(h:Jt F g a)(h':Jt F g' b)(hb0:0<b)(hza:sz a<=1000000000)(hzb:sz b<=1000000000)(hcase:g.q.isNone=true->g'.q.isNone=true->(g.s != -9223372036854775808)=false):
  Sf prog 268 [g.v,g'.v] w F (a/b) (a%b):=by
 refine QU.go (G:=λF=>Jt F g a/\Jt F g' b) func268 y ⟨h,h'⟩ ?_;refine QG<|QB ?_
 refine Qv I (vs:=[_,_]) I (λb2=>?_);refine Qv I (vs:=[_,_]) I (λb3=>?_);refine Qe GR (λb4=>?_);refine Qe GR (λb5=>?_);refine QMt<|QG ?_
 refine By 28 (.bool false) ?_ ?_
 ·refine QB<|QA (QH I EO GH)<|QA (Qa I GH .u3 (.skip .h1))<|QA (Wf I I VV)<|QMu I ?_
  refine QY (t:=19) rfl (λhb19=>?_) λhb19=>?_
  ·refine QJ I I<|QA (QH I EO GH)<|QJ I I<|QA (Qa I GH .u2 (.skip .h1))<|QJ I I<|QA (Wf I I VV)<|wB 2 I ?_
   refine QY (t:=24) rfl (λY=>?_) λY=>?_
   ·refine QJ I I<|QA (QH I PV Qo)<|QJ I I<|QA (Qa I Qo .u3 .h1)<|wB 4 I ?_
    exact Xn (exd 15 rfl rfl) (congrArg (λb=>some (aj b)) (hcase hb19 Y)) QNG w6
   refine wB 5 I ?_;exact Xn (exd 15 rfl rfl) rfl QNG w6
  refine wB 10 I ?_;exact Xn (exd 14 rfl rfl) rfl QNG w6
 refine Zq I ?_
 ·refine QOn 4 I<|QA (wH I Qj .u3) ?_
  refine QL I (λw F y ⟨ha,hb⟩=>Mo y (by assumption)) (λc53=>?_);rcases c53 with ⟨v53,l53⟩;dsimp only;refine J5 _ (λw F y ⟨⟨ha,hb⟩,⟨o,d⟩⟩=>bN o.2 d) (λU=>?_);have hl53:=Xr U.1.1 U.1.2 U.2 hza;refine QOm 9 I<|QA (wH I Qj .u2) ?_
  refine QL I (λw F y ⟨⟨ha,hb⟩,⟨o,d⟩⟩=>Mo y (by assumption)) (λc58=>?_);rcases c58 with ⟨v58,l58⟩;dsimp only;refine J5 _ (λw F y ⟨⟨⟨ha,hb⟩,⟨o,d⟩⟩,⟨x,i⟩⟩=>bN x.2 i) (λL=>?_);have hl58:=Xr L.1.1 L.1.2 L.2 hzb;have hb58:l58≠[]:=by rintro rfl;have:=L.2;rw[Wl O]at this;simp at this;omega
  refine QOm 11 I ?_;refine QL I (λw F y ⟨⟨⟨ha,hb⟩,⟨o,d⟩⟩,⟨x,i⟩⟩=>Ar y (by assumption) (by assumption) hb58 O O) (λc64=>?_);rcases c64 with ⟨⟨v64,l64⟩,v64_,l64_⟩;dsimp only;refine J5 _ (λw F y ⟨⟨⟨⟨ha,hb⟩,⟨o,d⟩⟩,⟨x,i⟩⟩,⟨⟨H,m⟩,j⟩⟩=>bN H.2 (bN m.2 j)) (λz=>?_);rw[U.2,L.2,Wl (show 0<=b by omega)]at z;refine QOm 11 I ?_;refine QL I (λw F y ⟨⟨⟨⟨ha,hb⟩,⟨o,d⟩⟩,⟨x,i⟩⟩,⟨⟨H,m⟩,j⟩⟩=>zj y (by assumption)) (λg69=>?_);refine wB 2 I ?_;refine QL I (λw F y ⟨⟨⟨⟨⟨ha,hb⟩,⟨o,d⟩⟩,⟨x,i⟩⟩,⟨⟨H,m⟩,j⟩⟩,E⟩=>zj y (by assumption)) (λg72=>?_);refine Qe GR (λb14=>?_);refine Qe GR (λb15=>?_);refine QV (vs:=[_,_]) I I I Qj I .u1 .h2 wT<|QV (vs:=[_,_]) I I I Qj I .here .h2 wT<|QOm 5 I<|QA (wH I Qj .here) ?_
  refine QL I (λw F y ⟨⟨⟨⟨⟨⟨ha,hb⟩,⟨o,d⟩⟩,⟨x,i⟩⟩,⟨⟨H,m⟩,j⟩⟩,E⟩,K⟩=>Ny y (by assumption)) (λ_=>?_);refine QOm 3 I ?_;have hsz72:sz (sg (decide (a<0)) (dv W l64_))<=1000000000:=by rw[uf,z.2.2.2];exact af (LY hb0) hzb
  have hsz69:sz (sg (decide (a<0)) (dv W l64))<=1000000000:=by rw[uf,z.2.2.1];exact af (UY a b) hza
  refine QP I (λhc=>?_) λhc=>?_
  ·refine Jq 6 QNG mixed wi wi ?_;simp only[aT,bH,aV,bw];refine QK (wH I Qj .u1) ?_;refine QZ I (λ_ _ f k=>CO f O O) (λg77=>?_);refine QZ I (λw F y ⟨⟨⟨⟨⟨⟨⟨⟨ha,hb⟩,⟨o,d⟩⟩,⟨x,i⟩⟩,⟨⟨H,m⟩,j⟩⟩,E⟩,K⟩,_⟩,h77⟩=>QE0 y (by assumption) (by assumption) hsz69 wj) (λg78=>?_);refine QK (wH I Qj .here)<|QK (wH I Qj .u4) ?_
   refine QZ I (λw F y ⟨⟨⟨⟨⟨⟨⟨⟨⟨ha,hb⟩,⟨o,d⟩⟩,⟨x,i⟩⟩,⟨⟨H,m⟩,j⟩⟩,E⟩,K⟩,_⟩,h77⟩,X⟩=>Oh y (by assumption) hb hsz72 hzb) (λg81=>?_);refine Zf<|QV (vs:=[_,_]) I I I Qj I .u1 .h2 wT<|QV (vs:=[_,_]) I I I Qj I .here .h2 wT<|QMt<|QG<|JO (.cons_cons _ (.cons_cons _ (.cons _ (.cons _ w9)))) mixed wi<|QK (wH I Qj .u1)<|QK (wH I Qj .here)<|Jg (vs:=[_,_]) I I I Qj I .u3 (.cons_cons _ (.cons_cons _ (.cons _ w9))) w6 .h2 wT<|Jg (vs:=[_,_]) I I I Qj I .u2 (.cons_cons _ (.cons_cons _ (.cons _ w9))) w6 .h2 wT<|Qw<|QD<|QW ?_
   exact Xm (⟨g78,g81⟩) I (.Jo (c:=[_,_]) I Qj .u3 (.Jo (c:=[_,_]) I Qj .u2 .nil)) I λF ⟨⟨⟨⟨⟨⟨⟨⟨⟨⟨ha,hb⟩,⟨o,d⟩⟩,⟨x,i⟩⟩,⟨⟨H,m⟩,j⟩⟩,E⟩,K⟩,_⟩,h77⟩,X⟩,h81⟩=>(by have hd:=(Dg hb0).2 (by rw[<-z.2.2.2];exact(YS _).1 (by simpa using hc));rw[z.2.2.1]at X;rw[z.2.2.2]at h81;rw[hd.1]at X;rw[hd.2]at h81;exact⟨X,h81⟩)
  refine QOn 3 I<|JO (.cons_cons _ (.cons_cons _ (.cons _ (.cons _ w9)))) mixed wi<|QK (wH I Qj .u1)<|QK (wH I Qj .here)<|Jg (vs:=[_,_]) I I I Qj I .u3 (.cons_cons _ (.cons_cons _ (.cons _ w9))) w6 .h2 wT<|Jg (vs:=[_,_]) I I I Qj I .u2 (.cons_cons _ (.cons_cons _ (.cons _ w9))) w6 .h2 wT<|Qw<|QD<|QW ?_
  exact Xm (⟨g69,g72⟩) I (.Jo (c:=[_,_]) I Qj .u3 (.Jo (c:=[_,_]) I Qj .u2 .nil)) I λF ⟨⟨⟨⟨⟨⟨⟨ha,hb⟩,⟨o,d⟩⟩,⟨x,i⟩⟩,⟨⟨H,m⟩,j⟩⟩,E⟩,K⟩,_⟩=>(by have hd:=(Dg hb0).1 (by rw[<-z.2.2.2];have:=mt (YS _).2 (by simpa using hc);omega);rw[z.2.2.1]at E;rw[z.2.2.2]at K;rw[hd.1]at E;rw[hd.2]at K;exact⟨E,K⟩)
theorem Pc{b:Int}(m:Fits F w)(h:Jt F g a)(X:Jt F g' b)(i:0<b)(z:sz a<=1000000000)(y:sz b<=1000000000):
  Sf prog 268 [g.v,g'.v] w F (a/b) (a%b):=by
 by_cases d:g.q.isNone=true/\g'.q.isNone=true/\(g.s != -9223372036854775808)=true
 ·obtain⟨s,q,n,cap⟩:=g;obtain⟨o,q',n',Y⟩:=g';have hp:=h w m.r;have L:=X w m.r;obtain⟨h1,h2,h3⟩:=d;dsimp only at *
  rcases hp.isNone with ⟨rfl,rfl,rfl,rfl,k0,k1⟩ | ⟨_,_,rfl⟩
  ·rcases L.isNone with ⟨rfl,rfl,rfl,rfl,k0',x⟩ | ⟨_,_,rfl⟩
   ·have hm:s≠-9223372036854775808:=by simpa using h3
    refine(QU.lift (val:=λ(c:Bg×Bg)=>.tuple #[c.1.v,c.2.v]) (R:=λc w=>Yg w c.1.s c.1.q c.1.n c.1.cap (s/o)/\Yg w c.2.s c.2.q c.2.n c.2.cap (s%o)) (λ_=>True) (enters_of func268 wm rfl) m
     ((Th s o w O k1 i x).mono ?_) λc w' w'' d hr=>⟨hr.1.GK d,hr.2.GK d⟩).imp λc F' U=>⟨c,rfl,λF'' f=>⟨Jt.le (λw E=>(U.1 w E).1) f,Jt.le (λw E=>(U.1 w E).2) f⟩⟩
    rintro e w' ⟨_,rfl,⟨v,v',rfl,⟨s1,q1,n1,k,rfl,K⟩,⟨s2,q2,n2,j,rfl,H⟩⟩,hx⟩;exact⟨(⟨s1,q1,n1,k⟩,⟨s2,q2,n2,j⟩),rfl,⟨K,H⟩,trivial,hx⟩
   cases h2
  cases h1
 refine I2 m h X i z y λh1 h2=>?_;cases hv:(g.s != -9223372036854775808)with
 |false=>rfl
 |true=>exact absurd ⟨h1,h2,hv⟩ d
theorem EG{b:Int}(h:b ∣ a): -a / -b=a/b:=by
 obtain⟨c,rfl⟩:=h;by_cases hb:b=0
 ·subst hb;simp
 rw[Int.ediv_neg,<-jZ,fD _ hb,fD _ hb];omega
theorem cB{b:Int}(d:Fits F w)(h:Jt F g a)(K:Jt F g' b)(E:b≠0)(hd:b ∣ a)(m:sz a<=1000000000)(j:sz b<=1000000000):
  ZU prog 229 [g.v,g'.v] w F (a/b):=by
 refine QU.go (G:=λF=>Jt F g a/\Jt F g' b) func229 d ⟨h,K⟩ ?_;refine QG<|QB ?_
 refine Qv I (vs:=[_,_]) I (λb2=>?_);refine Qv I (vs:=[_,_]) I (λb3=>?_);refine Qe GR (λb4=>?_);refine QOm 5 I<|QA (wH I Qj .u1) ?_
 refine QL I (λw F d ⟨ha,hb⟩=>Ny d (by assumption)) (λ_=>?_);refine QOm 3 I ?_;refine QP I (λhc=>?_) λhc=>?_
 ·refine Jq 4 QNG mixed wi wi ?_;simp only[aT,bH,aV,bw];refine QK (wH I Qj .u2) ?_;refine QZ I (λw F d ⟨⟨ha,hb⟩,_⟩=>AD d (by assumption)) (λU=>?_);refine QK (wH I Qj .u1) ?_;refine QZ I (λw F d ⟨⟨⟨ha,hb⟩,_⟩,h11⟩=>AD d (by assumption)) (λL=>?_);refine Zf<|QV (vs:=[_,_]) I I I Qj I .u2 .h2 wT<|QV (vs:=[_,_]) I I I Qj I .u1 .h2 wT<|QMt<|QNz<|QA (wH I Qj .u2)<|QA (wH I Qj .u1) ?_
  refine QL I (λ_ _ f k=>Pc f k.1.2 k.2 (by have:=(YS b).1 (by simpa using hc);omega) (by rw[Kh];exact m) (by rw[Kh];exact j)) (λi=>?_);rcases i with ⟨y,x⟩;dsimp only;refine wB 3 I ?_;refine Qe GR (λY=>?_);refine Qe GR (λX=>?_);refine QV (vs:=[_,_]) I I I Qj I .u1 .h2 wT<|QV (vs:=[_,_]) I I I Qj I .here .h2 wT<|QMt<|QNz<|QA (wH I Qj .u1)<|QV (vs:=[_,_]) I I I Qj I .u2 .h2 wT<|QMt<|QW ?_
  exact QO (_) rfl (.Jo (c:=[_,_]) I Qj .u2 .nil) rfl λF ⟨⟨⟨⟨⟨ha,hb⟩,_⟩,h11⟩,H⟩,⟨o,z⟩⟩=>(by rw[show -a / -b=a/b from EG hd]at o;exact o)
 refine QOn 4 I<|QA (wH I Qj .u2)<|QA (wH I Qj .u1) ?_
 refine QL I (λ_ _ f k=>Pc f k.1.1 k.1.2 (by have:=mt (YS b).2 (by simpa using hc);omega) m j) (λi=>?_);rcases i with ⟨y,x⟩;dsimp only;refine wB 3 I ?_;refine Qe GR (λY=>?_);refine Qe GR (λX=>?_);refine QV (vs:=[_,_]) I I I Qj I .u1 .h2 wT<|QV (vs:=[_,_]) I I I Qj I .here .h2 wT<|QMt<|QNz<|QA (wH I Qj .u1)<|QV (vs:=[_,_]) I I I Qj I .u2 .h2 wT<|QMt<|QW ?_
 exact QO (_) rfl (.Jo (c:=[_,_]) I Qj .u2 .nil) rfl λF h9=>h9.2.1
def xC(x:Int)(h:Na x≠0):x≠0:=by rintro rfl;exact h rfl
def QA3(x:Int)(h:Na x=0):x=0:=by unfold Na at h;split at h<;>(try split at h)<;>omega
structure QHK(a b:Int) where
 x:Int
 y:Int
 gx:Bg
 gy:Bg
 hx:0<=x
 hy:0<=y
 hg:ew x y=ew a b
 sx:sz x<=1000000000
 sy:sz y<=1000000000
theorem cZ{b:Int}(d:Fits F w)(h:Jt F g a)(Y:Jt F g' b)(z:sz a<=1000000000)(o:sz b<=1000000000):
  ZU prog 227 [g.v,g'.v] w F (ew a b):=by
 refine QU.go (G:=λF=>Jt F g a/\Jt F g' b) func227 d ⟨h,Y⟩ ?_;refine QG<|QB ?_
 refine Qv I (vs:=[_,_]) I (λb2=>?_);refine Qv I (vs:=[_,_]) I (λb3=>?_);refine Qe GR (λb4=>?_);refine QMt<|QG<|Jq 4 QNG mixed wi wi ?_
 simp only[aT,bH,aV,bw];refine QK (wH I Qj .u2) ?_;refine QZ I (λw F d ⟨ha,hb⟩=>QAV d (by assumption)) (λg8=>?_);refine QK (wH I Qj .u1) ?_;refine QZ I (λw F d ⟨⟨ha,hb⟩,h8⟩=>QAV d (by assumption)) (λK=>?_);refine Zf<|QV (vs:=[_,_]) I I I Qj I .u2 .h2 wT<|QV (vs:=[_,_]) I I I Qj I .u1 .h2 wT<|QOm 4 I ?_
 refine Xd (ι:=QHK a b) (λi=>[(2,.pointer (some ⟨b2,0,none⟩)),(3,.pointer (some ⟨b3,0,none⟩)),(4,.pointer (some ⟨b4,0,none⟩))]) (λi=>[(b4,.cells #[.int .i64 0,.slice none 0 0] 85 (0,0)),(b3,.cells #[.int .i64 i.gy.s,.slice i.gy.q i.gy.n i.gy.cap] 85 (0,0)),(b2,.cells #[.int .i64 i.gx.s,.slice i.gx.q i.gx.n i.gx.cap] 85 (0,0))])
  (λi F=>Jt F i.gx i.x/\Jt F i.gy i.y) (λi=>i.y.toNat) ⟨JZ a,JZ b,g8,K,by rw[K3];omega,by rw[K3];omega,by rw[K3,K3];rfl,by rw[Mk];exact z,by rw[Mk];exact o⟩ wU QNG (λ_ ⟨⟨_,h8⟩,h10⟩=>⟨h8,h10⟩) λi=>?_
 refine QG<|QNz<|QA (wH I Qj .u1) ?_
 refine QL I (λw F d ⟨hX,U⟩=>Ny d (by assumption)) (λ_=>?_);refine QOm 3 I ?_;refine QP I (λhc=>?_) λhc=>?_
 ·refine QOn 5 I<|QA (wH I Qj .u2)<|QA (wH I Qj .u1) ?_
  refine QL I (λ_ _ f k=>Pc f k.1.1 k.1.2 (by have:=i.hy;have:=xC i.y (by simpa using hc);omega) i.sx i.sy) (λL=>?_);rcases L with ⟨g17,m⟩;dsimp only;refine wB 3 I ?_;refine Qe GR (λb5=>?_);refine Qe GR (λb6=>?_);refine QV (vs:=[_,_]) I I I Qj I .u1 .h2 wT<|QV (vs:=[_,_]) I I I Qj I .here .h2 wT<|QMt<|Jq 3 (.cons_cons _ (.cons_cons _ (.cons_cons _ (.cons_cons _ (.cons _ .slnil))))) mixed wi wi ?_
  simp only[aT,bH,aV,bw];refine QK (wH I Qj .u3)<|QK (wH I Qj .here)<|Jg (vs:=[_,_]) I I I Qj I .u4 w9 w6 .h2 wT<|Zf<|QV (vs:=[_,_]) I I I Qj I .u3 .h2 wT<|QE<|Qf ?_
  have j:0<i.y:=by have:=i.hy;have:=xC i.y (by simpa using hc);omega
  have E:=bA i.x (by omega:i.y≠0);have X:=aZ i.x j;refine Qh (⟨i.y,i.x%i.y,i.gy,m,i.hy,E,by rw[<-i.hg,iZ,Int.emod_def];first | rw[Int.gcd_sub_mul_left_left] | rw[Int.gcd_sub_mul_right_left] | rw[Int.gcd_sub_mul_left_right],i.sy,af (LY j) i.sy⟩:QHK a b) (by show(i.x%i.y).toNat<i.y.toNat;omega) wU (.cons _ (.cons _ QNG)) λ_ ⟨⟨⟨_,U⟩,_⟩,⟨_,H⟩⟩=>⟨U,H⟩
 refine Q7 ?_;refine QNz<|QA (wH I Qj .u2)<|QV (vs:=[_,_]) I I I Qj I .here .h2 wT<|QMt<|QW ?_
 exact QO (_) rfl (.Jo (c:=[_,_]) I Qj .here .nil) rfl λF h9=>(by have h0:i.y=0:=QA3 i.y (by simpa using hc);have e:=i.hg;rw[h0,Int.gcd_zero_right]at e;rw[<-e,fV i.hx];exact h9.1.1)
def RA(a:Int):∀e:Nat,sz (a^e)<=e*sz a+1
 |0=>by simp;decide
 |e+1=>by
  rw[bY];have:=Y6 (a^e) a;have:=RA a e;rw[bP];omega
structure QCV(K:Nat) where
 k:Int
 e:Nat
 p:Nat
 go:Bg
 gx:Bg
 hk:0<=k
 hK:k<=9223372036854775807
 hp:1<=p
 h:e+p*k.toNat=K
structure QCU(K p:Nat)(k:Int) where
 e:Nat
 go:Bg
 h:e+p*(2*(k.toNat/2))=K
def S9{K e:Nat}(he:e<=K)(h:K*sz a<=500000000):sz (a^e)<=1000000000:=by
 have h1:=RA a e;have h2:=fR (sz a) he;omega
theorem QFQ{k:Int}(hF:Fits F w)(h:Jt F g a)(hk:0<=k)(hK:k<=9223372036854775807)(hz:k.toNat*sz a<=500000000):
  ZU prog 197 [g.v,.int .i64 k] w F (a^k.toNat):=by
 refine QU.go (G:=λF=>Jt F g a) func197 hF h ?_;refine QNz<|Qv I (vs:=[_,_]) I λb2=>Qe GR λb4=>QMt<|QNz<|QL I (λ_ _ f k=>CO f O O) λg6=>Qe GR λm=>QV (vs:=[_,_]) I I I Qj I .here .h2 wT<|QOm 4 I ?_
 refine Xd (ι:=QCV k.toNat) (λi=>[(1,.int .i64 i.k),(2,.pointer (some ⟨b2,0,none⟩)),(4,.pointer (some ⟨b4,0,none⟩)),(5,.pointer (some ⟨m,0,none⟩))]) (λi=>[(m,.cells #[.int .i64 i.go.s,.slice i.go.q i.go.n i.go.cap] 85 (0,0)),(b4,.cells #[.int .i64 0,.slice none 0 0] 85 (0,0)),(b2,.cells #[.int .i64 i.gx.s,.slice i.gx.q i.gx.n i.gx.cap] 85 (0,0))])
  (λi F=>Jt F i.go (a^i.e)/\Jt F i.gx (a^i.p)) (λi=>i.k.toNat) ⟨k,0,1,g6,g,hk,hK,aG _,wu⟩ wV QNG (λ_ ⟨h1,h6⟩=>⟨by simpa using h6,by show Jt _ _ (a^1);rw[bY,Int.pow_zero,jX];exact h1⟩) λi=>?_
 refine wA 7 I ?_;refine QP I (λhc=>?_) λhc=>?_
 ·refine QOn 4 I ?_;have K:0<i.k:=by simpa using hc
  have b:i.p<=k.toNat:=by have:=i.h;have:=eW i.p (show 1<=i.k.toNat by omega);omega
  have L:=i.hk;have U:=i.hK;refine Ha (ι:=QCU k.toNat i.p i.k) (λj=>[(1,.int .i64 i.k),(2,.pointer (some ⟨b2,0,none⟩)),(4,.pointer (some ⟨b4,0,none⟩)),(5,.pointer (some ⟨m,0,none⟩))]) (λj=>[(m,.cells #[.int .i64 j.go.s,.slice j.go.q j.go.n j.go.cap] 85 (0,0)),(b4,.cells #[.int .i64 0,.slice none 0 0] 85 (0,0)),(b2,.cells #[.int .i64 i.gx.s,.slice i.gx.q i.gx.n i.gx.cap] 85 (0,0))])
   (λj F=>Jt F j.go (a^j.e)/\Jt F i.gx (a^i.p)) ?_ ?_
  ·refine wR I<|QA (QBF I I O)<|QOm 3 I ?_
   refine QP I (λhc=>?_) λhc=>?_
   ·refine QB<|QA (wH I Qj .here)<|QA (wH I Qj .u2)<|QL I (λ_ _ f k=>BE f k.1 k.2 (S9 (wg i.h) hz) (S9 b hz)) λz=>QV (vs:=[_,_]) I I I Qj I .here .h2 wT<|QE ?_
    have E:i.k%2=1:=by simpa using hc
    refine Xw (⟨i.e+i.p,z,by have:=i.h;have e:i.k.toNat=2*(i.k.toNat/2)+1:=O;rw[e,jU]at this;omega⟩:QCU k.toNat i.p i.k) wV QNG λ_ ⟨⟨_,Y⟩,x⟩=>⟨by show Jt _ _ (a^(i.e+i.p));rw[fU];exact x,Y⟩
   refine QN ?_;have X:i.k%2=0:=by have:i.k%2≠1:=(by simpa using hc);omega
   refine Xw (⟨i.e,i.go,by have:=i.h;have e:i.k.toNat=2*(i.k.toNat/2):=O;rw[<-e];exact this⟩:QCU k.toNat i.p i.k) wV QNG w6
  intro j;refine wA 6 I ?_;refine QP I (λhc=>?_) λhc=>?_
  ·refine QB<|QA (wH I Qj .u2)<|QA (wH I Qj .u2)<|QL I (λ_ _ f k=>BE f k.2 k.2 (S9 b hz) (S9 b hz)) λy=>QV (vs:=[_,_]) I I I Qj I .u2 .h2 wT<|QE<|Qf<|QOo 3 I<|QA (xX I I)<|wB 2 I ?_
   have d:(i.k/2).toNat=i.k.toNat/2:=O;refine Qh (⟨i.k/2,j.e,i.p+i.p,j.go,y,O,O,wg i.hp,by rw[d];have:=j.h;rw[Nat.mul_left_comm]at this;rw[bP];omega⟩:QCV k.toNat) (by show(i.k/2).toNat<i.k.toNat;omega) wV QNG λ_ ⟨⟨hO,_⟩,o⟩=>⟨hO,by show Jt _ _ (a^(i.p+i.p));rw[fU];exact o⟩
  refine QN<|Qf<|QOo 3 I<|QA (xX I I)<|wB 2 I ?_
  have H:i.k=1:=by have:¬1<i.k:=(by simpa using hc);omega
  have d:(i.k/2).toNat=i.k.toNat/2:=O;refine Qh (⟨i.k/2,j.e,i.p,j.go,i.gx,O,O,i.hp,by rw[d];have:=j.h;have h0:i.k.toNat/2=0:=O;rw[h0]at this ⊢;simpa using this⟩:QCV k.toNat) (by show(i.k/2).toNat<i.k.toNat;omega) wV QNG w6
 refine Q7 ?_;refine QNz<|QA (wH I Qj .here)<|QV (vs:=[_,_]) I I I Qj I .u1 .h2 wT<|QMt<|QW ?_
 exact QO (_) rfl (.Jo (c:=[_,_]) I Qj .u1 .nil) rfl λF h9=>(by have h0:i.k.toNat=0:=(by have:¬0<i.k:=(by simpa using hc);omega);have e:=i.h;rw[h0]at e;have e2:i.e=k.toNat:=(by simpa using e);have e3:=congrArg (λn=>Jt F i.go (a^n)) e2;exact cast e3 h9.1)
structure Fr where
 n:Bg
 d:Bg
@[reducible] def Fr.v (x:Fr):Value:=.agg #[.int .i64 x.n.s,.slice x.n.q x.n.n x.n.cap,.int .i64 x.d.s,.slice x.d.q x.d.n x.d.cap]
def Ja(F:Gs)(x:Fr)(r:Rat):Prop:=Jt F x.n r.num/\Jt F x.d r.den
def Ja.le{x:Fr}{r:Rat}(h:Ja F x r)(k:Gs.le F F'):Ja F' x r:=⟨h.1.le k,h.2.le k⟩
instance{x:Fr}{r:Rat}: Up (λF=>Ja F x r):=⟨λk h=>Ja.le h k⟩
abbrev ZE(P:Program)(f:FuncId)(args:List Value)(w:World)(F:Gs)(r:Rat):Prop:=QU P f args w F Fr.v λx F=>Ja F x r
def J6(r:Rat):Nat:=max (sz r.num) (sz (r.den:Int))
def Ji(r:Rat):sz r.num<=J6 r:=Nat.le_max_left _ _
def Jb(r:Rat):sz (r.den:Int)<=J6 r:=Nat.le_max_right _ _
def den_pos(r:Rat):(0:Int)<r.den:=wg r.den_pos
theorem Yg.one{s:Int}{q:Option Addr}(h:Yg w s q n cap z):(q.isNone=true->(s==1)=decide (z=1))/\(q.isNone=false->decide (z=1)=false):=by
 rcases h with ⟨rfl,rfl,rfl,rfl,_⟩ | ⟨b,off,l,rfl,_,_,_,_,_,_,_,h,hz,hb⟩
 ·exact⟨λ_=>by rw[ao];simp,λh=>(by cases h)⟩
 refine⟨λh=>(by cases h),λ_=>?_⟩;rcases h with rfl | rfl<;>simp<;>omega
structure MkI(a b:Int) where
 x:Int
 y:Int
 gx:Bg
 gy:Bg
 hy:0<y
 e:aY x y=aY a b
 sx:sz x<=1000000000
 sy:sz y<=1000000000
def I6(x:Int):(aY x 1).num=x/\(aY x 1).den=1:=by
 rw[iN,iO];simp
def K5{x y:Int}(h:0<y):(ew x y:Int)≠0:=by
 have:ew x y≠0:=by rw[Ne,Int.gcd_eq_zero_iff];omega
 omega
def Af{x y:Int}(h:0<y):sz (ew x y:Int)<=sz y:=by
 apply VR;have:=Int.gcd_le_right x h;omega
def Z0{x y:Int}(h:0<y):(aY x y).num=x/(ew x y:Int)/\((aY x y).den:Int)=y/(ew x y:Int):=by
 rw[iN,iO,if_neg O,Int.sign_eq_one_of_pos h,jX,iZ y x];refine⟨rfl,?_⟩;rw[Int.natCast_ediv,fV O]
theorem Io{b:Int}(m:Fits F w)(h:Jt F g a)(Y:Jt F g' b)(X:b≠0)(z:sz a<=1000000000)(o:sz b<=1000000000):
  ZE prog 170 [g.v,g'.v] w F (aY a b):=by
 refine QU.go (G:=λF=>Jt F g a/\Jt F g' b) func170 m ⟨h,Y⟩ ?_;refine QG<|QB ?_
 refine Qv I (vs:=[_,_]) I (λb2=>?_);refine Qv I (vs:=[_,_]) I (λb3=>?_);refine Qe Yu (λb4=>?_);refine QE<|QD ?_
 refine Ha (ι:=MkI a b) (λi=>[(2,.pointer (some ⟨b2,0,none⟩)),(3,.pointer (some ⟨b3,0,none⟩)),(4,.pointer (some ⟨b4,0,none⟩))]) (λi=>[(b4,.cells #[.int .i64 0,.slice none 0 0,.int .i64 0,.slice none 0 0] 87 (0,0)),(b3,.cells #[.int .i64 i.gy.s,.slice i.gy.q i.gy.n i.gy.cap] 85 (0,0)),(b2,.cells #[.int .i64 i.gx.s,.slice i.gx.q i.gx.n i.gx.cap] 85 (0,0))]) (λi F=>Jt F i.gx i.x/\Jt F i.gy i.y) ?_ ?_
 ·refine QNz<|QA (wH I Qj .u1) ?_
  refine QL I (λw F m ⟨ha,hb⟩=>Ny m (by assumption)) (λ_=>?_);refine QOm 3 I ?_;refine QP I (λhc=>?_) λhc=>?_
  ·refine Jq 4 QNG mixed wi wi ?_;simp only[aT,bH,aV,bw];refine QK (wH I Qj .u2) ?_;refine QZ I (λw F m ⟨⟨ha,hb⟩,_⟩=>AD m (by assumption)) (λL=>?_);refine QK (wH I Qj .u1) ?_;refine QZ I (λw F m ⟨⟨⟨ha,hb⟩,_⟩,h10⟩=>AD m (by assumption)) (λK=>?_);refine Zf<|QV (vs:=[_,_]) I I I Qj I .u2 .h2 wT<|QV (vs:=[_,_]) I I I Qj I .u1 .h2 wT<|QE ?_
   have j:b<0:=(YS b).1 (by simpa using hc);exact Xw (⟨-a,-b,L,K,O,il a b,by rw[Kh];exact z,by rw[Kh];exact o⟩:MkI a b) wU QNG λ_ ⟨⟨_,h10⟩,h12⟩=>⟨h10,h12⟩
  refine QN ?_;have j:¬b<0:=mt (YS b).2 (by simpa using hc);exact Xw (⟨a,b,g,g',O,rfl,z,o⟩:MkI a b) wU QNG w7
 intro i;refine QG ?_;refine XD _ (λw _ f k=>(k.2 w f.r).one) (λU=>?_);refine By 20 (.bool (decide (i.y=1))) ?_ ?_
 ·refine QB<|QA (QH I EO GH)<|QA (Qa I GH .u1 (.skip .h1))<|QA (Wf I I VV)<|QMu I ?_
  refine QY (t:=16) rfl (λd=>?_) λd=>?_
  ·refine QJ I I<|QA (QH I PV Qo)<|QJ I I<|QA (Qa I Qo .u1 .h1)<|wB 4 I ?_
   exact Xn (exd 9 rfl rfl) (congrArg (λb=>some (aj b)) (U.1 d)) QNG w6
  refine wB 5 I ?_;exact Xn (exd 9 rfl rfl) (congrArg (λb=>some (aj b)) (U.2 d).symm) QNG w6
 refine QP I (λhc=>?_) λhc=>?_
 ·refine QNz<|QA (wH I Qj .u2)<|QA (wH I Qj .u1)<|QA (XM I L6 Yu (.cons (vs:=[_,_]) I I I .h2 (.cons (vs:=[_,_]) I I I (.skip (.skip .h2)) .nil)))<|QV (vs:=[_,_,_,_]) I I I Qm I .here .h4 wV<|QMt<|QW ?_
  exact QO (⟨i.gx,i.gy⟩) I (.Jo (c:=[_,_,_,_]) I Qm .here .nil) rfl λF ⟨ha,hb⟩=>(by have h1:i.y=1:=(by simpa using hc);have e:=I6 i.x;rw[<-i.e,h1];exact⟨by rw[e.1];exact ha,by rw[e.2];have j:=hb;rw[h1]at j;exact j⟩)
 refine QOn 4 I<|QA (wH I Qj .u2)<|QA (wH I Qj .u1) ?_
 refine QL I (λ_ _ f k=>cZ f k.1 k.2 i.sx i.sy) (λg26=>?_);refine Qe GR (λb5=>?_);refine QV (vs:=[_,_]) I I I Qj I .here .h2 wT<|QMt<|QG<|JO (.cons_cons _ (.cons _ w9)) mixed wi<|QK (wH I Qj .u2)<|QK (wH I Qj .here) ?_
 refine QZ I (λ_ _ f k=>cB f k.1.1 k.2 (K5 i.hy) (Int.gcd_dvd_left ..) i.sx (af (Af i.hy) i.sy)) (λH=>?_);refine QK (wH I Qj .u1)<|QK (wH I Qj .here) ?_
 refine QZ I (λ_ _ f k=>cB f k.1.1.2 k.1.2 (K5 i.hy) (Int.gcd_dvd_right ..) i.sy (af (Af i.hy) i.sy)) (λE=>?_);refine QK (XM I L6 Yu (.cons (vs:=[_,_]) I I I .h2 (.cons (vs:=[_,_]) I I I (.skip (.skip .h2)) .nil)))<|Jg (vs:=[_,_,_,_]) I I I Qm I .u1 w9 (λ_ h=>h.1.1) .h4 wV<|Qw<|QD<|QW ?_
 exact QO (⟨H,E⟩) I (.Jo (c:=[_,_,_,_]) I Qm .u1 .nil) rfl λF h9=>(by have e:=Z0 (x:=i.x) i.hy;rw[<-i.e];exact⟨by rw[e.1];exact h9.1.2,by rw[e.2];exact h9.2⟩)
theorem Si{a:Int}(b:Fits F w)(h:Jt F g a):ZE prog 142 [g.v] w F (a:Rat):=by
 refine QU.go (G:=λF=>Jt F g a) func142 b h ?_;refine QG<|QB ?_
 refine Qv I (vs:=[_,_]) I (λb1=>?_);refine Qe Yu (λb2=>?_);refine QMt<|QG<|JO (.cons _ w9) mixed wi<|QK (wH I Qj .here) ?_
 refine QZ I (λ_ _ f k=>CO f O O) (λd=>?_);refine QK (XM I L6 Yu (.cons (vs:=[_,_]) I I I .h2 (.cons (vs:=[_,_]) I I I (.skip (.skip .h2)) .nil)))<|Jg (vs:=[_,_,_,_]) I I I Qm I .here w9 w7 .h4 wV<|Qw<|QD<|QW ?_
 exact QO (⟨g,d⟩) I (.Jo (c:=[_,_,_,_]) I Qm .here .nil) rfl λF h9=>⟨h9.1,h9.2⟩
theorem f_g{n:Int}(a:Fits F w)(h0 : -9223372036854775808<=n)(h1:n<=9223372036854775807):ZE prog 69 [.int .i64 n] w F (n:Rat):=by
 refine QU.go (G:=λF=>True) func69 a trivial ?_;refine QG<|QB ?_
 refine Qe Yu (λb2=>?_);refine QOm 5 I ?_;refine QL I (λ_ _ f _=>CO f O O) (λg=>?_);refine QL I (λw F a ⟨_,h4⟩=>Si a (by assumption)) (λd=>?_);refine QV (vs:=[_,_,_,_]) I I I Qm I .here .h4 wV<|QMt<|QW ?_
 exact QO (_) rfl (.Jo (c:=[_,_,_,_]) I Qm .here .nil) rfl λF ⟨⟨_,h4⟩,⟨h5,b⟩⟩=>⟨‹_›,‹_›⟩
theorem jO{x:Fr}{r:Rat}(a:Fits F w)(h:Ja F x r):QX prog 136 [x.v] w F (.int .i64 (Na r.num)):=by
 refine QU.go (G:=λF=>Ja F x r) func136 a h ?_;refine QG<|QB ?_
 refine Qv I (vs:=[_,_,_,_]) I (λb1=>?_);refine QOm 5 I<|QA (QH I KC Qj)<|QA (wH I Qj .here) ?_
 refine QL I (λ_ _ f k=>Ny (g:=x.n) f k.1) (λ_=>?_);refine wQ I<|QW ?_
 exact QO2 I I I wy
theorem EJ{x:Fr}{r:Rat}(c:Fits F w)(h:Ja F x r):QX prog 222 [x.v] w F (.bool (decide ((r.den:Int)=1))):=by
 refine QU.go (G:=λF=>Ja F x r) func222 c h ?_;refine XD _ (λw _ f h=>(h.2 w f.r).one) (λb=>?_);refine QG<|QB ?_
 refine Qv I (vs:=[_,_,_,_]) I (λb1=>?_);refine QOm 5 I<|QA (QH I KB Qj)<|QA (QH I EO GH)<|QA (Qa I GH .here (.skip (.skip (.skip .h1))))<|QA (Wf I I VV)<|QMu I ?_
 refine QY (t:=7) rfl (λa=>?_) λa=>?_
 ·refine QJ I I<|QA (QH I KB Qj)<|QJ I I<|QA (QH I PV Qo)<|QJ I I<|QA (Qa I Qo .here (.skip (.skip .h1)))<|QOm 7 I ?_
  exact QO2 I I (by show aj _=aj _;rw[<-b.1 a];first | rfl | skip) wy
 refine QOm 9 I ?_;exact QO2 I I (congrArg aj (b.2 a)) wy
@[reducible] def tx (l:List UInt8):Value:=.string ⟨l.toArray⟩
theorem B6(l:List UInt8):(⟨l.toArray⟩:ByteArray).size=l.length:=by rfl
theorem Fz(l:List UInt8)(i j:Nat):(⟨l.toArray⟩:ByteArray).extract i j=⟨((l.take j).drop i).toArray⟩:=by
 apply ByteArray.ext;simp[ByteArray.data_extract,List.extract_toArray,List.extract_eq_take_drop,Array.mk.injEq,List.drop_take]
section
variable{P:Program}{N:Nat}{m:Sl}{Y:World->Prop}{ty:TypeId}
theorem XU{T:TypeId}{a b:List UInt8}(hx:ev m x=some (tx a))(hy:ev m y=some (tx b))(h:a.length+b.length<=9223372036854775807):Qt P N m Y (.binOp .add T x y yT) ty (tx (a++b)):=by
 have:=xr (P:=P) (N:=N) (S:=Y) (ty:=ty) (T:=T) (yT:=yT) hx hy (by grind[B6]);trivial
def Yw{T:TypeId}{a b:List UInt8}(hx:ev m x=some (tx a))(hy:ev m y=some (tx b)):Qt P N m Y (.binOp .eql T x y yT) ty (.bool (a==b)) :=
 QM hx hy (by show some _=_;simp)
def xf{T:TypeId}{a b:List UInt8}(hx:ev m x=some (tx a))(hy:ev m y=some (tx b)):Qt P N m Y (.binOp .neq T x y yT) ty (.bool (!(a==b))) :=
 QM hx hy (by show some _=_;simp)
theorem Je{T:TypeId}{a:List UInt8}(hx:ev m x=some (tx a))(b:WS P T=true):Qt P N m Y (.call ⟨.builtin .len,#[x],#[T]⟩) ty (.int .i64 a.length):=by
 grind[xo,B6]
def Yj{T:TypeId}{a:List UInt8}{i:Nat}(hx:ev m x=some (tx a))(hy:ev m y=some (.int .i64 (i:Int)))(b:WS P T=true)(hi:i<a.length):Qt P N m Y (.index T x y) ty (.int .u8 (a[i].toNat:Int)):=by
 have:=xp (N:=N) (S:=Y) (ty:=ty) hx hy b (by trivial);trivial
theorem DQ{T:TypeId}{lo hi:Option _}{vl:Option Value}{a:List UInt8}(l h:Nat)(hx:ev m x=some (tx a))(el:UG m lo=some vl)(f:UG m hi=some vh)(d:WS P T=true)
  (b:(vl=none/\l=0)\/vl=some (.int .i64 (l:Int))) (c:(vh=none/\h=a.length)\/vh=some (.int .i64 (h:Int))) (h1:l<=h) (h2:h<=a.length):Qt P N m Y (.slice T x lo hi none) ty (tx ((a.take h).drop l)):=by
 have:=IT (N:=N) (S:=Y) (ty:=ty) hx el f d b (by trivial) h1 (by trivial)
 grind[Fz]
def V7{T:TypeId}{hi:Option _}{a:List UInt8}(h:Nat)(hx:ev m x=some (tx a))(d:UG m hi=some vh)(c:WS P T=true)(b:vh=some (.int .i64 (h:Int)))(h2:h<=a.length):Qt P N m Y (.slice T x none hi none) ty (tx (a.take h)) :=
 DQ 0 h hx rfl d c (.inl ⟨rfl,rfl⟩) (.inr b) (aX _) h2
theorem Zp{T:TypeId}{lo:Option _}{vl:Option Value}{a:List UInt8}(l:Nat)(hx:ev m x=some (tx a))(el:UG m lo=some vl)(c:WS P T=true)(b:vl=some (.int .i64 (l:Int)))(h1:l<=a.length):Qt P N m Y (.slice T x lo none none) ty (tx (a.drop l)):=by
 have:=DQ (N:=N) (Y:=Y) (ty:=ty) (hi:=none) l _ hx el I c (.inr b) (.inl ⟨rfl,rfl⟩) h1 (aG _);simp_all
end
def JU(F:Gs):Prop:=(∃m T,F 0=some (#[.int .i64 m],T))/\∃T,F 5=some ((Lib.pow10Tab.map λz=>ah .u64 z).toArray,T)
theorem JU.le(h:JU F)(k:Gs.le F F'):JU F':=by
 obtain⟨⟨m,T,h1⟩,T',h2⟩:=h;exact⟨⟨m,T,k _ _ h1⟩,T',k _ _ h2⟩
instance :Up (λF=>JU F):=⟨λk h=>JU.le h k⟩
theorem JU.max(a:Fits F w)(h:JU F):∃m,w.cell? ⟨0,0,none⟩=some (.int .i64 m):=by
 obtain⟨⟨m,T,h1⟩,_⟩:=h;obtain⟨fr,e⟩:=a.row _ _ _ h1;exact⟨m,by simp[World.cell?,e]⟩
theorem JU.vj(hF:Fits F w)(h:JU F):iI prog w "internal/strconv.uint64pow10" .u64 jb:=by
 obtain⟨_,T,h2⟩:=h;obtain⟨fr,e⟩:=hF.row _ _ _ h2;have hg:prog.globalNamed "internal/strconv.uint64pow10" = some 5:=by rfl
 unfold iI World.var?;simp_all
theorem Pk(w:World)(e:TypeId)(s:ByteArray):Ext w (Lib.bytesWorld w e s) :=
 ⟨rfl,rfl,rfl,by simp[Lib.bytesWorld_size],λk hk=>Lib.bytesWorld_at_old w e s k hk⟩
theorem Ab(w:World)(os:Array Obj):Ext w (iz w os) :=
 ⟨rfl,rfl,rfl,wu,λk hk=>by
  show(w.heap++os)[k]?=_
  grind⟩
section
variable{w:World}{F:Gs}
theorem QAK(a:Fits F w)(hG:JU F){s p:List UInt8}(b:s.length<4294967281):QX prog 144 [tx s,tx p] w F (.tuple #[tx (fy s p).1,tx (fy s p).2.1,.bool (fy s p).2.2]):=by
 obtain⟨m,hm⟩:=hG.max a;refine .of (enters_of func144 wm rfl) a ((strings_Cut ⟨s.toArray⟩ ⟨p.toArray⟩ m w (by trivial) hm).mono ?_);rintro e w' ⟨h1,n,rfl⟩;exact⟨h1,(Ext.refl w).drewN n⟩
theorem Ay(a:Fits F w){s p:List UInt8}:QX prog 225 [tx s,tx p] w F (.tuple #[tx (ai s p),.bool (au s p)]):=by
 refine .of (enters_of func225 wm rfl) a ((strings_CutPrefix ⟨s.toArray⟩ ⟨p.toArray⟩ w).mono ?_)
 grind[Ext.refl]
theorem AZ(a:Fits F w){s p:List UInt8}:QX prog 194 [tx s,tx p] w F (.bool (au s p)):=by
 refine .of (enters_of func194 wm rfl) a ((strings_HasPrefix ⟨s.toArray⟩ ⟨p.toArray⟩ w).mono ?_)
 grind[Ext.refl]
theorem B7(a:Fits F w){s p:List UInt8}:QX prog 195 [tx s,tx p] w F (tx (ai s p)):=by
 refine .of (enters_of func195 wm rfl) a ((strings_TrimPrefix ⟨s.toArray⟩ ⟨p.toArray⟩ w).mono ?_)
 grind[Ext.refl]
theorem xR(b:Fits F w){s:List UInt8}{c:Nat}(hc:s.length*c<=140737488355328)(a:c<=140737488355328):QX prog 264 [tx s,.int .i64 c] w F (tx (eR s c)):=by
 refine .of (enters_of func264 wm rfl) b ((strings_Repeat ⟨s.toArray⟩ c w O (by trivial)).mono ?_);simp
theorem QCI(a:Fits F w){s:List UInt8}{n:Int}(b:s.length<=18)(h:iQ s=some n):QX prog 196 [tx s] w F (.tuple #[.int .i64 n,.nilIface]):=by
 refine .of (enters_of func196 wm rfl) a ((strconv_Atoi ⟨s.toArray⟩ n (by trivial) h w).mono ?_)
 grind[Pk]
theorem yC(a:Fits F w)(hG:JU F){n:Int}(h0 : -9223372036854775808<=n)(h1:n<=9223372036854775807):QX prog 242 [.int .i64 n] w F (tx (fY n)):=by
 refine .of (enters_of func242 wm rfl) a ((strconv_Itoa n h0 h1 w (hG.vj a)).mono ?_);rintro e w' ⟨h1,k,os,rfl⟩;exact⟨h1,((Ext.refl w).drewN k).trans (Ab _ _)⟩
theorem dH(a:Fits F w){x:Int}(h0:0<=x)(h1:x<=18446744073709551615):QX prog 239 [.int .u64 x] w F (.int .i64 (bK x.toNat)):=by
 refine .of (enters_of func239 wm rfl) a ((bits_Len64 x w h0 h1).mono ?_)
 grind[Ext.refl]
theorem Dj[Dr](a:Fits F w){x y:Int}:QX prog 178 [.int .i64 x,.int .i64 y] w F (.int .i64 (Lib.compareInt x y)):=by
 refine QU.same (enters_of func178 wm rfl) a (cmp_Compare_int x y w)
end
section
variable[Dr][df:Df]
section
variable{P:Program}{Q:Exit->Act->World->Prop}{N:Nat}{m:Sl}{E E0:Env}{ops:Array Oper}{l:List Oper}{w0:World}{F0:Gs}{bs:List (Nat×Obj)}{G:Gs->Prop}
theorem St.perm(h:St ⟨w0,F0,bs,G⟩ w)(hp:bs.Perm bs'):St ⟨w0,F0,bs',G⟩ w:=by
 obtain⟨F,h⟩:=h;exact⟨F,h.le,h.old,h.fits,h.ext,λk hk=>h.bx k (hp.mem_iff.2 hk),(hp.map _).nodup_iff.1 h.nd,h.g⟩
def Jy(P:Program)(f:FuncId)(args:List Value)(E:Env){γ:Type}(val:γ->Value)(E':γ->Env):Prop :=
 Enters P f/\∀w,St E w->Calls P f args.toArray w λe w'=>∃c,e = .returned (val c)/\St (E' c) w'
def EPost{γ:Type}(val:γ->Value)(E':γ->Env)(e:Ending)(w':World):Prop:=∃c,e = .returned (val c)/\St (E' c) w'
section
variable{d:Nat}{ty:TypeId}{pos:String}{aft:Array Edge}{f:FuncId}{args:Array Operand}{tys:Array TypeId}{vs:List Value}{γ:Type}{val:γ->Value}{E':γ->Env}{bs1:List (Nat×Obj)}
theorem qX{c1 c2:List Value}(hx:ev m x=some (.func (.func f) c1.toArray c2.toArray))(hv:Hk m args.toList=some vs)(hp:bs.Perm bs1)(hc:Jy P f (c1++vs++c2) ⟨w0,F0,bs1,G⟩ val E')
  (k:∀c,JS P ops Q l N ((d,val c)::m) (E' c)) (hd:Jx N (some d)=true:=by rfl):JS P ops Q (⟨some d,.call ⟨.value x,args,tys⟩,ty,pos,aft,none⟩::l) N m ⟨w0,F0,bs,G⟩:=by
 intro a w ha b;refine wpList_plain rfl λK g=>?_;unfold Oper.wp;rw[Ww hc.1 (ha.ev hx)];have e:c1.toArray++args.map a.eval++c2.toArray=(c1++vs++c2).toArray:=by
  have:=ha.Hk hv;have i:args.map a.eval=vs.toArray:=by rw[<-this];apply bZ ;simp
  rw[i];apply bZ;simp
 simp only[Oper.upon];rw[e];refine(hc.2 w (b.perm hp)).mono ?_;rintro e w' ⟨c,rfl,h⟩;exact g _ _ (k c _ w' (ha.put hd (val c)) h)
theorem Xv(hv:Hk m args.toList=some vs)(hp:bs.Perm bs1)(hc:Jy P f vs ⟨w0,F0,bs1,G⟩ val E')
  (k:∀c,JS P ops Q l N ((d,val c)::m) (E' c)) (hd:Jx N (some d)=true:=by rfl):JS P ops Q (⟨some d,.call ⟨.value (.func f),args,tys⟩,ty,pos,aft,none⟩::l) N m ⟨w0,F0,bs,G⟩ :=
 qX (x:=.func f) (c1:=[]) (c2:=[]) I hv hp (by simpa using hc) k hd
theorem Oq{b:List (Nat×Obj)}(hv:Hk m args.toList=some vs)(hp:bs.Perm bs1)(hc:Jy P f vs ⟨w0,F0,bs1,G⟩ val E')(h0:∀c w,St (E' c) w->St ⟨w0,F0,b,G0⟩ w)
  (k:∀c,JD P ops Q ⟨w0,F0,b,G0⟩ l N ((d,val c)::m) (E' c)) (hd:Jx N (some d)=true:=by rfl):JD P ops Q ⟨w0,F0,b,G0⟩ (⟨some d,.call ⟨.value (.func f),args,tys⟩,ty,pos,aft,none⟩::l) N m ⟨w0,F0,bs,G⟩:=by
 intro j a w ha g;refine .inr ⟨rfl,?_⟩;rw[if_pos (by simp[iH])];unfold Oper.wp;rw[Ww (c1:=#[]) (c2:=#[]) hc.1 (ha.ev (x:=.func f) rfl)];have e:#[]++args.map a.eval++#[]=vs.toArray:=by
  have:=ha.Hk hv;have i:args.map a.eval=vs.toArray:=by rw[<-this];apply bZ ;simp
  rw[i];apply bZ;simp
 simp only[Oper.upon];rw[e];refine(hc.2 w (g.perm hp)).mono ?_;rintro e w' ⟨c,rfl,h⟩;exact⟨h0 c w' h,k c (h0 c) _ w' (ha.put hd (val c)) h⟩
theorem St.last(hF:Fits F0 w0)(h:St ⟨w0,F0,bs,G⟩ w)(hb:Below w0.heap.size w w')(hd:Dr.on->w.drawn<=w'.drawn):St ⟨w0,F0,[],λF=>Gs.le F0 F⟩ w':=by
 obtain⟨F,h⟩:=h;have hx:Ext w0 w':=⟨hb.os.trans h.ext.os,hb.tape.trans h.ext.tape,hb.output.trans h.ext.output,af h.ext.size hb.size,λk hk=>(hb.block k hk).trans (h.ext.block k hk)⟩;have hle:Gs.le F0 (λb=>if b<w0.heap.size then F0 b else match w'.heap[b]? with | some (.cells c T _)=>if T=264 then some (c,264)else none | _=>none):=by
  intro b x hb;show(if b<w0.heap.size then _ else _)=_;rw[if_pos (hF.lt hb)];exact hb
 refine⟨_,hle,?_,⟨?_,?_⟩,⟨hx,λd=>af (h.ext.dr d) (hd d)⟩,λ_ h=>(by cases h),List.nodup_nil,λF' h'=>Gs.le_trans hle h'⟩
 ·intro b hb;show(if b<w0.heap.size then _ else _)=_;rw[if_pos hb]
 ·intro b c T hb;by_cases hlt:b<w0.heap.size
  ·rw[if_pos hlt]at hb;obtain⟨fr,e⟩:=hF.row b c T hb;exact⟨fr,by rw[hx.block b hlt];exact e⟩
  rw[if_neg hlt]at hb;split at hb
  ·rename_i c' T' fr heq;split at hb
   ·rename_i hT;cases hb;exact⟨fr,by rw[heq,hT]⟩
   cases hb
  cases hb
 intro b c fr hb;show(if b<w0.heap.size then _ else _)=_;by_cases hlt:b<w0.heap.size
 ·rw[if_pos hlt];rw[hx.block b hlt]at hb;exact hF.all b c fr hb
 rw[if_neg hlt,hb];simp
theorem MI{v:Value}(c:Fits F0 w0)(hv:Hk m args.toList=some vs)(he:Enters P f)(hc:∀w,St ⟨w0,F0,bs,G⟩ w->Calls P f vs.toArray w λe w'=>e = .returned v/\Below w0.heap.size w w')
  (k:JS P ops Q l N ((d,v)::m) ⟨w0,F0,[],λF=>Gs.le F0 F⟩) (hd:Jx N (some d)=true:=by rfl) (b:¬Dr.on:=by exact id):JS P ops Q (⟨some d,.call ⟨.value (.func f),args,tys⟩,ty,pos,aft,none⟩::l) N m ⟨w0,F0,bs,G⟩ :=
 Xv (γ:=Unit) (val:=λ_=>v) (E':=λ_=>⟨w0,F0,[],λF=>Gs.le F0 F⟩) hv (bQ _) ⟨he,λw a=>(hc w a).mono λ_ _ ⟨h1,h2⟩=>⟨(),h1,a.last c h2 λd=>absurd d b⟩⟩ (λ_=>k) hd
end
omit [Df] in
theorem Jy.intro{f:FuncId}{c:Code}{val:γ->Value}{E':γ->Env}(b:P.funcs[f]?=some fn)(hb:fn.body=some c)(i:(fn.name == "runtime.NumGoroutine")=false)(k:fn.ntmps=N)(j:iX args.length N=true)
  (h:J (df:=Hi) P c (bodyPost P fn (EPost val E')) N (E9 0 args) E):Jy P f args E val E':=by
 refine⟨enters_of b i (by rw[hb];rfl),λw d=>calls_of_wp b hb (h _ w ⟨?_,rfl,λt v ht=>?_⟩ d)⟩
 ·have:=fO j
  simp[k];omega
 obtain⟨_,h2⟩:=W4 args 0 t v ht
 have a:t<args.length:=by rcases aS t args.length with g | g;exact g;rw[fK,List.getElem?_eq_none g]at h2;cases h2
 simp only[fK]at h2
 rw[Array.getElem?_append,if_pos (by simpa using a)]
 simpa using h2
omit [Df] in
theorem Zr{val:γ->Value}{E':γ->Env}{rs:List ResultVar}{vs:List Value}(c:γ)(b:fn.results=rs.toArray)(h:Dm P m bs rs vs)(hv:val c=(match vs with | [v]=>v | vs=>.tuple vs.toArray))(hg:∀w,St ⟨w0,F0,bs,G⟩ w->St (E' c) w):Fin (df:=Hi) (bodyPost P fn (EPost val E')) .ret N m ⟨w0,F0,bs,G⟩:=λa w ha d =>
 ⟨ha.df,val c,by rw[hv];exact Gp b h ha d,c,rfl,hg w d⟩
omit [Df] in
theorem Ef{val:γ->Value}{E':γ->Env}(h:Fin (df:=Hi) (bodyPost P fn (EPost val E')) .ret N m E):Fin (df:=Hi) (bodyPost P fn (EPost val E')) .normal N m E:=h
theorem X5(hp:bs.Perm bs')(k:JS P ops Q l N m ⟨w0,F0,bs',G⟩):JS P ops Q l N m ⟨w0,F0,bs,G⟩:=λa w ha b=>k a w ha (b.perm hp)
theorem qV{c:Code}(hp:bs.Perm bs')(k:J P c Q N m ⟨w0,F0,bs',G⟩):J P c Q N m ⟨w0,F0,bs,G⟩:=λa w ha b=>k a w ha (b.perm hp)
theorem FV{e:Exit}(hp:bs.Perm bs')(k:Fin Q e N m ⟨w0,F0,bs',G⟩):Fin Q e N m ⟨w0,F0,bs,G⟩:=λa w ha b=>k a w ha (b.perm hp)
theorem Src.xM{sz c:Nat}{news:List Value}{T:TypeId}(hm:(b,eU news.toArray T fr)∈bs)(d:news.length=k*sz):Src ⟨w0,F0,bs,G⟩ sz (.slice (.some ⟨b,0,none⟩) k c) k news :=
 ⟨d,.inr ⟨_,_,rfl,λw a j v hv=>by
  obtain⟨F,a⟩:=a;rw[Kl,Xe (a.bx _ hm).1,aM];exact hv⟩⟩
theorem QCX{o:Op}{v:Value}(h:∀a w,JH N m a->St E w->∃w',(execOp a.eval ⟨some d,o,ty,pos,aft,none⟩).run P w = .ok (.value v) w'/\St E' w')(k:JS P ops Q l N ((d,v)::m) E')(hd:Jx N (some d)=true:=by rfl):
  JS P ops Q (⟨some d,o,ty,pos,aft,none⟩::l) N m E:=λa w ha b=>wpList_plain rfl λK c=>by
 obtain⟨w',h1,h2⟩:=h a w ha b;exact upon_value h1 (c _ _ (k _ w' (ha.put hd v) h2))
theorem xZ{T:TypeId}{p:Option Addr}{Y:World->Prop}(hx:ev m x=some (.pointer p))(hy:ev m y=some (.pointer none))(b:P.underlying T=some (.pointer (P.pointee T))):Qt P N m Y (.binOp .eql T x y yT) ty (.bool p.isNone):=λa w _ _ _ _ ha _=>by
 have:=run_eql_pointer_nil (P:=P) (w:=w) T p b;simp[execOp,ha.ev hx,ha.ev hy,eqGuard,this]
theorem RE{t u e:TypeId}{i:TypeInfo}{x:Value}(ht:GZ P t=some e)(hu:P.underlying u=some .string)(hi:P.info? e=some i)(hz:i.zero=some (.int .u8 0))(hsz:i.size=1)(hby:i.bytes=1)
  (hr:Q2 e 1 x n olds ob) (hw:St ⟨w0,F0,ob++bs,G⟩ w) (h47:n+s.length<=140737488355328) (hU:Gz e=true) :
  ∃v' ob' w',(ig #[t,u] ty #[x,tx s]).run P w = .ok v' w'/\Q2 e 1 v' (n+s.length) (olds++ay s) ob'/\St ⟨w0,F0,ob'++bs,G⟩ w':=by
 have hu':∀c fr c' fr',eU c e fr≠.cells c' 264 fr':=λc fr=>ZB hU;have hsl:(⟨s.toArray⟩:ByteArray).size=s.length:=B6 s;have hbl:(ay s).length=s.length:=hJ s;have hzc:∀q,(aE (ah .u8 0).cells q).toList.length=q:=λq=>by simp[aE,Value.cells]
 have new:∀ {w':World} (l rest:List Value) (cap:Nat) (bs':List (Nat×Obj)),St ⟨w0,F0,bs',G⟩ w'->bs.Sublist bs'->l.length=n+s.length->l.length+rest.length=cap->n+s.length<=cap->cap<=maxLen ->
   ∃ob',Q2 e 1 (.slice (some ⟨w'.heap.size,0,none⟩) (n+s.length) cap) (n+s.length) l ob'/\St ⟨w0,F0,ob'++bs,G⟩ (w'.alloc (.cells (l++rest).toArray e)):=by
  intro w' l rest cap bs' hw' hsub h2 h3 h4 h5;exact⟨_,.some O O h4 h5,(hw'.imp hsub λ_ h=>h).alloc _ (hu' _ _)⟩
 cases hr with
 |nil =>
  simp only[aM,fe]at *
  by_cases hm:s.length=0
  ·have hs0:s=[]:=aD hm;subst hs0;refine⟨.slice none 0 0,[],w,?_,.nil,hw⟩;have hf:=Lib.run_firstCells_string (P:=P) w 1 ⟨#[]⟩;have hf':(Builtin.firstCells 1 0 (tx [])).run P w = .ok #[] w:=by simpa[ib,fN]using hf
   simp[ig,run_underlying (Jc ht),run_underlying hu,sizeOf,typeInfo,hi,hsz,Builtin.lenOf,ib,hf']
  have hrun:=run_append_nil_string (P:=P) (w:=w) t u ty e i (.int .u8 0) (Jc ht) hu hi hz ⟨s.toArray⟩ O O (by rw[hby];omega);rw[hsl]at hrun;have hge:=grownCap_ge w s.length 0 e;obtain⟨ob',h2,h3⟩:=new (ay s) (aE (ah .u8 0).cells (grownCap w s.length 0 e-s.length)).toList (grownCap w s.length 0 e) bs hw.drew QNG hbl (by rw[hzc,hbl];omega) hge (grownCap_le_maxLen w s.length 0 e (by simp only[maxLen];omega));refine⟨_,ob',_,hrun,h2,?_⟩;have e1:(ay s++(aE (ah .u8 0).cells (grownCap w s.length 0 e-s.length)).toList).toArray=((⟨s.toArray⟩:ByteArray).data.map λb=>ah .u8 b.toNat)++aE (ah .u8 0).cells (grownCap w s.length 0 e-s.length):=by apply bZ;simp[ay]
  rw[e1]at h3;exact h3
 |some g1 g2 g3 g4 =>
  rename_i b cap rest;have hbw:w.heap[b]?=some (.cells (olds++rest).toArray e (0,0)):=hw.own (f:=λo'=>(b,o')::bs) .here;have hol:olds.length=n:=O;by_cases hroom:n+s.length<=cap
  ·have hrun:=Lib.run_append_room_string (P:=P) w t u ty e i (Jc ht) hu hi hsz b n cap _ hbw ⟨s.toArray⟩ O wv;rw[hsl]at hrun;have e1:((olds++rest).toArray.toList.take n++fN ⟨s.toArray⟩++(olds++rest).toArray.toList.drop (n+s.length))=olds++ay s++rest.drop s.length:=by
    rw[iL];simp only[er];rw[<-hol];simp[List.drop_append]
   rw[e1]at hrun;refine⟨_,[(b,.cells (olds++ay s++rest.drop s.length).toArray e (0,0))],_,hrun,.some ?_ ?_ hroom g4,?_⟩
   ·rw[aq,hbl];omega
   ·rw[aq,ix,hbl];omega
   have hlt:b<w.heap.size:=(Array.getElem?_eq_some_iff.1 hbw).1;refine St.write (o:=.cells (olds++rest).toArray e (0,0)) [] hw ⟨?_,rfl,rfl,rfl,rfl⟩ (hu' _ _);apply Array.ext_getElem?;intro j;rw[Array.getElem?_setIfInBounds];by_cases hj:b=j
   ·subst hj;rw[if_pos rfl,if_pos hlt,setRow_heap w b _ _ e _ hbw]
   rw[if_neg hj,setRow_other w b j _ (λe=>hj e.symm)]
  have hold:∀j v,olds[j]?=some v->w.cell? ((⟨b,0,none⟩:Addr).add j)=some v:=λj v hv=>by
   rw[Kl,aM,Xe hbw,List.getElem?_append];have:j<olds.length:=by rcases aS j olds.length with q | q;exact q;rw[List.getElem?_eq_none q]at hv;cases hv
   rw[if_pos this];exact hv
  have hrun:=Lib.run_append_grow_string (P:=P) w t u ty e i (.int .u8 0) (Jc ht) hu hi hz ⟨b,0,none⟩ n cap olds (by rw[hsz];omega) hold ⟨s.toArray⟩ O O (by rw[hby];exact growslice_fits O O);rw[hsl]at hrun;have hge:=grownCap_ge w (n+s.length) cap e;obtain⟨ob',h2,h3⟩:=new (olds++ay s) (aE (ah .u8 0).cells (grownCap w (n+s.length) cap e-(n+s.length))).toList (grownCap w (n+s.length) cap e) _ hw.drew (List.sublist_cons_self _ _) (by rw[aq,hbl];omega) (by rw[hzc,aq,hbl];omega) hge (grownCap_le_maxLen w (n+s.length) cap e (by simp only[maxLen];omega));refine⟨_,ob',_,hrun,h2,?_⟩;have e1:(olds++ay s++(aE (ah .u8 0).cells (grownCap w (n+s.length) cap e-(n+s.length))).toList).toArray=olds.toArray++(fN ⟨s.toArray⟩).toArray++aE (ah .u8 0).cells (grownCap w (n+s.length) cap e-(n+s.length)):=by
   rw[iL];apply bZ;simp
  rw[e1]at h3;exact h3
theorem UA{t u e:TypeId}{i:TypeInfo}{X Y:Operand}{x:Value}{bs1:List (Nat×Obj)}(hx:ev m X=some x)(hy:ev m Y=some (tx s))(ht:GZ P t=some e)(hu:P.underlying u=some .string)(hi:P.info? e=some i)(hz:i.zero=some (.int .u8 0))(b:i.size=1)(c:i.bytes=1)
  (hr:Q2 e 1 x n olds ob) (hp:bs.Perm (ob++bs1)) (f:n+s.length<=140737488355328)
  (g:∀v' ob',Q2 e 1 v' (n+s.length) (olds++ay s) ob'->JS P ops Q l N ((d,v')::m) ⟨w0,F0,ob'++bs1,G⟩) (j:Gz e=true:=by rfl) (hd:Jx N (some d)=true:=by rfl) :
  JS P ops Q (⟨some d,.call ⟨.builtin .append,#[X,Y],#[t,u]⟩,ty,pos,aft,none⟩::l) N m ⟨w0,F0,bs,G⟩:=λa w ha h =>
 wpList_plain rfl λK k=>by
  obtain⟨v',ob',w',h2,h3,h4⟩:=RE (ty:=ty) ht hu hi hz b c hr (h.perm hp) f j;refine upon_value (w':=w') (v:=v') ?_ (k _ _ (g v' ob' h3 _ w' (ha.put hd v') h4));simp only[execOp,resolve,invoke,builtin,eE,eD,bF,List.map_toArray,iP,List.map_nil,ha.ev hx,ha.ev hy,h2]
end
end
section
variable[Dr][df:Df]{P:Program}{Q:Exit->Act->World->Prop}{N:Nat}{m:Sl}{E E0:Env}{ops:Array Oper}{l:List Oper}{w0:World}{F0:Gs}{bs:List (Nat×Obj)}{G:Gs->Prop}
theorem DJ{c:List Value}{T:TypeId}(h:w.heap[b]?=some (.cells c.toArray T fr)):w.shape? b=some (T,c.length):=by
 simp[World.shape?,h]
theorem IS{src g t T':TypeId}{c:List Value}(hx:ev m x=some (.pointer (some ⟨b,off,none⟩)))(k:P.underlying src=some (.pointer t))(hd:P.underlying g=some .unsafePointer)(ht:(P.info? t).any (λj=>j.size != 0)=true)
  (o:Own bs b (.cells c.toArray T' fr) f) (d:off<c.length):Qt P N m (St ⟨w0,F0,bs,G⟩) (.convert src g x) ty (.pointer (some ⟨b,off,none⟩)):=λa w _ _ _ _ ha i=>by
 obtain⟨j,y,h⟩:=Option.any_eq_true .. |>.1 ht;have:=Lib.run_to_unsafe (P:=P) w ⟨b,off,none⟩ k hd y (by simpa using h) (DJ (i.own o)) d;simp[execOp,ha.ev hx,this]
theorem S7{src d t T':TypeId}{c:List Value}(hx:ev m x=some (.pointer (some ⟨b,off,none⟩)))(h:P.underlying src=some .unsafePointer)(hd:P.underlying d=some (.pointer t))(ht:(P.info? t).isSome=true)
  (i:Own bs b (.cells c.toArray T' fr) f) (k:liesAt P P.depth T' (c.length/P.cellsOf T') off t 1=true):Qt P N m (St ⟨w0,F0,bs,G⟩) (.convert src d x) ty (.pointer (some ⟨b,off,none⟩)):=λa w _ _ _ _ ha g=>by
 obtain⟨j,o⟩:=Option.isSome_iff_exists.1 ht;have:=Lib.run_from_unsafe (P:=P) w ⟨b,off,none⟩ h hd o (DJ (g.own i)) k;simp[execOp,ha.ev hx,this]
theorem CD{T t:TypeId}{p:Addr}{Y:World->Prop}(hx:ev m x=some (.pointer (some p)))(hy:ev m y=some (.pointer (some p)))(c:P.underlying T=some (.pointer t))(ht:(P.info? t).isSome=true):Qt P N m Y (.binOp .neq T x y yT) ty (.bool false):=λa w _ _ _ _ ha _=>by
 obtain⟨j,b⟩:=Option.isSome_iff_exists.1 ht;have:=Lib.run_neq_ptr_same (P:=P) w p c b;simp[execOp,ha.ev hx,ha.ev hy,eqGuard,this]
theorem qW{f:FuncId}{e:Array Value->Sem Value}{args:Array Operand}{c:Array TypeId}{vs:List Value}{v:Value}(i:P.funcs[f]?=some fn)(b:(fn.name == "runtime.NumGoroutine")=false)
  (hb:fn.body.isNone=true) (h:Extern.findNext fn=none) (he:Extern.find fn=some e) (hv:Hk m args.toList=some vs) (hr:∀w,(e vs.toArray).run P w = .ok v w) (k:JS P ops Q l N ((d,v)::m) E) (hd:Jx N (some d)=true:=by rfl) :
  JS P ops Q (⟨some d,.call ⟨.value (.func f),args,c⟩,ty,pos,aft,none⟩::l) N m E :=
 QCX (λa w ha g=>⟨w,by
  have h1:a.eval (.func f) = .func (.func f) #[] #[]:=ha.ev (x:=.func f) rfl;have j:args.map a.eval=vs.toArray:=by rw[<-ha.Hk hv];apply bZ;simp
  simp only[execOp,resolve,h1,Deferred.ofValue,eE,eD,bF,invoke,j];simp[run_callFunc_extern i b hb h he,hr],g⟩) k hd
end
inductive Fm(b:Nat):List UInt8->List (Nat×Obj)->Prop
 |fresh:Fm b [] [(b,.cells [ax none,.slice none 0 0].toArray 293 (0,0))]
 |used {l:List UInt8} {v:Value} {ob:List (Nat×Obj)} (hr:Q2 5 1 v l.length (ay l) ob):Fm b l ((b,.cells [ax (some ⟨b,0,none⟩),v].toArray 293 (0,0))::ob)
section
variable{w0:World}{F0:Gs}{bs:List (Nat×Obj)}{G:Gs->Prop}
theorem E7{p:Option Addr}{v:Value}(hp:p=none\/p=some ⟨b,0,none⟩):Jy prog 274 [.pointer (some ⟨b,0,none⟩)] ⟨w0,F0,(b,.cells [ax p,v].toArray 293 (0,0))::bs,G⟩ (λ(_:Unit)=>.tuple #[]) (λ_=>⟨w0,F0,(b,.cells [ax (some ⟨b,0,none⟩),v].toArray 293 (0,0))::bs,G⟩):=by
 refine Jy.intro func274 rfl wm rfl rfl<|wR rfl<|QA (YC rfl)<|QA (QH rfl TZ D5)<|QA (Qa rfl D5 .here .h1)<|QA (xZ rfl rfl wi)<|QE<|QD ?_
 refine QP I (λhc=>?_) λhc=>?_
 ·have a:p=none:=by rcases hp with rfl | rfl;rfl;cases hc
  subst a;refine wA 3 I<|QA (IS I underlying290 underlying340 wi .here (Nat.zero_lt_succ _))<|qW func304 wi wi wi (e:=iA) wi rfl (λw=>Lib.run_noEscape w _)<|QA (S7 I underlying340 underlying290 wi .here wi)<|QA (YC I)<|QA (QH I TZ D5)<|QV (vs:=[_]) I I I D5 I .here .h1 wS<|QE<|Ef ?_
  exact Zr () I .nil rfl w6
 have a:p=some ⟨b,0,none⟩:=by rcases hp with rfl | rfl;cases hc;rfl
 subst a;refine wR I<|QA (YC I)<|QA (QH I TZ D5)<|QA (Qa I D5 .here .h1)<|QMu I<|QA (CD I I underlying290 wi)<|QMt<|Zq I<|QN<|Ef ?_
 exact Zr () I .nil rfl w6
theorem QBv:∃i,prog.info? 5=some i/\i.zero=some (.int .u8 0)/\i.size=1/\i.bytes=1:=by
 have h:((prog.info? 5).map λi=>(i.zero,i.size,i.bytes))=some (some (.int .u8 0),1,1):=wi;obtain⟨i,h1,h2⟩:=Option.map_eq_some_iff.1 h;simp only[Prod.mk.injEq]at h2;exact⟨i,h1,h2⟩
theorem GF{p:Option Addr}{v:Value}{l:List UInt8}(hp:p=none\/p=some ⟨b,0,none⟩)(hr:Q2 5 1 v l.length (ay l) ob)(j:l.length+s.length<=140737488355328):
  Jy prog 241 [.pointer (some ⟨b,0,none⟩),tx s] ⟨w0,F0,(b,.cells [ax p,v].toArray 293 (0,0))::(ob++bs),G⟩ (λ(_:List (Nat×Obj))=>.tuple #[.int .i64 s.length,.nilIface])
   (λob'=>⟨w0,F0,ob'++bs,λF=>G F/\Fm b (l++s) ob'⟩):=by
 obtain⟨k,g,f,d,c⟩:=QBv;refine Jy.intro func241 rfl wm rfl rfl<|QNz<|QMv rfl<|wQ rfl<|wR rfl<|Xv rfl (bQ _) (E7 hp) λ_=>QMt<|wR rfl<|QMu rfl<|QA (YC rfl)<|QA (QH rfl My Gh)<|QA (Qa rfl Gh .here (.skip .h1))<|QMu rfl<|UA (bs1:=(b,.cells [ax (some ⟨b,0,none⟩),v].toArray 293 (0,0))::bs) rfl rfl II underlying9 g f d c hr (by rw[<-eG];exact(bh _ _ _)) j λi ob' a=>QA (YC I)<|QA (QH I My Gh)<|X5 (bs':=(b,.cells [ax (some ⟨b,0,none⟩),v].toArray 293 (0,0))::(ob'++bs)) (by rw[<-eG (l:=bs),<-eG];exact(bh _ _ _)) ?_
 obtain⟨h1,h2⟩:=a.one;refine QV (vs:=[i]) I I h2 Gh I .here (.skip .h1) ⟨h1,trivial⟩<|QOm 5 I<|QA (Je I J7)<|QOm 5 I ?_
 have hb:Fm b (l++s) ((b,.cells [ax (some ⟨b,0,none⟩),i].toArray 293 (0,0))::ob'):=.used (by rw[aq,ia];exact a);exact Zr _ I (wO I I) rfl λw h=>St.GW (bs:=(_::ob')++bs) h λF hG=>⟨hG,hb⟩
theorem WI{l:List UInt8}(h:Fm b l ob)(a:l.length+s.length<=140737488355328):
  Jy prog 241 [.pointer (some ⟨b,0,none⟩),tx s] ⟨w0,F0,ob++bs,G⟩ (λ(_:List (Nat×Obj))=>.tuple #[.int .i64 s.length,.nilIface])
   (λob'=>⟨w0,F0,ob'++bs,λF=>G F/\Fm b (l++s) ob'⟩):=by
 cases h with
 |fresh=>exact GF (l:=[]) (ob:=[]) (.inl rfl) .nil a
 |used hr=>exact GF (.inr rfl) hr a
theorem H2{p:Option Addr}{v:Value}{l:List UInt8}(hp:p=none\/p=some ⟨b,0,none⟩)(hr:Q2 5 1 v l.length (ay l) ob)(g:l.length+1<=140737488355328):
  Jy prog 243 [.pointer (some ⟨b,0,none⟩),.int .u8 c.toNat] ⟨w0,F0,(b,.cells [ax p,v].toArray 293 (0,0))::(ob++bs),G⟩ (λ(_:List (Nat×Obj))=>.nilIface)
   (λob'=>⟨w0,F0,ob'++bs,λF=>G F/\Fm b (l++[c]) ob'⟩):=by
 refine Jy.intro func243 rfl wm rfl rfl<|QNz<|wQ rfl<|wR rfl<|Xv rfl (bQ _) (E7 hp) λ_=>QMt<|wR rfl<|QMu rfl<|QA (YC rfl)<|QA (QH rfl My Gh)<|QA (Qa rfl Gh .here (.skip .h1))<|QMu rfl<|KK rfl (Jc II) QEv z_5 rfl rfl λd=>?_
 refine X5 (bs':=ob++((d,.cells [ah .u8 c.toNat].toArray 5 (0,0))::(b,.cells [ax (some ⟨b,0,none⟩),v].toArray 293 (0,0))::bs)) (by
  have:=bh [(d,eU [ah .u8 c.toNat].toArray 5 (0,0)),(b,eU [ax (some ⟨b,0,none⟩),v].toArray 293 (0,0))] ob bs;exact this) ?_
 refine Ed (news:=[ah .u8 c.toNat]) (k:=1) (sz:=1) rfl rfl II QEv z_5 I QK4 hr (Src.xM (b:=d) (T:=5) (fr:=(0,0)) (c:=1) wu rfl) O O (λu hu=>by rw[List.mem_singleton.1 hu];rfl) (λf ob' a=>QA (YC I)<|QA (QH I My Gh) ?_);refine X5 (bs':=(b,.cells [ax (some ⟨b,0,none⟩),v].toArray 293 (0,0))::((d,.cells [ah .u8 c.toNat].toArray 5 (0,0))::(ob'++bs))) (by
  have:=bh ob' [(b,eU [ax (some ⟨b,0,none⟩),v].toArray 293 (0,0)),(d,eU [ah .u8 c.toNat].toArray 5 (0,0))] bs;exact((List.Perm.append_left ob' (List.Perm.swap _ _ _))).trans this) ?_
 obtain⟨h1,h2⟩:=a.one;refine QV (vs:=[f]) I I h2 Gh I .here (.skip .h1) ⟨h1,trivial⟩<|QOm 8 I ?_
 have hb:Fm b (l++[c]) ((b,.cells [ax (some ⟨b,0,none⟩),f].toArray 293 (0,0))::ob'):=.used (by rw[aq,ia];exact a);exact Zr _ I (wN I) rfl λw h=>St.imp (bs':=(_::ob')++bs) h (jV _ (jW _ QNG)) λF hG=>⟨hG,hb⟩
theorem UN{l:List UInt8}(h:Fm b l ob)(a:l.length+1<=140737488355328):
  Jy prog 243 [.pointer (some ⟨b,0,none⟩),.int .u8 c.toNat] ⟨w0,F0,ob++bs,G⟩ (λ(_:List (Nat×Obj))=>.nilIface)
   (λob'=>⟨w0,F0,ob'++bs,λF=>G F/\Fm b (l++[c]) ob'⟩):=by
 cases h with
 |fresh=>exact H2 (l:=[]) (ob:=[]) (.inl rfl) .nil a
 |used hr=>exact H2 (.inr rfl) hr a
theorem Fm.is{l:List UInt8}(h:Fm b l ob){w:World}(hw:St ⟨w0,F0,ob++bs,G⟩ w):Lib.IsBuilder 293 5 w0.heap.size b (ay l) w:=by
 obtain⟨F,hw⟩:=hw;cases h with
 |fresh =>
  have:=hw.bx (b,.cells [ax none,.slice none 0 0].toArray 293 (0,0)) wu;exact .inl ⟨this.2.1,_,this.1,ic w _ _ 1,by simp[fq]⟩
 |used hr =>
  rename_i v ob;have h1:=hw.bx (b,.cells [ax (some ⟨b,0,none⟩),v].toArray 293 (0,0)) wu;refine .inr ⟨h1.2.1,v,h1.1,?_,?_⟩
  ·rw[hJ];generalize hq:ay l=q at hr;generalize hn:l.length=n at hr;cases hr with
   |nil=>exact ic w _ _ 1
   |some g1 g2 g3 g4 =>
    rename_i r cap rest;have h2:=hw.bx (r,.cells (q++rest).toArray 5 (0,0)) wu;refine⟨O,.inr ⟨r,cap,_,rfl,h2.2.1,h2.1,g3,g4,?_,?_⟩⟩
    ·show(q++rest).toArray.size=_;simp;omega
    show(q++rest).take (n*1)=q;rw[<-g1];exact List.take_left
  generalize hq:ay l=q at hr;generalize hn:l.length=n at hr;cases hr with
  |nil=>simp[fq]
  |some g1 g2 g3 g4 =>
   have hnd:=hw.nd;simp only[List.cons_append,iP,List.nodup_cons]at hnd;intro e;simp only[fq,eL]at e;exact hnd.1 (by simp[e])
end
section
open Go.RowKit Go.Sort Go.Lib
def IW(w:World)(o:Obj)(dk:Array UInt8)(k off:Nat):∃os,(putRow (λ(b:UInt8)=>ah .u8 (b.toNat:Int)) (w.alloc o) w.heap.size off dk).drewN k=iz (w.drewN k) os:=by
 rw[alloc_eq_grow];obtain⟨a,_,e⟩:=putRow_grow_new (λ(b:UInt8)=>ah .u8 (b.toNat:Int)) w #[o] w.heap.size off dk (aG _);exact⟨a,by rw[e];rfl⟩
theorem AX(w:World)(T:TypeId)(nd:Nat)(d:nd<=24):Holds (λ(b:UInt8)=>ah .u8 (b.toNat:Int)) (w.alloc (.cells zeros24 T)) w.heap.size 0 (iC nd (0:UInt8)):=λj a=>by
 have c:j<nd:=by simpa using a
 refine⟨?_,World.frozen?_alloc_new _ _ _ _⟩;rw[World.cell?_alloc_new,zeros24_at _ O,getElem!_pos _ j a];simp
set_option maxRecDepth 100000 in
theorem RI(u:Nat)(a:u<18446744073709551616)(w:World)(g:iI prog w "internal/strconv.uint64pow10" .u64 jb):
  Calls prog 299 #[.int .u64 u,.int .i64 10] w λe w'=>e = .returned (tx (ae u))/\∃k os,w'=iz (w.drewN k) os:=by
 have F:∀args w,(callFunc 314 args).run prog w = .ok (.enter 314 args) w:=eF func314 wi rfl;have E:∀args w,(callFunc 315 args).run prog w = .ok (.enter 315 args) w:=eF func315 wi rfl;have z:∀args w,(callFunc 316 args).run prog w = .ok (.enter 316 args) w:=eF func316 wi rfl;by_cases H:u<100
 ·go_enter func299,ntmps299
  go_wp2_with (go_at_fn 314;refine(internal_strconv_small u H _).mono ?_;rintro e w' ⟨rfl,rfl⟩)
  go_ret
  exact⟨rfl,0,#[],by simp[World.drewN_zero]⟩
 have f:1<=u:=O;have m:aQ u<=20:=by have:=Lib.numDigits_eq u f a;split at this<;>omega
 have L:aQ u<=24:=O;have i:prog.arrayLen 353=24:=by simp[fX,underlying353]
 have y:∀W,(iM 353 (.pointer (some ⟨w.heap.size,0,none⟩)) none (some (.int .i64 (aQ u:Int))) none).run prog W = .ok (.slice (some ⟨w.heap.size,0,none⟩) (aQ u) 24) W:=λW=>by
  rw[run_sliceAt_array_h W 353 ⟨w.heap.size,0,none⟩ (by simp[fX,Program.elem,underlying353]) .i64 (aQ u:Int) O (by rw[i];omega)];go_simp
 have d:=AX w 353 (aQ u) O;have c:=internal_strconv_formatBase10 w.heap.size 0 24 u (iC (aQ u) 0) (w.alloc (.cells eQ 353)) d (by rw[bL];exact ir u) a (by rw[bL];omega);rw[bL]at c;have HH0:=aa d;clear d i;go_enter func299,ntmps299
 go_wp2_with (first
  |(go_at_fn 315;refine(internal_strconv_numDigits u f a _ (Lib.tabIs_alloc g _)).mono ?_;rintro e w' ⟨rfl,rfl⟩))
 go_at_fn 316
 refine c.mono ?_;rintro e w' ⟨rfl,k,X,dk,rfl,x⟩;have K:(convert 291 9 (.slice (some ⟨w.heap.size,0,none⟩) (aQ u) 24)).run prog ((putRow (λ(b:UInt8)=>ah .u8 (b.toNat:Int)) (w.alloc (.cells eQ 353)) w.heap.size 0 dk).drewN k) = .ok (.string ⟨(ae u).toArray⟩) ((putRow (λ(b:UInt8)=>ah .u8 (b.toNat:Int)) (w.alloc (.cells eQ 353)) w.heap.size 0 dk).drewN k):=by
  have h:=run_convert_bytes_back (P:=prog) ((putRow (λ(b:UInt8)=>ah .u8 (b.toNat:Int)) (w.alloc (.cells eQ 353)) w.heap.size 0 dk).drewN k) 291 9 5 ⟨w.heap.size,0,none⟩ 24 (ae u) underlying291 underlying5 underlying9 (λj o=>by
   rw[Lib.row_is_numeral x j o,Lib.add_plain,World.cell?_drewN];exact cell?_putRow (λ(b:UInt8)=>ah .u8 (b.toNat:Int)) _ w.heap.size 0 _ dk HH0.out (by rw[x.size,bL]) j (by rw[x.size];rw[aK]at o;exact o))
  rw[aK]at h;exact h
 go_wp2
 go_ret
 obtain⟨os,U⟩:=IW w (.cells eQ 353) dk k 0;exact⟨rfl,k,os,U⟩
theorem TX(a:Fits F w)(hG:JU F){u:Nat}(hu:u<18446744073709551616):QX prog 263 [.int .u64 u,.int .i64 10] w F (tx (ae u)):=by
 refine QU.go (G:=λF=>JU F) func263 a hG ?_;refine wA 9 I ?_;refine QL I (λw F a hG=>QX.of (v:=tx (ae u)) (enters_of func299 wm rfl) a ((RI u hu w (hG.vj a)).mono (by
  rintro e w' ⟨h1,k,os,rfl⟩;exact⟨h1,((Ext.refl w).drewN k).trans (Ab _ _)⟩))) λc=>?_
 refine wQ I<|QW ?_
 exact QO () I (wN I) rfl wy
end
open Go
def UI(c:UInt8):Bool:=decide (48<=c.toNat)&&decide (c.toNat<=57)
def XK(l:List UInt8):Bool:=l.all UI
def Zz:UI c=true↔48<=c.toNat/\c.toNat<=57:=by simp[UI]
def JA(l:List UInt8):Nat:=l.foldl (λa c=>a*10+(c.toNat-48)) 0
def QGQ(l:List UInt8):∀a:Nat,l.foldl (λa c=>a*10+(c.toNat-48)) a=a*10^l.length+JA l:=by
 induction l with
 |nil=>intro a;simp[JA]
 |cons c l ih =>
  intro a;simp only[List.foldl_cons,aA,JA];rw[ih,ih (0*10+_)];rw[fJ,aM,bP,bW,fB,fL 10,ey]
def Zy(a b:List UInt8):JA (a++b)=JA a*10^b.length+JA b:=by
 unfold JA;rw[List.foldl_append,QGQ];rfl
def CA:JA []=0:=rfl
def VM(c:UInt8):JA [c]=c.toNat-48:=by simp[JA]
def N6(c:UInt8)(l:List UInt8):JA (c::l)=(c.toNat-48)*10^l.length+JA l:=by
 rw[<-VM,<-Zy];rfl
def KY(a b:List UInt8):XK (a++b)=(XK a&&XK b):=by simp[XK]
def Ho(c:UInt8)(l:List UInt8):XK (c::l)=(UI c&&XK l):=by simp[XK]
def Hn{l:List UInt8}(h:XK l=true)(n:Nat):XK (l.take n)=true:=by
 rw[<-bJ n l,KY,aw]at h;exact h.1
def EZ{l:List UInt8}(h:XK l=true)(n:Nat):XK (l.drop n)=true:=by
 rw[<-bJ n l,KY,aw]at h;exact h.2
theorem Ku{l:List UInt8}(h:XK l=true):JA l<10^l.length:=by
 induction l with
 |nil=>simp[JA]
 |cons c l ih =>
  rw[Ho,aw]at h;have:=ih h.2;have hc:=Zz.1 h.1;rw[N6,aA,bW];have:(c.toNat-48)*10^l.length<=9*10^l.length:=fR _ O;omega
def YZ(h:d<10):(bm (48+d)).toNat=48+d:=by
 rw[UInt8.toNat_ofNat'];omega
theorem JL(n:Nat):XK (ae n)=true:=by
 induction n using fm with
 |_ n ih =>
  rw[ae];split
  ·rename_i h;simp[XK,UI,YZ h];omega
  rw[KY,ih (n/10) O];have:n%10<10:=O;simp[XK,UI,YZ this];omega
def Jh(n:Nat):JA (ae n)=n:=by
 induction n using fm with
 |_ n ih =>
  rw[ae];split
  ·rename_i h;rw[VM,YZ h];omega
  rw[Zy,ih (n/10) O,VM,YZ O];simp;omega
def YJ(n:Nat):ae n≠[]:=by
 rw[ae];split<;>simp
def Xz:ae 0=[48]:=by rw[ae];rfl
def Pg(h:0<n):∃c l,ae n=c::l/\c≠48:=by
 induction n using fm with
 |_ n ih =>
  rw[ae];split
  ·rename_i h10;refine⟨_,[],rfl,λe=>?_⟩;have:=YZ h10;rw[e]at this;simp at this;omega
  obtain⟨c,l,e,hc⟩:=ih (n/10) O O;exact⟨c,l++[bm (48+n%10)],by rw[e];rfl,hc⟩
def J1(l:List UInt8):Bool:=XK l&&!l.isEmpty&&(l==[48]||!(l.head?==some 48))
theorem BQ(n:Nat):J1 (ae n)=true:=by
 rcases bB n with h | h
 ·subst h;rw[Xz];decide
 obtain⟨c,l,e,hc⟩:=Pg h;have:=JL n;rw[e]at this ⊢;simp[J1,this,hc]
def Vf(a:0<n)(hd:d<10):ae (n*10+d)=ae n++[bm (48+d)]:=by
 rw[ae,dif_neg O];congr 2
 ·congr 1;omega
 congr 2;omega
def Aw(h:UI c=true):bm (48+(c.toNat-48))=c:=by
 have:=Zz.1 h;apply ep;rw[YZ O];omega
theorem Dh:∀ {l:List UInt8},XK l=true->l≠[]->l.head?≠some 48->ae (JA l)=l/\0<JA l:=by
 intro l
 induction hn:l.length generalizing l with
 |zero=>intro _ h _;exact absurd (aD hn) h
 |succ n ih =>
  intro ha b f;rcases List.eq_nil_or_concat l with h | ⟨a,c,rfl⟩
  ·exact absurd h b
  simp only[List.concat_eq_append]at *
  rw[KY,aw]at ha;have hc:UI c=true:=by simpa[XK]using ha.2
  have g:=Zz.1 hc;rw[Zy,VM];cases a with
  |nil =>
   have d:c≠48:=by simpa using f
   have:c.toNat≠48:=λe=>d (ep (by rw[e];rfl));simp only[CA,fJ,aM,fe];refine⟨?_,O⟩;rw[ae,dif_pos O,Aw hc]
  |cons x a =>
   obtain⟨h1,h2⟩:=ih (l:=x::a) (by simp at hn ⊢;omega) ha.1 wu (by simpa using f);refine⟨?_,wv⟩;simp only[eI,je];rw[Vf h2 O,h1,Aw hc]
theorem Di{l:List UInt8}(h:J1 l=true):ae (JA l)=l:=by
 simp only[J1,aw,iJ,beq_iff_eq,iv,fz]at h;rcases h.2 with h1 | h1
 ·subst h1;rw[VM];exact Xz
 exact(Dh h.1.1 h.1.2 (by simpa using h1)).1
theorem kJ{l:List UInt8}(h:XK l=true):∀a,fZ a l=some (a*10^l.length+JA l):=by
 induction l with
 |nil=>intro a;simp[fZ,JA]
 |cons c l ih =>
  intro a;rw[Ho,aw]at h;have hc:=Zz.1 h.1;simp only[fZ,Lib.digitVal,if_pos hc];rw[ih h.2,N6,aA,bW,bP,fB,fL 10,ey]
theorem qJ{l:List UInt8}(h:XK l=true)(a:l≠[]):iQ l=some (JA l:Int):=by
 cases l with
 |nil=>exact absurd rfl a
 |cons c l =>
  have hc:=Zz.1 (by rw[Ho,aw]at h;exact h.1);have h1:(c==45)=false:=by
   apply beq_eq_false_iff_ne.2;rintro rfl;simp at hc
  have h2:(c==43)=false:=by
   apply beq_eq_false_iff_ne.2;rintro rfl;simp at hc
  simp only[iQ,h1,h2,Bool.false_eq_true,if_false,Lib.decNat,List.isEmpty_cons];rw[kJ h];simp
def VZ(k:Nat)(l:List UInt8):List UInt8:=eR [48] (k-l.length)++l
def KS(k:Nat):eR [48] k=ee k 48:=by
 induction k with
 |zero=>rfl
 |succ k ih=>rw[eR,ih];rfl
def Ze{u:Nat}(h:u<10^k)(hk:0<k):aQ u<=k:=by
 induction k generalizing u with
 |zero=>omega
 |succ k ih =>
  by_cases h10:u<10
  ·rw[Lib.nDigits_small h10];omega
  rw[Lib.nDigits_big h10];rcases bB k with h0 | h0
  ·subst h0;simp at h;omega
  have:=ih (u:=u/10) (by rw[bW]at h;omega) h0;omega
theorem Ie{u:Nat}(hk:0<k):k<aQ u↔10^k<=u:=by
 constructor
 ·intro h;rcases aS u (10^k)with g | g
  ·have:=Ze g hk;omega
  exact g
 intro h;rcases aS k (aQ u)with g | g
 ·exact g
 have h1:=ir u;have h2:10^aQ u<=10^k:=aF wj g;omega
def Ux{l:List UInt8}(h:l.length<=k):(VZ k l).length=k:=by
 unfold VZ;rw[KS];simp;omega
def zF(k:Nat)(l:List UInt8)(c:UInt8):VZ (k+1) (l++[c])=VZ k l++[c]:=by
 unfold VZ;simp
theorem Kj{q:Nat}(c:0<q):∀(k r:Nat),0<k->r<10^k->ae (q*10^k+r)=ae q++VZ k (ae r)
 |0,_,h,_=>O
 |1,r,_,hr=>by
  simp only[je]at *
  rw[Vf c hr,fa hr];rfl
 |k+2,r,_,hr=>by
  have e:q*10^(k+2)+r=(q*10^(k+1)+r/10)*10+r%10:=by
   rw[bW,<-fB];omega
  have b:r/10<10^(k+1):=by rw[bW]at hr;omega
  have a:0<q*10^(k+1)+r/10:=by
   have:=Nat.mul_pos c (Nat.pow_pos (n:=k+1) (show 0<10 by decide));omega
  rw[e,Vf a O,Kj c (k+1) (r/10) O b,er];congr 1;by_cases h10:r<10
  ·rw[fa (show r/10<10 by omega),fa h10];have h0:r/10=0:=O;rw[h0];unfold VZ;rw[KS,KS];simp only[eI,iq];rw[show k+2-1=k+1 by omega,fP,iE h10];rfl
  rw[<-zF];congr 1;rw[fu r,dif_neg h10]
def XR(z:Int):List UInt8:=fY z
def Q5(r:Rat):List UInt8:=if r.den=1 then XR r.num else XR r.num++47::ae r.den
theorem Zi(h:z<0):XR z=45::ae z.natAbs:=by unfold XR fY;rw[if_pos h]
theorem Jd(h:0<=z):XR z=ae z.natAbs:=by
 unfold XR fY;rw[if_neg O];congr 1;omega
def YB(l:List UInt8):Int:=if au l [45]then -(JA (l.drop 1):Int)else(JA l:Int)
theorem YN{l:List UInt8}(h:XK l=true):au l [45]=false:=by
 cases l with
 |nil=>rfl
 |cons c l =>
  have hc:=Zz.1 (by rw[Ho,aw]at h;exact h.1);have:(45==c)=false:=by
   apply beq_eq_false_iff_ne.2;rintro rfl;simp at hc
  simp[au,bT,this]
def ZN(z:Int):YB (XR z)=z:=by
 unfold YB;by_cases h:z<0
 ·rw[Zi h];simp[au,bT,Jh];omega
 rw[Jd O,YN (JL _)];simp[Jh];omega
def XT{b:Int}{m:Nat}(h:sz a<=m)(k:sz b<=n):sz (a*b)<=m+n:=af (Y6 a b) (Nat.add_le_add h k)
def Re{b:Int}{m:Nat}(h:sz a<=m)(k:sz b<=n):sz (a+b)<=max m n+1:=wg<|IA a b
theorem VQ{b:Int}(hb:b≠0):J6 (aY a b)<=max (sz a) (sz b):=by
 have key:∀(x y:Int),0<y->J6 (aY x y)<=max (sz x) (sz y):=by
  intro x y hy;have h:=Z0 (x:=x) hy;unfold J6;rw[h.1,h.2];have h1:sz (x/(ew x y:Int))<=sz x:=VR (eu _ _);have h2:sz (y/(ew x y:Int))<=sz y:=VR (eu _ _);omega
 rcases Int.lt_or_gt_of_ne hb with h | h
 ·rw[<-il];have:=key (-a) (-b) O;rw[Kh,Kh]at this;exact this
 exact key a b h
def Yq(r:Rat):(r.den:Int)≠0:=wg<|den_pos r
def Vi(r s:Rat):r+s=aY (r.num*s.den+s.num*r.den) ((r.den:Int)*s.den):=by
 rw[iV,<-iD,fp]
def PF(r s:Rat):r*s=aY (r.num*s.num) ((r.den:Int)*s.den):=by
 rw[Rat.mul_def',<-iD,fp]
def Mj(r:Rat):J6 (-r)=J6 r:=by unfold J6;rw[Rat.neg_num,Rat.neg_den,Kh]
def FZ(r s:Rat):J6 (r+s)<=J6 r+J6 s+1:=by
 rw[Vi];refine af (VQ (eK (Yq r) (Yq s))) ?_;have h1:=Re (XT (Ji r) (Jb s)) (XT (Ji s) (Jb r));have h2:=XT (Jb r) (Jb s);omega
def QCm(r s:Rat):J6 (r-s)<=J6 r+J6 s+1:=by
 rw[Rat.sub_eq_add_neg];have:=FZ r (-s);rw[Mj]at this;exact this
def BN(r s:Rat):J6 (r*s)<=J6 r+J6 s:=by
 rw[PF];refine af (VQ (eK (Yq r) (Yq s))) ?_;have h1:=XT (Ji r) (Ji s);have h2:=XT (Jb r) (Jb s);omega
theorem LW{r:Rat}(h:r.num≠0):J6 r⁻¹<=J6 r:=by
 rw[jd];have:=VQ (a:=(r.den:Int)) h;unfold J6 at this ⊢;omega
def FY(n:Int):J6 (n:Rat)<=max (sz n) 1:=by
 unfold J6;rw[fj,fk];have:sz ((1:Nat):Int)=1:=wj;omega
theorem EN{x y:Fr}{r s:Rat}(a:Fits F w)(h:Ja F x r)(g:Ja F y s)(hr:J6 r<=100000000)(o:J6 s<=100000000):ZE prog 137 [x.v,y.v] w F (r*s):=by
 refine QU.go (G:=λF=>Ja F x r/\Ja F y s) func137 a ⟨h,g⟩ ?_;refine QNz<|Qv I (vs:=[_,_,_,_]) I λb2=>Qv I (vs:=[_,_,_,_]) I λb3=>Qe Yu λb4=>QMt<|QG<|JO (.cons _ w9) mixed wi<|QK (QH I KC Qj)<|QK (wH I Qj .u1)<|QK (QH I KC Qj)<|QK (wH I Qj .here)<|QZ I (λ_ _ f k=>BE f k.1.1 k.2.1 (af (Ji r) O) (af (Ji s) O)) λE=>QK (QH I KB Qj)<|QK (QR (vs:=[_,_]) I Qj .u1 (.skip (.skip .h2)) I)<|QK (QH I KB Qj)<|QK (QR (vs:=[_,_]) I Qj .here (.skip (.skip .h2)) I)<|QZ I (λ_ _ f k=>BE f k.1.1.2 k.1.2.2 (af (Jb r) O) (af (Jb s) O)) λi=>QZ I (λw F a ⟨⟨⟨⟨z,hd⟩,⟨j,m⟩⟩,h9⟩,b⟩=>Io a h9 b (eK (Yq r) (Yq s)) (af (XT (Ji r) (Ji s)) O) (af (XT (Jb r) (Jb s)) O)) λd=>Jg (vs:=[_,_,_,_]) I I I Qm I .here w9 (λ_ h=>h.1.1.1) .h4 wV<|Qw<|QD<|QW ?_
 exact QO (_) rfl (.Jo (c:=[_,_,_,_]) I Qm .here .nil) rfl λF h9=>(by rw[PF];exact⟨h9.2.1,h9.2.2⟩)
def qM{r s:Rat}(h:(r.den:Int)=1)(k:(s.den:Int)=1):r+s=((r.num+s.num:Int):Rat):=by
 have h1:r.den=1:=O;have a:s.den=1:=O;rw[iV,h1,a];apply Rat.ext
 ·rw[Rat.num_mkRat,fj];simp
 rw[Rat.den_mkRat,fk];simp
theorem RJ{x y:Fr}{r s:Rat}(b:Fits F w)(h:Ja F x r)(E:Ja F y s)(hr:J6 r<=100000000)(Y:J6 s<=100000000):ZE prog 161 [x.v,y.v] w F (r+s):=by
 refine QU.go (G:=λF=>Ja F x r/\Ja F y s) func161 b ⟨h,E⟩ ?_;refine QNz<|Qv I (vs:=[_,_,_,_]) I λb2=>Qv I (vs:=[_,_,_,_]) I λb3=>Qe Yu λb4=>QMt<|QG ?_
 refine By 10 (.bool (decide ((r.den:Int)=1)&&decide ((s.den:Int)=1))) ?_ ?_
 ·refine QB<|QA (wJ I Qm .u2)<|QL I (λw F b ⟨⟨j,hd⟩,⟨g,i⟩⟩=>EJ b ⟨by assumption,by assumption⟩) λ_=>QMu I ?_
  refine QY (t:=7) rfl (λa=>?_) λa=>?_
  ·refine QJ I I<|QA (wJ I Qm .u1)<|QJ I I<|QL I (λw F b ⟨⟨⟨j,hd⟩,⟨g,i⟩⟩,_⟩=>EJ b ⟨by assumption,by assumption⟩) λ_=>wB 2 I ?_
   exact Xn (exd 7 rfl rfl) (by show some (aj _)=some (aj _);rw[a];rfl) QNG λ_ h=>h.1.1
  refine wB 4 I ?_;exact Xn (exd 7 rfl rfl) (by show some (aj false)=some (aj _);rw[a];rfl) QNG w7
 refine QP I (λhc=>?_) λhc=>?_
 ·refine QNz<|QA (QH I KC Qj)<|QA (wH I Qj .u2)<|QA (QH I KC Qj)<|QA (wH I Qj .u1)<|QL I (λ_ _ f k=>Oh f k.1.1 k.2.1 (af (Ji r) O) (af (Ji s) O)) λX=>QL I (λw F b ⟨⟨⟨j,hd⟩,⟨g,i⟩⟩,z⟩=>Si b (by assumption)) λo=>QV (vs:=[_,_,_,_]) I I I Qm I .here .h4 wV<|QMt<|QW ?_
  exact QO (_) rfl (.Jo (c:=[_,_,_,_]) I Qm .here .nil) rfl λF h9=>(by have d:(r.den:Int)=1/\(s.den:Int)=1:=(by simpa using hc);have e:(r+s:Rat)=((r.num+s.num:Int):Rat):=qM d.1 d.2;rw[e];exact⟨h9.2.1,h9.2.2⟩)
 refine QOn 3 I<|JO (.cons _ w9) mixed wi<|QK (QH I KC Qj)<|QK (wH I Qj .u1)<|QK (QH I KB Qj)<|QK (QR (vs:=[_,_]) I Qj .here (.skip (.skip .h2)) I)<|QZ I (λ_ _ f k=>BE f k.1.1 k.2.2 (af (Ji r) O) (af (Jb s) O)) λU=>QK (QH I KC Qj)<|QK (wH I Qj .here)<|QK (QH I KB Qj)<|QK (QR (vs:=[_,_]) I Qj .u1 (.skip (.skip .h2)) I)<|QZ I (λ_ _ f k=>BE f k.1.2.1 k.1.1.2 (af (Ji s) O) (af (Jb r) O)) λL=>QZ I (λ_ _ f k=>Oh f k.1.2 k.2 (af (XT (Ji r) (Jb s)) O) (af (XT (Ji s) (Jb r)) O)) λK=>QK (QH I KB Qj)<|QK (QR (vs:=[_,_]) I Qj .u1 (.skip (.skip .h2)) I)<|QK (QH I KB Qj)<|QK (QR (vs:=[_,_]) I Qj .here (.skip (.skip .h2)) I)<|QZ I (λ_ _ f k=>BE f k.1.1.1.1.2 k.1.1.1.2.2 (af (Jb r) O) (af (Jb s) O)) λH=>QZ I (λ_ _ f k=>Io f k.1.2 k.2 (eK (Yq r) (Yq s)) (af (Re (XT (Ji r) (Jb s)) (XT (Ji s) (Jb r))) O) (af (XT (Jb r) (Jb s)) O)) λm=>Jg (vs:=[_,_,_,_]) I I I Qm I .here w9 (λ_ h=>h.1.1.1.1.1) .h4 wV<|Qw<|QD<|QW ?_
 exact QO (_) rfl (.Jo (c:=[_,_,_,_]) I Qm .here .nil) rfl λF h9=>(by rw[Vi];exact⟨h9.2.1,h9.2.2⟩)
theorem yS{x:Fr}{r:Rat}(a:Fits F w)(h:Ja F x r)(h0:r.num≠0)(hr:J6 r<=100000000):ZE prog 100 [x.v] w F r⁻¹:=by
 refine QU.go (G:=λF=>Ja F x r) func100 a h ?_;refine QNz<|Qv I (vs:=[_,_,_,_]) I λb1=>Qe Yu λb2=>QMt<|QNz<|QA (QH I KB Qj)<|QA (QR (vs:=[_,_]) I Qj .u1 (.skip (.skip .h2)) I)<|QA (QH I KC Qj)<|QA (wH I Qj .u1)<|QL I (λ_ _ f k=>Io f k.2 k.1 h0 (af (Jb r) O) (af (Ji r) O)) λb=>QV (vs:=[_,_,_,_]) I I I Qm I .here .h4 wV<|QMt<|QW ?_
 exact QO (_) rfl (.Jo (c:=[_,_,_,_]) I Qm .here .nil) rfl λF h9=>(by rw[jd];exact⟨h9.2.1,h9.2.2⟩)
theorem QGU{x y:Fr}{r s:Rat}(b:Fits F w)(h:Ja F x r)(d:Ja F y s)(h0:s.num≠0)(hr:J6 r<=100000000)(a:J6 s<=100000000):ZE prog 84 [x.v,y.v] w F (r/s):=by
 refine QU.go (G:=λF=>Ja F x r/\Ja F y s) func84 b ⟨h,d⟩ ?_;refine QNz<|Qv I (vs:=[_,_,_,_]) I λb2=>Qv I (vs:=[_,_,_,_]) I λb3=>Qe Yu λb4=>QMt<|QG<|JO (.cons _ w9) mixed wi<|QK (wJ I Qm .u1)<|QK (wJ I Qm .here)<|QZ I (λ_ _ f k=>yS f ⟨k.2.1,k.2.2⟩ h0 a) λi=>QZ I (λ_ _ f k=>EN f ⟨k.1.1.1,k.1.1.2⟩ ⟨k.2.1,k.2.2⟩ hr (af (LW h0) a)) λg=>Jg (vs:=[_,_,_,_]) I I I Qm I .here w9 (λ_ h=>h.1.1) .h4 wV<|Qw<|QD<|QW ?_
 exact QO (_) rfl (.Jo (c:=[_,_,_,_]) I Qm .here .nil) rfl λF h9=>(by rw[Rat.div_def];exact⟨h9.2.1,h9.2.2⟩)
def Ky(r s:Rat):Int:=if r<s then -1 else if r=s then 0 else 1
def pX(r s:Rat):ZS (r.num*s.den) (s.num*r.den)=Ky r s:=by
 unfold Ky;rcases e8 (r.num*s.den) (s.num*r.den)with h | h | h
 ·rw[WE h,if_pos ((im r s).2 h)]
 ·rw[h,M5,if_neg (by rw[im];omega),if_pos (Rat.eq_iff_mul_eq_mul.2 h)]
 rw[Hm h,if_neg (by rw[im];omega),if_neg (by rw[Rat.eq_iff_mul_eq_mul];omega)]
theorem Al{x y:Fr}{r s:Rat}(a:Fits F w)(h:Ja F x r)(c:Ja F y s)(hr:J6 r<=100000000)(j:J6 s<=100000000):QX prog 79 [x.v,y.v] w F (.int .i64 (Ky r s)):=by
 rw[<-pX];refine QU.go (G:=λF=>Ja F x r/\Ja F y s) func79 a ⟨h,c⟩ ?_;refine QNz<|Qv I (vs:=[_,_,_,_]) I λb2=>Qv I (vs:=[_,_,_,_]) I λb3=>wQ I<|QG<|JO QNG mixed wi<|QK (QH I KC Qj)<|QK (wH I Qj .u1)<|QK (QH I KB Qj)<|QK (QR (vs:=[_,_]) I Qj .here (.skip (.skip .h2)) I)<|QZ I (λ_ _ f k=>BE f k.1.1 k.2.2 (af (Ji r) O) (af (Jb s) O)) λo=>QK (QH I KC Qj)<|QK (wH I Qj .here)<|QK (QH I KB Qj)<|QK (QR (vs:=[_,_]) I Qj .u1 (.skip (.skip .h2)) I)<|QZ I (λ_ _ f k=>BE f k.1.2.1 k.1.1.2 (af (Ji s) O) (af (Jb r) O)) λd=>QZ I (λw F a ⟨⟨⟨⟨m,hd⟩,⟨g,i⟩⟩,h9⟩,b⟩=>QGk a h9 b (af (XT (Ji r) (Jb s)) O) (af (XT (Ji s) (Jb r)) O)) λ_=>QK (QF I)<|Qw<|QD<|QW ?_
 exact QO2 I I I wy
theorem Yg.kind{s:Int}{q:Option Addr}(h:Yg w s q n cap z):(q.isNone=true/\s=z/\-9223372036854775808<=z/\z<=9223372036854775807)\/(q.isNone=false/\¬(-9223372036854775808<=z/\z<=9223372036854775807/\z≠-9223372036854775808)):=by
 rcases h with ⟨rfl,_,_,h1,h2,h3⟩ | ⟨b,off,l,rfl,_,_,_,_,_,_,_,a,hz,hd⟩
 ·exact .inl ⟨rfl,h1,h2,h3⟩
 refine .inr ⟨rfl,?_⟩;rcases a with rfl | rfl<;>omega
theorem vz(b:Fits F w)(h:Jt F g a):QU prog 228 [g.v] w F (λ(c:Int×Bool)=>.tuple #[.int .i64 c.1,.bool c.2])
  (λc _=>(c.2=true/\c.1=a/\-9223372036854775808<=a/\a<=9223372036854775807)\/(c.2=false/\¬(-9223372036854775808<=a/\a<=9223372036854775807/\a≠-9223372036854775808))):=by
 have hk:=Yg.kind (h w b.r);refine QU.go (G:=λF=>Jt F g a) func228 b h ?_;refine QNz<|Qv I (vs:=[_,_]) I λb1=>QOm 5 I<|JO QNG mixed wi<|QK (QH I PV Qo)<|QK (Qa I Qo .here .h1)<|QK (QH I EO GH)<|QK (Qa I GH .here (.skip .h1))<|QK (Wf I I VV)<|QK (QF I)<|QK (QF I)<|Qw<|QD<|QW ?_
 exact Xm ((g.s,g.q.isNone)) I (wO I I) rfl λF _=>hk
theorem L2{w0:World}{F0:Gs}{bs:List (Nat×Obj)}{G:Gs->Prop}{T:TypeId}(hx:ev m x=some (.pointer (some ⟨b,off+i*1,none⟩)))(ht:Zm P T=some (false,n))(hr:∀F,G F->Ke F ⟨some ⟨b,off,none⟩,k,cap⟩ l)(hi:i<l.length):
  Qt P N m (St ⟨w0,F0,bs,G⟩) (.load T x) ty (.int .u64 (l.getD i 0)):=λa w _ _ _ _ ha d=>by
 obtain⟨F,d⟩:=d;obtain⟨q,h,e,_,_,hc⟩:=(hr F d.hG).1 w d.fits.r;obtain⟨b',g,o,_,j⟩:=hc i hi;simp only[Sr.v,bU]at e;have e3:=e.1.trans o;simp only[eL,iB]at e3;obtain⟨rfl,rfl,_⟩:=e3;have f:w.cell? ⟨b,off+i*1,none⟩=some (.int .u64 (l.getD i 0)):=by rw[jT];exact j
 have c:=Zc (P:=P) ht f;simp at c;simp[execOp,ha.ev hx,eX,eN,c]
theorem Ke.at{r:Sr}(h:Ke F r l){w:World}(c:Fits F w)(d:l≠[]):r.n=l.length/\∃b off,r.q=some ⟨b,off,none⟩:=by
 obtain⟨q,cap,e,_,_,hc⟩:=h.1 w c.r;have a:0<l.length:=by cases l with | nil=>exact absurd rfl d | cons=>simp
 obtain⟨b,off,f,_,_⟩:=hc 0 a;simp only[Sr.v,bU]at e;exact⟨e.2.1,b,off,e.1.trans f⟩
theorem Ke.len{r:Sr}(h:Ke F r l){w:World}(a:Fits F w):r.n=l.length:=by
 obtain⟨q,cap,e,_,_,hc⟩:=h.1 w a.r;simp only[Sr.v,bU]at e;exact e.2.1
theorem jy(h1:2^k<=z.natAbs)(h2:z.natAbs<2^(k+1)):sz z=k+1:=by
 have a:=(J3 z (k+1)).2 h2;have b:¬sz z<=k:=λh=>wg<|(J3 z k).1 h
 omega
theorem qG(hd:DG W l)(E:NZ l)(H:l≠[]){a:Int}(ha:dv W l=JZ a):sz a=64*(l.length-1)+bK (l.getD (l.length-1) 0).toNat/\bK (l.getD (l.length-1) 0).toNat<=64:=by
 rcases IH l with h | ⟨m,x,rfl⟩
 ·exact absurd h H
 have hx:=hd x wu;have z:x≠0:=by intro e;subst e;simp[NZ]at E
 have hm:DG W m:=hd.left;have U:((m++[x]).getD ((m++[x]).length-1) 0)=x:=wu;rw[U];have L:(m++[x]).length-1=m.length:=wu;rw[L];have w:W=18446744073709551616:=rfl;obtain⟨y,rfl⟩:=fI hx.1;rw[bj];have b:y<2^64:=by have:=hx.2;rw[w]at this;omega
 obtain⟨g1,f,o⟩:=Lib.bitLenAux_bounds 64 y b O;change 1<=bK y at g1;change 2^(bK y-1)<=y at f;change y<2^bK y at o;have K:bK y<=64:=Lib.bitLen_le y 64 O b;refine⟨?_,K⟩;rw[XO]at ha;have h0:=Qp (by decide:(0:Int)<W) hm;have h1:=Zu (by decide:(0:Int)<W) hm;obtain⟨d,i⟩:=fI h0;have j:W^m.length=((2^(64*m.length):Nat):Int):=by
  rw[w,jA];simp
 rw[j]at ha h1;rw[i]at ha h1;have c:a.natAbs=d+2^(64*m.length)*y:=by
  have:((a.natAbs:Nat):Int)=((d+2^(64*m.length)*y:Nat):Int):=by
   rw[<-K3,<-ha];simp
  exact Int.ofNat.inj this
 have F:d<2^(64*m.length):=O;obtain⟨k,hk⟩:∃k,bK y=k+1:=⟨_,(Nat.sub_add_cancel g1).symm⟩;rw[hk]at f o ⊢;rw[iq]at f;have hp:2^(64*m.length+k)=2^(64*m.length)*2^k:=jS _ _ _;have g:2^(64*m.length+k+1)=2^(64*m.length)*2^(k+1):=by rw[ey,jS]
 refine jy (k:=64*m.length+k) ?_ ?_
 ·rw[c,hp];exact af (eW _ f) (Nat.le_add_left _ _)
 rw[c,g];have h2:2^(64*m.length)*(y+1)<=2^(64*m.length)*2^(k+1):=eW _ o;rw[jU]at h2;omega
theorem QCG(K:Fits F w)(h:Jt F g a)(o:sz a<=1000000000):QX prog 223 [g.v] w F (.int .i64 (sz a)):=by
 refine QU.go (G:=λF=>Jt F g a) func223 K h ?_;refine QNz<|Qv I (vs:=[_,_]) I λb1=>QOm 5 I<|QA (wH I Qj .here) ?_
 refine QL I (λ_ _ f k=>Mo f (by assumption)) (λX=>?_);rcases X with ⟨L,m⟩;dsimp only;refine J5 _ (λw F K ⟨U,⟨h7,z⟩⟩=>bN h7.2 z) (λb=>J5 _ (λ_ _ f k=>k.2.1.len f) λd=>?_);have y:=Xr b.1.1 b.1.2 b.2 o
 try dsimp only at d
 refine QOm 11 I<|QA (Qb I VV)<|QOm 3 I ?_
 refine QP I (λhc=>?_) λhc=>?_
 ·refine wA 6 I ?_;exact QO () I (wN I) (by have h0:m=[]:=aD (by simp at hc;omega);have e:=b.2;rw[h0]at e;have:a=0:=(by have:=K3 a;simp at e;omega);subst this;rfl) wy
 refine QOn 4 I ?_;have j:m≠[]:=by rintro rfl;simp at hc;simp at d;omega
 have H:0<m.length:=by cases m with | nil=>exact absurd rfl j | cons=>simp
 have x:=qG b.1.1 b.1.2 j b.2;refine J5 _ (λ_ _ f k=>(k.2.1.at f j).2) (λc=>?_);obtain⟨qb,qo,c⟩:=c;obtain⟨Y,vn,E⟩:=L
 try dsimp only at c d
 subst c;subst d;dsimp only;refine QMu I<|QA (Qb I VV)<|QA (Jv I I O)<|QA (We I I O)<|wB 2 I<|QA (Qb I VV)<|QA (Jv I I O)<|QA (Ql (i:=m.length-1) rfl wM VV Nq O)<|QA (L2 I Nq (λF h9=>h9.2.1) O)<|QL I (λ_ _ f k=>dH f (b.1.1.getD wj _).1 (by have:=(b.1.1.getD wj (m.length-1)).2;have hW:W=18446744073709551616:=rfl;omega)) λ_=>QA (Qk I I O)<|wQ I<|QW ?_
 exact QO () I (wN I) (congrArg (ah .i64) (wg x.1)) wy
def DA{l:List UInt8}(h:XK l=true):sz (JA l:Int)<=4*l.length:=by
 rw[J3,Int.natAbs_natCast,jA];exact aR (Ku h) (eV wj _)
def QF9(n:Nat):(if(n:Int)<18 then(n:Int)else 18)=((min 18 n:Nat):Int):=by split<;>omega
def IN{l:List UInt8}:JA (l.take (k+n))=JA (l.take k)*10^((l.drop k).take n).length+JA ((l.drop k).take n):=by
 rw[<-Zy,List.take_add]
def UX(k:Nat):sz ((10:Int)^k)<=4*k+1:=by have:=RA 10 k;rw[show sz 10=4 by decide]at this;omega
structure QAa(n:Nat) where
 k:Nat
 g:Bg
 le:k<=n
theorem N5(X:Fits F w)(z:XK (ai s [45])=true)(hl:s.length<=10000000):ZU prog 145 [tx s] w F (YB s):=by
 have L:(ai s [45]).length<=s.length:=by unfold ai;split<;>simp
 have d:YB s=if au s [45]then -(JA (ai s [45]):Int)else(JA (ai s [45]):Int):=by
  unfold YB ai;split<;>simp_all
 rw[d];refine QU.intro (G:=λ_=>True) func145 rfl wm rfl rfl X wy<|QNz<|Qe GR λb2=>QMt<|wR rfl<|QL rfl (λ_ _ f _=>AZ f ) λ_=>wQ rfl<|wR rfl<|QL rfl (λ_ _ f k=>B7 f ) λ_=>wQ rfl<|QNz<|QA (XM rfl QFT GR .nil)<|Qe GR λb4=>QV (vs:=[_,_]) rfl rfl rfl Qj rfl .here .h2 wT<|QOm 4 I ?_
 generalize ai s [45]=l at *
 refine Xd (ι:=QAa l.length) (λi=>[(0,tx (l.drop i.k)),(2,.pointer (some ⟨b2,0,none⟩)),(4,.pointer (some ⟨b4,0,none⟩)),(3,.bool (au s [45]))]) (λi=>[(b4,.cells #[.int .i64 i.g.s,.slice i.g.q i.g.n i.g.cap] 85 (0,0)),(b2,.cells #[.int .i64 0,.slice none 0 0] 85 (0,0))]) (λi F=>Jt F i.g (JA (l.take i.k))) (λi=>l.length-i.k)
  ⟨0,⟨0,none,0,0⟩,aX _⟩ wV QNG (λF _=>Jt.small F wj wj) λi=>?_
 refine wA 4 I<|QA (Je I J7)<|QOm 3 I ?_
 refine QP I (λhc=>?_) λhc=>?_
 ·refine QOn 6 I<|QA (Je I J7)<|QA (xh I I) ?_
  rw[QF9];have U:i.k<l.length:=by simp at hc;omega
  have h:((l.drop i.k).take (min 18 (l.drop i.k).length)).length=min 18 (l.drop i.k).length:=wu;have b:XK ((l.drop i.k).take (min 18 (l.drop i.k).length))=true:=Hn (EZ z _) _;have E:=Ku b;have H:(10:Nat)^((l.drop i.k).take (min 18 (l.drop i.k).length)).length<=10^18:=aF wj O;have K:0<min 18 (l.drop i.k).length:=wv;have x:sz (JA (l.take i.k):Int)<=40000000:=af (DA (Hn z _)) wv;refine wQ rfl<|wR rfl<|QMu rfl<|QA (V7 (min 18 (l.drop i.k).length) rfl rfl J7 rfl O)<|QL rfl (λ_ _ f k=>QCI f O (qJ b (by intro e;rw[e]at h;simp at h;omega))) λ_=>QOm 8 I<|Jq 8 QNG mixed wi wi ?_
  simp only[aT,bH,aV,bw];refine QK (wH I Qj .here)<|QZ I (λ_ _ f k=>CO f O O) λg27=>QK (QC I)<|QZ I (λ_ _ f k=>QFQ f k.2 O O (by rw[bj,show sz 10=4 by decide];omega)) λg29=>QZ I (λ_ _ f k=>BE f k.1.1.1 k.2 O (by rw[bj];exact af (UX _) O)) λg30=>QK (QC I)<|QZ I (λ_ _ f k=>CO f O O) λg32=>QZ I (λ_ _ f k=>Oh f k.1.2 k.2 (af (XT x (UX _)) (by rw[bj];omega)) (af (DA b) O)) λo=>Zf<|QV (vs:=[_,_]) I I I Qj I .here .h2 wT<|QOm 5 I<|QA (Zp (min 18 (l.drop i.k).length) rfl rfl J7 I O)<|wB 2 I<|Qf ?_
  refine Qh (⟨i.k+min 18 (l.drop i.k).length,o,wv⟩:QAa l.length) wv ⟨(by show some (tx _)=some (tx _);simp),rfl,rfl,rfl,trivial⟩ QNG (λF ⟨_,m⟩=>by
   show Jt F o (JA (l.take (i.k+min 18 (l.drop i.k).length)):Int);rw[IN];rw[bj]at m;have e:((l.drop i.k).take (min 18 (l.drop i.k).length)).length=min 18 (l.drop i.k).length:=wu;rw[e,Int.natCast_add,fp,Int.natCast_pow];exact m)
 refine Q7 ?_;refine wA 6 I ?_;have a:l.take i.k=l:=ak (by have:=i.le;simp at hc;omega);clear hc;refine QP I (λhc=>?_) λhc=>?_
 ·refine QNz<|QA (wH I Qj .here)<|QL I (λ_ _ f k=>AD f k) λY=>QV (vs:=[_,_]) I I I Qj I .u1 .h2 wT<|QMt<|QW ?_
  exact QO (_) rfl (.Jo (c:=[_,_]) I Qj .u1 .nil) rfl λF ⟨y,j⟩=>(by rw[a]at j;rw[if_pos hc];exact j)
 refine QOn 4 I<|QA (wH I Qj .here)<|QV (vs:=[_,_]) I I I Qj I .u1 .h2 wT<|QMt<|QW ?_
 exact QO (_) rfl (.Jo (c:=[_,_]) I Qj .u1 .nil) rfl λF y=>(by rw[a]at y;rw[if_neg (by simp[hc])];exact y)
section
variable[Dr][df:Df]{P:Program}{Q:Exit->Act->World->Prop}{N:Nat}{m:Sl}{E E0:Env}{ops:Array Oper}{l:List Oper}{w0:World}{F0:Gs}{bs:List (Nat×Obj)}{G:Gs->Prop}
theorem St.kI(h:St ⟨w0,F0,bs,G⟩ w)(c:Array Value)(T:TypeId):St ⟨w0,F0,bs,λF=>G F/\F w.heap.size=some (c,T)⟩ (w.alloc (.cells c T)):=by
 obtain⟨F,h⟩:=h;have f:=h.fits.none (aG _);have a:Gs.le F (λi=>if i=w.heap.size then some (c,T)else F i):=λi x hx=>by
  grind
 have o:(w.alloc (.cells c T)).heap[w.heap.size]?=some (.cells c T):=by show(w.heap.push _)[_]?=_;simp
 refine⟨_,Gs.le_trans h.le a,λb hb=>?_,⟨λb m T' hb=>?_,λb m fr hb=>?_⟩,h.ext.alloc _,λk hk=>?_,h.nd,λF' d=>⟨h.g F' (Gs.le_trans a d),d _ _ (if_pos rfl)⟩⟩
 ·have y:=aR hb h.ext.size;rw[if_neg O];exact h.old b hb
 ·by_cases e:b=w.heap.size
  ·simp_all
  rw[if_neg e]at hb;obtain⟨fr,z⟩:=h.fits.row b m T' hb
  grind[e9]
 ·by_cases e:b=w.heap.size
  ·simp_all
  rw[if_neg e];have j:b<w.heap.size:=by
   rcases aS b _ with g | g
   ·exact g
   have:(w.heap.push _)[b]?=some _:=hb
   grind
  rw[e9 _ _ _ j]at hb;exact h.fits.all b m fr hb
 obtain⟨h1,h2,h3⟩:=h.bx k hk;exact⟨by grind[e9],h2,by grind⟩
section
variable{d:Nat}{ty:TypeId}{pos:String}{aft:Array Edge}
theorem JC{t e:TypeId}{sz:Nat}{z:List Value}{g:Bool}{parts:Array _}{ps:List _}(hp:WK m parts.toList=some ps)(ht:P.underlying t=some (.slice e))(h:Zm P e=some (g,sz))(hz:Ju P e=some z)
  (hc:Yn sz 0 ps=some cs) (j:cs.length=n*sz) (k:∀b,JS P ops Q l N ((d,.slice (some ⟨b,0,none⟩) n n)::m) ⟨w0,F0,bs,λF=>G F/\F b=some (cs.toArray,e)⟩) (c:iX (n*sz) 16777216=true:=by rfl) (i:Nat.beq (n*sz) 0=false:=by rfl)
  (hd:Jx N (some d)=true:=by rfl):JS P ops Q (⟨some d,.buildSlice t n parts,ty,pos,aft,none⟩::l) N m ⟨w0,F0,bs,G⟩:=λa w ha f =>
 wpList_plain rfl λ_ o=>upon_value (Y7 ha hp ht h hz hc j c i) (o _ _ (k _ _ _ (ha.put hd _) (f.kI _ _)))
theorem Z1{t e:TypeId}{sz bytes:Nat}{z:List Value}{g:Bool}{X Y:Operand}{x y:Value}{news:List Value}{ob bs1:List _}(hx:ev m X=some x)(hy:ev m Y=some y)(ht:GZ P t=some e)(H:Zm P e=some (g,sz))(hz:Ju P e=some z)(f:z.length=sz)(i:ZC P e=some bytes)
  (hr:Q2 e sz x n olds ob) (b:Src ⟨w0,F0,bs1++ob,G⟩ sz y k news) (j:n+k<=9223372036854775807) (o:(n+k)*bytes<=140737488355328) (h1:∀v∈news,v.oneCell'=true)
  (E:∀v' ob',Q2 e sz v' (n+k) (olds++news) ob'->JS P ops Q l N ((d,v')::m) ⟨w0,F0,bs1++ob',G⟩) (hu:Gz e=true:=by rfl) (hd:Jx N (some d)=true:=by rfl) :
  JS P ops Q (⟨some d,.call ⟨.builtin .append,#[X,Y],#[t,t]⟩,ty,pos,aft,none⟩::l) N m ⟨w0,F0,bs1++ob,G⟩ :=
 X5 eH (Ed hx hy ht H hz f i hr ⟨b.len,b.rd.imp id λ⟨a,c,L,K⟩=>⟨a,c,L,λw F=>K w (F.perm eH)⟩⟩ j o h1
  (λv' ob' h=>X5 eH (E v' ob' h)) hu hd)
end
theorem Own.skip{l:List _}{o:Obj}{f:Obj->List _}(h:Own l b o f):∀p:List _,Own (p++l) b o (λo'=>p++f o')
 |[]=>h
 |_::p=>.there (h.skip p)
theorem CF{T e:TypeId}{sz n':Nat}{v:Value}{ob:List _}{u:Value}(hr:Q2 e sz v n cs ob)(hm:∀k∈ob,k∈bs)(hb:v = .slice (some ⟨b,0,none⟩) n n')(hx:ev m x=some (.pointer (some ⟨b,0+i*1,none⟩)))(ht:Zm P T=some (false,1))(hu:cs[i]?=some u):
  Qt P N m (St ⟨w0,F0,bs,G⟩) (.load T x) ty u:=λa w _ _ _ _ ha hw=>by
 obtain⟨F,hw⟩:=hw;cases hr with
 |nil=>grind
 |some g1 g2 g3 g4 =>
  rename_i b' cap rest;simp only[bU,eL,iB]at hb;have hbb:=hb.1.1;subst hbb;have hi:i<cs.length:=by grind
  have hc:w.cell? ⟨b',0+i*1,none⟩=some u:=by
   rw[Xe (hw.bx (b',.cells (cs++rest).toArray e (0,0)) (hm _ wu)).1,aM,jT,List.getElem?_append,if_pos hi];exact hu
  have hrun:=Zc ht hc;simp only[execOp,ha.ev hx,eX,eN,eE,eD,bF,hrun]
end
def hd(q:Nat):List UInt8:=if q=0 then[]else ae q
def dz(h:0<n):hd n=hd (n/10^18)++(if n/10^18=0 then ae (n%10^18)else VZ 18 (ae (n%10^18))):=by
 unfold hd;rw[if_neg O];split
 ·rename_i h0;rw[fe];congr 1;omega
 rename_i h0;rw[<-Kj O 18 _ wj (eC _ wj)];congr 1;rw[fL];exact(Nat.div_add_mod n (10^18)).symm
theorem CN(hd:DG W l)(a:NZ l)(h:dv W l<W):(l=[]\/l=[dv W l]):=by
 cases l with
 |nil=>exact .inl rfl
 |cons x r =>
  cases r with
  |nil=>right;simp
  |cons y r =>
   exfalso;have:=De (by decide:(0:Int)<W) hd a wu;have h2:=YD (b:=W) wj (show 1<=(x::y::r).length-1 by simp);rw[Int.pow_one]at h2;omega
structure qQ(n:Nat) where
 l:List Int
 r:Sr
 ps:List (List UInt8)
 v:Value
 ob:List (Nat×Obj)
 dg:DG W l
 nz:NZ l
 le:(dv W l).toNat<=n
 hr:Q2 9 1 v ps.length (ps.map tx) ob
 ne:∀p∈ps,p≠[]
 inv:hd (dv W l).toNat++ps.reverse.flatten=hd n
def Ai:∀ {ps:List (List UInt8)},(∀p∈ps,p≠[])->ps.length<=ps.flatten.length
 |[],_=>wu
 |p::ps,h=>by
  have h1:=Ai (ps:=ps) (λq a=>h q (by simp[a]));have h2:0<p.length:=by
   have:=h p wu;cases p with | nil=>exact absurd rfl this | cons=>simp
  simp[fS]at h1 ⊢;omega
def yG(h:n<2^k):(hd n).length<=k:=by
 unfold hd;split
 ·simp
 rename_i h0;rw[aK];have hk:0<k:=by rcases bB k with e | e;subst e;simp at h;omega;exact e
 exact Ze (aR h (eV wj k)) hk
def Sz(ps:List (List UInt8)):ps.reverse.flatten.length=ps.flatten.length:=by
 induction ps with
 |nil=>rfl
 |cons p ps ih=>simp[bV];simp[fS]at ih ⊢;omega
def qQ.few(i:qQ n)(h:n<2^k):i.ps.length<=k:=by
 have h1:=Ai i.ne;have h2:=congrArg eO i.inv;rw[aq,Sz]at h2;have h3:=yG h;omega
def QBO{l:List UInt8}(h:l≠[]):VZ 18 l≠[]:=by
 unfold VZ;simp[h]
def qQ.next{n:Nat}(i:qQ n)(k:i.l≠[])(q:List Int)(g:Sr)(d:Value)(a:List (Nat×Obj))(s:List UInt8)(c:DG W q)(b:NZ q)(j:(dv W q).toNat=(dv W i.l).toNat/10^18)
  (f:s=if(dv W q).toNat=0 then ae ((dv W i.l).toNat%10^18)else VZ 18 (ae ((dv W i.l).toNat%10^18)))
  (hr:Q2 9 1 d (i.ps.length+1) (i.ps.map tx++[tx s]) a):qQ n where
 l:=q
 r:=g
 ps:=i.ps++[s]
 v:=d
 ob:=a
 dg:=c
 nz:=b
 le:=by have:=i.le;have:=Nat.div_le_self (dv W i.l).toNat (10^18);omega
 hr:=by simpa using hr
 ne:=by
  intro p hp;rcases List.mem_append.1 hp with h | h
  ·exact i.ne p h
  rw[List.mem_singleton.1 h,f];split
  ·exact YJ _
  exact QBO (YJ _)
 inv:=by
  have h0:0<(dv W i.l).toNat:=by
   have h1:=Qp (by decide:(0:Int)<W) i.dg;have h2:=mt (KD (by decide:(1:Int)<W) i.dg i.nz).1 k;omega
  rw[<-i.inv,dz h0,<-j,f];simp[bV]
def yk{q:List Int}{b:Int}(hb:b=1000000000000000000)(h:dv W q=dv W l/b)(h0:0<=dv W l):(dv W q).toNat=(dv W l).toNat/10^18:=by
 subst hb;rw[h];omega
def pQ{r:List Int}{b:Int}(hb:b=1000000000000000000)(h:dv W r=dv W l%b)(h0:0<=dv W l):(dv W r).toNat=(dv W l).toNat%10^18/\dv W r<1000000000000000000/\0<=dv W r:=by
 subst hb;rw[h];omega
structure kP(b:Nat)(pre:List UInt8)(ps:List (List UInt8)) where
 k:Nat
 uX:List (Nat×Obj)
 le:k<=ps.length
 bl:Fm b (pre++(ps.drop k).reverse.flatten) uX
def gh(h:a≠0):(if a<0 then[45]else[])++hd a.natAbs=XR a:=by
 have h0:a.natAbs≠0:=O;unfold hd;rw[if_neg h0];by_cases h1:a<0
 ·rw[if_pos h1,Zi h1];rfl
 rw[if_neg h1,Jd O];rfl
theorem Ke.base{x:Int}(h:F b=some ([ah .u64 x].toArray,264))(h0:0<x)(h1:x<W):Ke F ⟨some ⟨b,0,none⟩,1,1⟩ [x]:=by
 refine⟨λw c=>?_,?_,?_⟩
 ·obtain⟨fr,e⟩:=c b _ _ h;refine⟨_,1,rfl,wu,wj,λi hi=>?_⟩;have a:i=0:=by simp at hi;omega
  subst a;exact⟨b,0,rfl,⟨_,_,e⟩,by simp[World.cell?,e];rfl⟩
 ·intro y hy;rw[List.mem_singleton.1 hy];omega
 simp[NZ];omega
theorem DH(K:Fits F w)(hG:JU F)(h:Jt F g a)(hza:sz a<=100000000):QX prog 224 [g.v] w F (tx (XR a)):=by
 have hk:=Yg.kind (h w K.r);have hn2:a.natAbs<2^sz a:=H6 a;refine QU.go (G:=λF=>JU F/\Jt F g a) func224 K ⟨hG,h⟩ ?_;refine QNz<|Qv I (vs:=[_,_]) I λb1=>QOm 6 I<|QA (QH I EO GH)<|QA (Qa I GH .here (.skip .h1))<|QA (Wf I I VV)<|QE<|QD ?_
 refine QP I (λhc=>?_) λhc=>?_
 ·refine QNz<|QA (QH rfl PV Qo)<|QA (Qa rfl Qo .here .h1)<|QL rfl (λw F K ⟨hGl,hB⟩=>yC K hGl (by rcases hk with hk | hk;omega;rw[hk.1]at hc;cases hc) (by rcases hk with hk | hk;omega;rw[hk.1]at hc;cases hc)) λ_=>wQ rfl<|QW ?_
  exact QO () rfl (wN rfl) (by rcases hk with hk | hk;rw[hk.2.1];rfl;rw[hk.1]at hc;cases hc) wy
 refine QOn 4 I<|QA (wH I Qj .here) ?_
 refine QL I (λw F K ⟨hGl,hB⟩=>Mo K (by assumption)) (λc20=>?_);rcases c20 with ⟨v20,l20⟩;dsimp only;refine J5 _ (λw F K ⟨⟨hGl,hB⟩,⟨h20,h20p⟩⟩=>bN h20.2 h20p) (λp20=>?_);have ha0:a≠0:=by rcases hk with hk | hk;rw[hk.1]at hc;cases hc;omega
 have hn20:(dv W l20).toNat=a.natAbs:=by rw[p20.2,K3];rfl
 refine QOm 9 I<|JC I (Jc VV) Nq QEo I I λH=>QOm 10 I ?_
 refine Xd (ι:=qQ a.natAbs) (λi=>[(3,.bool (decide (a<0))),(4,.slice i.r.q i.r.n i.r.cap),(5,.slice (some ⟨H,0,none⟩) 1 1),(6,i.v)]) (λi=>i.ob) (λi F=>JU F/\Ke F ⟨some ⟨H,0,none⟩,1,1⟩ [1000000000000000000]/\Ke F i.r i.l) (λi=>(dv W i.l).toNat)
  ⟨l20,v20,[],.slice none 0 0,[],p20.1.1,p20.1.2,O,.nil,wu,by rw[hn20];simp⟩ wV tA (λF h9=>⟨h9.1.1.1,Ke.base h9.2 wj wj,h9.1.2.1⟩) λi=>?_
 refine XD _ (λ_ _ f h=>h.2.2.len f) (λhil=>wA 4 I<|QA (Qb I VV)<|QOm 3 I ?_);refine QP I (λhc=>?_) λhc=>?_
 ·have hne:i.l≠[]:=by intro e;rw[e]at hil;simp at hc;simp at hil;omega
  have h0i:=Qp (by decide:(0:Int)<W) i.dg;have hposi:0<(dv W i.l).toNat:=by
   have:=mt (KD (by decide:(1:Int)<W) i.dg i.nz).1 hne;omega
  have hlen:i.l.length<=10000000000:=by
   have hle:=i.le;have h3:=Xr (z:=dv W i.l) i.dg i.nz (by unfold JZ;split<;>omega) (af (VR (by omega:(dv W i.l).natAbs<=a.natAbs)) (af hza wj));omega
  refine QOn 7 I ?_;refine QL I (λ_ _ f k=>Ar (r:=i.r) (r':=⟨some ⟨H,0,none⟩,1,1⟩) (la:=i.l) (lb:=[1000000000000000000]) f k.2.2 k.2.1 (List.cons_ne_nil _ _) hlen (fO I)) (λc30=>?_);rcases c30 with ⟨⟨y,m⟩,v30_,d⟩;dsimp only;refine J5 _ (λw F K ⟨⟨hGl,⟨hbase,hL⟩⟩,⟨⟨h30,Y⟩,h30p⟩⟩=>bN h30.2 (bN Y.2 h30p)) (λE=>?_);have hb1:dv W [1000000000000000000]=1000000000000000000:=wu;have hq:=yk hb1 E.2.2.1 h0i;have hr:=pQ hb1 E.2.2.2 h0i;have h1d:=CN E.2.1.1 E.2.1.2 (by have hW:W=18446744073709551616:=rfl;omega);refine J5 _ (λw F K ⟨_,⟨⟨h30,Y⟩,_⟩⟩=>bN (h30.len K) (Y.len K)) (λpl=>QMu rfl<|QA (Qi rfl rfl)<|QA (Qi rfl rfl)<|QMv rfl<|wQ rfl<|QNz<|QMv rfl<|QE<|QD ?_);refine Ha (ι:=Unit) (λ_=>[(3,.bool (decide (a<0))),(5,.slice (some ⟨H,0,none⟩) 1 1),(6,i.v),(7,.slice y.q y.n y.cap),(9,tx (ae ((dv W i.l).toNat%10^18)))]) (λ_=>i.ob) (λ_ F=>JU F/\Ke F ⟨some ⟨H,0,none⟩,1,1⟩ [1000000000000000000]/\Ke F y m) ?_ ?_
  ·refine wR I<|QA (Qb I VV)<|QOm 3 I ?_
   refine QP I (λhc=>?_) λhc=>?_
   ·have hl1:d=[dv W d]:=by
     rcases h1d with e | e
     ·exfalso;rw[e]at pl;simp at hc;simp at pl;omega
     exact e
    have hll:d.length=1:=by rw[hl1];rfl
    have hg0:d.getD 0 0=(((dv W i.l).toNat%10^18:Nat):Int):=by
     have:d.getD 0 0=dv W d:=by rw[hl1];simp
     rw[this];omega
    refine XD _ (λw F K ⟨_,⟨_,h⟩,_⟩=>(h.at K (by intro e;rw[e]at hll;simp at hll)).2) (λhqb=>wA 2 I ?_);obtain⟨qb,qo,hqb⟩:=hqb;obtain⟨vq,vn,vcap⟩:=v30_;dsimp only at hqb pl;subst hqb;refine QA (Ql (i:=0) rfl rfl VV Nq (by dsimp only;omega))<|QA (L2 (l:=d) rfl Nq (λF h9=>h9.2.1.2) O) ?_
    rw[hg0];refine QL I (λ_ _ f k=>TX f k.1.1 O) (λ_=>wB 2 I ?_);exact Xw () wW QNG λF h9=>⟨h9.1.1.1,h9.1.1.2.1,h9.1.2.1.1⟩
   refine QN ?_;have e0:(dv W i.l).toNat%10^18=0:=by
    rcases h1d with e | e
    ·rw[e]at hr;simp at hr;omega
    have:=congrArg eO e;simp at this;simp at hc;omega
   exact Xw () ⟨rfl,rfl,rfl,rfl,(by show some (tx _)=some (tx _);rw[e0,Xz]),trivial⟩ QNG λF h9=>⟨h9.1.1,h9.1.2.1,h9.2.1.1⟩
  intro xg9;refine Ha (ι:=Unit) (λ_=>[(3,.bool (decide (a<0))),(5,.slice (some ⟨H,0,none⟩) 1 1),(6,i.v),(7,.slice y.q y.n y.cap),(9,tx ((if(dv W m).toNat=0 then ae ((dv W i.l).toNat%10^18)else VZ 18 (ae ((dv W i.l).toNat%10^18)))))]) (λ_=>i.ob) (λ_ F=>JU F/\Ke F ⟨some ⟨H,0,none⟩,1,1⟩ [1000000000000000000]/\Ke F y m) ?_ ?_
  ·refine wR I<|QA (Qb I VV)<|QOm 3 I ?_
   refine QP I (λhc=>?_) λhc=>?_
   ·have hq0:(dv W m).toNat≠0:=by
     have h1:=Qp (by decide:(0:Int)<W) E.1.1;have h2:m≠[]:=by intro e;rw[e]at pl;simp at hc;simp at pl;omega
     have:=mt (KD (by decide:(1:Int)<W) E.1.1 E.1.2).1 h2;omega
    have hd18:(ae ((dv W i.l).toNat%10^18)).length<=18:=by rw[aK];exact Ze (eC _ wj) wj
    refine wA 2 I<|QA (Je I J7)<|QA (Jv I I O) ?_
    rw[show(18:Int)-((ae ((dv W i.l).toNat%10^18)).length:Int)=((18-(ae ((dv W i.l).toNat%10^18)).length:Nat):Int) by omega];refine QL I (λ_ _ f _=>xR f wv O) (λ_=>QMu I<|QA (XU I I (by rw[Lib.repeatL_length];simp only[eI];omega))<|wB 2 I ?_);exact Xw () ⟨rfl,rfl,rfl,rfl,(by show some (tx _)=some (tx _);rw[if_neg hq0];rfl),trivial⟩ QNG w7
   refine QN ?_;have hq0:(dv W m).toNat=0:=by
    have h2:m=[]:=aD (by simp at hc;omega);rw[h2];rfl
   exact Xw () ⟨rfl,rfl,rfl,rfl,(by show some (tx _)=some (tx _);rw[if_pos hq0]),trivial⟩ QNG w6
  intro xg11;refine wA 4 I<|KK I (Jc Kt) Em z_9 I I λb51=>?_
  have hfew:=i.few hn2;refine Z1 (bs1:=[_]) (ob:=i.ob) (k:=1) (sz:=1) (news:=[tx (if(dv W m).toNat=0 then ae ((dv W i.l).toNat%10^18)else VZ 18 (ae ((dv W i.l).toNat%10^18)))]) I I Kt Em z_9 I QK3 i.hr (Src.xM (b:=b51) (T:=9) (fr:=(0,0)) (c:=1) List.mem_cons_self I) O O (λu hu=>by rw[List.mem_singleton.1 hu];rfl) (λv' ob' hr'=>QOm 7 I<|Qf ?_);exact Qh (i.next hne m y v' ob' (if(dv W m).toNat=0 then ae ((dv W i.l).toNat%10^18)else VZ 18 (ae ((dv W i.l).toNat%10^18))) E.1.1 E.1.2 hq rfl hr') (by show(dv W m).toNat<(dv W i.l).toNat;rw[hq];exact Nat.div_lt_self hposi wj) wV (.cons _ QNG) w6
 refine Q7 ?_;have hi0:i.l=[]:=aD (by simp at hc;omega);have hfl:i.ps.reverse.flatten=hd a.natAbs:=by have:=i.inv;rw[hi0]at this;simpa[hd]using this
 have hfew:=i.few hn2;have hflen:i.ps.reverse.flatten.length<=100000000:=by rw[hfl];exact af (yG hn2) hza
 refine QNz<|Qe uU λx=>QE<|QD ?_
 refine Ha (ι:=kP x (if a<0 then[45]else[]:List UInt8) i.ps) (λj=>[(6,i.v),(10,.pointer (some ⟨x,0,none⟩))]) (λj=>j.uX++i.ob) (λj F=>j.k=i.ps.length/\JU F) ?_ ?_
 ·refine wA 5 I ?_;refine QP I (λhc=>?_) λhc=>?_
  ·refine QB ?_;have hneg:a<0:=QOW hc;refine Xv (bs1:=[_]++i.ob) rfl (bQ _) (WI (s:=[45]) (Fm.fresh (b:=x)) wu) (λuX=>J5 _ (λ_ _ f h=>h.2) λL=>QE ?_);exact Xw (⟨i.ps.length,uX,aG _,by rw[if_pos hneg];simpa using L⟩:kP x (if a<0 then[45]else[]:List UInt8) i.ps) wT QNG λF h=>⟨rfl,h.1.1⟩
  refine QN ?_;exact Xw (⟨i.ps.length,[_],aG _,by rw[if_neg (QOX hc)];simpa using(Fm.fresh (b:=x))⟩:kP x (if a<0 then[45]else[]:List UInt8) i.ps) wT QNG λF h=>⟨rfl,h.1⟩
 intro xg16;refine XD _ (λ_ _ f h=>h.1) (λhk16=>?_);have U:∃q c6,i.v = .slice q i.ps.length c6:=by have:=i.hr;generalize i.v=v at this;generalize i.ps.map tx=q at this;generalize i.ps.length=n at this;generalize i.ob=o at this;cases this<;>exact⟨_,_,rfl⟩
 obtain⟨q6,c6,U⟩:=U;rw[U];refine wA 4 I<|QA (Qb I Kt)<|QA (Jv I I O)<|wQ I<|QQ<|Xd (ι:=kP x (if a<0 then[45]else[]:List UInt8) i.ps) (λj=>[(6,.slice q6 i.ps.length c6),(10,.pointer (some ⟨x,0,none⟩)),(11,.int .i64 ((j.k:Int)-1))]) (λj=>j.uX++i.ob) (λ_ F=>JU F) (λj=>j.k) xg16 ⟨rfl,rfl,(by rw[hk16];rfl),trivial⟩ QNG w8 λj=>?_
 have hjl:=j.le;refine wA 7 I ?_;refine QP I (λhc=>?_) λhc=>?_
 ·have hj0:0<j.k:=by simp at hc;omega
  obtain⟨b6,hb6⟩:∃b6,q6=some ⟨b6,0,none⟩:=by
   have:=i.hr;rw[U]at this;generalize i.ps.map tx=q at this;generalize i.ob=o at this;generalize hnn:i.ps.length=n at this;cases this with
   |nil=>omega
   |some=>exact⟨_,rfl⟩
  subst hb6;have hlt:j.k-1<i.ps.length:=O;have hjj:(j.k:Int)-1=((j.k-1:Nat):Int):=O;refine QOn 7 I<|QA (Ql (i:=j.k-1) rfl (congrArg (λz:Int=>some (ah .i64 z)) hjj) Kt Em hlt)<|QA (CF (i:=j.k-1) (u:=tx (i.ps[j.k-1])) (by have:=i.hr;rw[U]at this;exact this) (λk hk=>List.mem_append_right _ hk) rfl rfl Em (by simp[hlt])) ?_
  have X:(i.ps.drop (j.k-1)).reverse.flatten=(i.ps.drop j.k).reverse.flatten++i.ps[j.k-1]:=by
   rw[aC hlt,show j.k-1+1=j.k by omega];simp[bV]
  have hbound:((i.ps.drop (j.k-1)).reverse.flatten).length<=100000000:=by
   have e:i.ps.reverse.flatten=(i.ps.drop (j.k-1)).reverse.flatten++(i.ps.take (j.k-1)).reverse.flatten:=by
    rw[<-bV,<-List.reverse_append,bJ]
   rw[e,aq]at hflen;omega
  rw[X,aq]at hbound;refine Xv I (bQ _) (WI j.bl (by rw[aq];have hp:(if a<0 then[45]else[]:List UInt8).length<=1:=(by split<;>simp);omega)) (λuX=>J5 _ (λ_ _ f h=>h.2) λL=>QE<|Qf<|QOo 3 I<|QA (Jv I I O)<|wB 2 I ?_);exact Qh (⟨j.k-1,uX,O,by rw[X,<-er];exact L⟩:kP x (if a<0 then[45]else[]:List UInt8) i.ps) (by show j.k-1<j.k;omega) ⟨rfl,rfl,(by show some (ah .i64 ((j.k:Int)-1-1))=some (ah .i64 (((j.k-1:Nat):Int)-1));rw[hjj]),trivial⟩ QNG w7
 refine Q7 ?_;refine QG<|QB ?_
 have hj0:j.k=0:=by simp at hc;omega
 have L:=j.bl;rw[hj0,bw,hfl,gh ha0]at L;refine MI (v:=tx (XR a)) K rfl (enters_of func244 wm rfl) (λw' hw'=>Builder_String_any w.heap.size x (XR a) w' (L.is hw') (by obtain⟨F',h'⟩:=hw';exact h'.ext.size))<|wQ I<|QW ?_
 exact QO () I (wN I) rfl wy
def ZK(c:UInt8)(s:List UInt8):List UInt8×List UInt8×Bool:=if s.contains c then(s.takeWhile (· != c),(s.dropWhile (· != c)).drop 1,true)else(s,[],false)
theorem TS(c:UInt8)(s:List UInt8):iT s c=if s.contains c then((s.takeWhile (· != c)).length:Int)else -1:=by
 induction s with
 |nil=>rfl
 |cons b s ih =>
  unfold iT;by_cases h:b=c
  ·simp_all
  have h3:=beq_eq_false_iff_ne.2 (λe=>h e.symm);simp_all
theorem KF(p:UInt8->Bool)(s:List UInt8):s.take (s.takeWhile p).length=s.takeWhile p/\s.drop (s.takeWhile p).length=s.dropWhile p:=by
 induction s with
 |nil=>simp
 |cons b s ih =>
  grind[eT,fT]
theorem yw(c:UInt8)(s:List UInt8):fy s [c]=ZK c s:=by
 have h:Lib.index s [c]=if s.contains c then((s.takeWhile (· != c)).length:Int)else -1:=by
  simp[TS,Lib.index_one]
 unfold fy ZK;rw[h];by_cases h4:s.contains c=true
 ·simp only[h4,if_true];rw[if_pos O,bj,(KF _ s).1];have:=(KF (· != c) s).2;rw[<-List.drop_drop,this];rfl
 simp_all
theorem G8{a b:List UInt8}(h:a.contains c=false):ZK c (a++c::b)=(a,b,true):=by
 have h1:∀x∈a,(x != c)=true:=λx hx=>by
  grind
 unfold ZK;simp_all
theorem ET{a:List UInt8}(h:a.contains c=false):ZK c a=(a,[],false):=by
 grind[ZK]
theorem uB{l:List UInt8}(h:XK l=true)(hc:UI c=false):l.contains c=false:=by
 cases hx:l.contains c with
 |false=>rfl
 |true =>
  grind[XK,fc]
theorem DU(z:Int)(hc:UI c=false)(h:c≠45):(XR z).contains c=false:=by
 grind[Zi,uB,JL,Jd]
def yv(r:Rat):fy (Q5 r) [47]=if r.den=1 then(XR r.num,[],false)else(XR r.num,ae r.den,true):=by
 rw[yw];unfold Q5;split
 ·exact ET (DU _ wj wj)
 exact G8 (DU _ wj wj)
theorem VK(z:Int):ai (XR z) [45]=ae z.natAbs:=by
 unfold ai
 grind[Zi,au,bT,Jd,YN,JL]
theorem YR{l:List UInt8}(h:XK l=true):ai l [45]=l:=by
 grind[ai,YN]
theorem X7{l:List UInt8}(h:XK l=true):YB l=JA l:=by
 grind[YB,YN]
def lim:Nat:=10^600
def TM(u:Nat):(600<(ae u).length)↔lim<=u:=by unfold lim;rw[aK];exact Ie wj
def OG:2^1800<lim:=by
 decide +kernel
def Ey(z:Int):Bool:=decide (lim<=z.natAbs)
def XV(r:Rat):Bool:=Ey r.num||Ey r.den
theorem zo(i:Fits F w)(hG:JU F)(h:Jt F g a)(c:sz a<=100000000):QX prog 163 [g.v] w F (.bool (Ey a)):=by
 refine QU.go (G:=λF=>JU F/\Jt F g a) func163 i ⟨hG,h⟩ ?_;refine QNz<|Qv I (vs:=[_,_]) I λb1=>QOm 5 I<|QA (wH I Qj .here)<|QL I (λ_ _ f k=>QCG f k.2 (af c wj)) λ_=>wB 2 I ?_
 refine QY (t:=6) rfl (λd=>?_) λd=>?_
 ·refine QJ I I<|QA (wH I Qj .here)<|QJ I I<|QL I (λ_ _ f k=>DH f k.1.1 k.1.2 c) λ_=>QJ I I<|QL I (λ_ _ f k=>B7 f ) λ_=>QJ I I<|QA (Je I J7)<|QOm 7 I ?_
  exact QO () I (wN I) (congrArg aj (by rw[VK];exact decide_eq_decide.2 (Iff.trans (b:=600<(ae a.natAbs).length) (TM a.natAbs).symm (by constructor<;>intro h<;>omega)))) wy
 refine QOm 10 I ?_;exact QO () I (wN I) (congrArg aj (by have h1:=QOX d;have h2:sz a<=1800:=O;have h3:=(J3 a 1800).1 h2;exact decide_eq_false (Nat.not_le.2 (Nat.lt_trans h3 OG)))) wy
theorem SH{x:Fr}{r:Rat}(b:Fits F w)(hG:JU F)(h:Ja F x r)(hz:J6 r<=100000000):QX prog 86 [x.v] w F (.bool (XV r)):=by
 refine QU.go (G:=λF=>JU F/\Ja F x r) func86 b ⟨hG,h⟩ ?_;refine QNz<|Qv I (vs:=[_,_,_,_]) I λb1=>QOm 5 I<|QA (QH I KC Qj)<|QA (wH I Qj .here)<|QL I (λ_ _ f k=>zo (g:=x.n) f k.1 k.2.1 (af (Ji r) hz)) λ_=>QMu I ?_
 refine QY (t:=6) rfl (λa=>?_) λa=>?_
 ·refine QOm 8 I ?_;exact QO () I (wN I) (congrArg aj (by unfold XV;rw[a,Bool.true_or])) wy
 refine QJ I I<|QA (QH I KB Qj)<|QJ I I<|QA (QR (vs:=[_,_]) I Qj .here (.skip (.skip .h2)) I)<|QJ I I<|QL I (λ_ _ f k=>zo (g:=x.d) f k.1.1 k.1.2.2 (af (Jb r) hz)) λ_=>QOm 5 I ?_
 exact QO () I (wN I) (congrArg aj (by unfold XV;rw[a,Bool.false_or])) wy
def U7(h:sz z<=k):(XR z).length<=k+2:=by
 have h2:=H6 z;have h1:(ae z.natAbs).length<=k+1:=by
  rw[aK];exact Ze (aR h2 (af (aF wj (show sz z<=k+1 by omega)) (eV wj _))) O
 by_cases hz:z<0
 ·rw[Zi hz,aA];omega
 rw[Jd O];omega
def U6(n:Nat):XR (n:Int)=ae n:=by rw[Jd O];rfl
theorem TW{x:Fr}{r:Rat}(c:Fits F w)(hG:JU F)(h:Ja F x r)(hz:J6 r<=100000000):QX prog 164 [x.v] w F (tx (Q5 r)):=by
 have b:=U7 (af (Ji r) hz);have a:=U7 (af (Jb r) hz);refine QU.go (G:=λF=>JU F/\Ja F x r) func164 c ⟨hG,h⟩ ?_;refine QNz<|Qv I (vs:=[_,_,_,_]) I λb1=>QOm 6 I<|QA (wJ I Qm .here)<|QL I (λ_ _ f k=>EJ (x:=x) (r:=r) f ⟨k.2.1,k.2.2⟩) λ_=>QE<|QD ?_
 refine QP I (λhc=>?_) λhc=>?_
 ·refine QNz<|QA (QH I KC Qj)<|QA (wH I Qj .here)<|QL I (λ_ _ f k=>DH (g:=x.n) f k.1.1 k.1.2.1 (af (Ji r) hz)) λ_=>wQ I<|QW ?_
  exact QO () I (wN I) (congrArg tx (by unfold Q5;rw[if_pos (by simp at hc;omega)])) wy
 refine QOn 3 I<|JO QNG mixed wi<|QK (QH I KC Qj)<|QK (wH I Qj .here)<|QZ I (λ_ _ f k=>DH (g:=x.n) f k.1.1 k.1.2.1 (af (Ji r) hz)) λ_=>QK (XU I I wv)<|QK (QH I KB Qj)<|QK (QR (vs:=[_,_]) I Qj .here (.skip (.skip .h2)) I)<|QZ I (λ_ _ f k=>DH (g:=x.d) f k.1.1.1 k.1.1.2.2 (af (Jb r) hz)) λ_=>QK (XU I I wv)<|QK (QF I)<|Qw<|QD<|QW ?_
 exact QO () I (wN I) (congrArg tx (by unfold Q5;rw[if_neg (by simp at hc;omega),U6];simp)) wy
theorem MS{r:Rat}(j:Fits F w)(hG:JU F)(o:s=Q5 r)(x:s.length<=10000000):ZE prog 70 [tx s] w F r:=by
 have g:=yv r;rw[<-o]at g;refine QU.go (G:=λF=>JU F) func70 j hG ?_;refine QNz<|Qe Yu λb2=>QOm 5 I<|QL I (λ_ _ f k=>QAK f k O) λ_=>?_
 rw[g];refine QOm 13 I<|QA (Jw I)<|QE<|QD ?_
 refine QP I (λhc=>?_) λhc=>?_
 ·refine wR I<|QL I (λ_ _ f k=>N5 f (by have h1:r.den=1:=(by by_cases h:r.den=1;exact h;rw[if_neg h]at hc;cases hc);rw[if_pos h1,VK];exact JL _) (by have h1:r.den=1:=(by by_cases h:r.den=1;exact h;rw[if_neg h]at hc;cases hc);rw[if_pos h1];have e:s=XR r.num:=(by rw[o];unfold Q5;rw[if_pos h1]);rw[<-e];exact x)) λK=>QL I (λ_ _ f k=>Si f k.2) λE=>QV (vs:=[_,_,_,_]) I I I Qm I .here .h4 wV<|QMt<|QW ?_
  exact QO (_) rfl (.Jo (c:=[_,_,_,_]) I Qm .here .nil) rfl λF ⟨⟨⟨i,_⟩,H⟩,⟨d,a⟩⟩=>(by have h1:r.den=1:=(by by_cases h:r.den=1;exact h;rw[if_neg h]at hc;cases hc);have e:((r.num:Int):Rat)=r:=(by apply Rat.ext;rfl;simp[h1]);rw[if_pos h1]at d a;rw[ZN]at d a;rw[e]at d a;exact⟨d,a⟩)
 refine QN<|QD<|wR rfl<|QL rfl (λw F j ⟨i,_⟩=>N5 j (by have h1:¬r.den=1:=(by intro h;rw[if_pos h]at hc;cases hc);rw[if_neg h1,VK];exact JL _) (by have h1:¬r.den=1:=(by intro h;rw[if_pos h]at hc;cases hc);rw[if_neg h1];have e:s=XR r.num++47::ae r.den:=(by rw[o];unfold Q5;rw[if_neg h1]);rw[e,aq]at x;show(XR r.num).length<=_;omega)) λz=>QMu rfl<|QL rfl (λw F j ⟨⟨i,_⟩,b⟩=>N5 j (by have h1:¬r.den=1:=(by intro h;rw[if_pos h]at hc;cases hc);rw[if_neg h1];show XK (ai (ae r.den) [45])=true;rw[YR (JL _)];exact JL _) (by have h1:¬r.den=1:=(by intro h;rw[if_pos h]at hc;cases hc);rw[if_neg h1];have e:s=XR r.num++47::ae r.den:=(by rw[o];unfold Q5;rw[if_neg h1]);rw[e,aq,aA]at x;show(ae r.den).length<=_;omega)) λy=>QA (XM I L6 Yu (.cons (vs:=[_,_]) I I I .h2 (.cons (vs:=[_,_]) I I I (.skip (.skip .h2)) .nil)))<|QV (vs:=[_,_,_,_]) I I I Qm I .here .h4 wV<|QMt<|QW ?_
 exact QO (⟨z,y⟩:Fr) rfl (.Jo (c:=[_,_,_,_]) rfl Qm .here .nil) rfl λF ⟨⟨⟨i,_⟩,b⟩,m⟩=>(by have h1:¬r.den=1:=(by intro h;rw[if_pos h]at hc;cases hc);rw[if_neg h1]at b m;rw[ZN]at b;have e:YB (ae r.den)=(r.den:Int):=(by rw[X7 (JL _),Jh]);exact⟨b,e ▸ m⟩)
def Qz(F:Gs)(q:Option Addr)(n sz:Nat)(cs:List Value):Prop :=
 cs.length=n*sz/\(0<n->∃b off arr T,q=some ⟨b,off,none⟩/\F b=some (arr,T)/\∀j u,cs[j]?=some u->arr[off+j]?=some u)
theorem Qz.le{q:Option Addr}{sz:Nat}(h:Qz F q n sz cs)(k:Gs.le F F'):Qz F' q n sz cs :=
 ⟨h.1,λc=>by obtain⟨b,off,a,T,f,d,e3⟩:=h.2 c;exact⟨b,off,a,T,f,k _ _ d,e3⟩⟩
instance{q:Option Addr}{n sz:Nat}{cs:List Value}: Up (λF=>Qz F q n sz cs):=⟨λk h=>Qz.le h k⟩
theorem Qz.of{sz:Nat}{T:TypeId}(h:F b=some (cs.toArray,T))(a:cs.length=n*sz):Qz F (some ⟨b,0,none⟩) n sz cs :=
 ⟨a,λ_=>⟨b,0,_,T,rfl,h,λj u hu=>by simp_all⟩⟩
def Qz.nil(F:Gs)(q:Option Addr)(sz:Nat):Qz F q 0 sz []:=⟨wu,λh=>absurd h (Nat.lt_irrefl 0)⟩
theorem Qz.ptr{q:Option Addr}{sz:Nat}(h:Qz F q n sz cs)(a:0<n):∃b off,q=some ⟨b,off,none⟩:=by
 obtain⟨b,off,_,_,e,_⟩:=h.2 a;simp_all
section
variable[Dr][df:Df]{P:Program}{Q:Exit->Act->World->Prop}{N:Nat}{m:Sl}{E E0:Env}{ops:Array Oper}{l:List Oper}{w0:World}{F0:Gs}{bs:List (Nat×Obj)}{G:Gs->Prop}
theorem K8(a:St ⟨w0,F0,bs,G⟩ w){b off n sz j:Nat}{cs:List Value}{u:Value}(hr:∀F,G F->Qz F (some ⟨b,off,none⟩) n sz cs)(d:0<n)(hu:cs[j]?=some u):w.cell? ⟨b,off+j,none⟩=some u:=by
 obtain⟨F,a⟩:=a;obtain⟨b',c,g,T,e,f,ha⟩:=(hr F a.hG).2 d;obtain⟨rfl,rfl,_⟩:=e;obtain⟨fr,e⟩:=a.fits.row _ _ _ f;simp[World.cell?,e,ha j u hu]
theorem XQ{T:TypeId}{sz:Nat}{u:Value}(hx:ev m x=some (.pointer (some ⟨b,off+j,none⟩)))(ht:Zm P T=some (false,k))(hr:∀F,G F->Qz F (some ⟨b,off,none⟩) n sz cs)(f:0<n)(hu:cs[j]?=some u):
  Qt P N m (St ⟨w0,F0,bs,G⟩) (.load T x) ty u:=λa w _ _ _ _ ha d=>by
 have c:=Zc ht (K8 d hr f hu);simp[execOp,ha.ev hx,eX,eN,eE,eD,bF,c]
theorem CG{T:TypeId}{sz:Nat}{vs:List Value}(hx:ev m x=some (.pointer (some ⟨b,off+j,none⟩)))(ht:Zm P T=some (true,k))(hr:∀F,G F->Qz F (some ⟨b,off,none⟩) n sz cs)(f:0<n)(g:vs.length=k)(hu:∀i v,vs[i]?=some v->cs[j+i]?=some v):
  Qt P N m (St ⟨w0,F0,bs,G⟩) (.load T x) ty (.agg vs.toArray):=λa w _ _ _ _ ha d=>by
 have c:=YH ht g (λi v hv=>by rw[ey];exact K8 d hr f (hu i v hv));simp[execOp,ha.ev hx,eX,eN,eE,eD,bF,c]
theorem JK{c:List _}{t e:TypeId}{sz:Nat}{z:List Value}{g:Bool}{parts:Array _}{ps:List _}(hp:WK m parts.toList=some ps)(ht:P.underlying t=some (.slice e))(o:Zm P e=some (g,sz))(hz:Ju P e=some z)
  (hc:Yn sz 0 ps=some cs) (y:cs.length=n*sz) (k:∀b,JD P ops Q ⟨w0,F0,c,G0⟩ l N ((d,.slice (some ⟨b,0,none⟩) n n)::m) ⟨w0,F0,bs,λF=>G F/\F b=some (cs.toArray,e)⟩) (E:∀w,St ⟨w0,F0,bs,G⟩ w->St ⟨w0,F0,c,G0⟩ w) (f:iX (n*sz) 16777216=true:=by rfl) (x:Nat.beq (n*sz) 0=false:=by rfl)
  (hd:Jx N (some d)=true:=by rfl):JD P ops Q ⟨w0,F0,c,G0⟩ (⟨some d,.buildSlice t n parts,ty,pos,aft,none⟩::l) N m ⟨w0,F0,bs,G⟩:=λ_ a w ha j=>by
 have i:=j.kI cs.toArray e;have sub:∀w' b,St ⟨w0,F0,bs,λF=>G F/\F b=some (cs.toArray,e)⟩ w'->St ⟨w0,F0,c,G0⟩ w':=λw' b h=>E w' (h.GW λ_ h=>h.1);refine .inr ⟨rfl,?_⟩;exact upon_value (Y7 ha hp ht o hz hc y f x) ⟨sub _ _ i,k _ (λw' h=>sub w' _ h) _ _ (ha.put hd _) i⟩
end
section
variable[Dr][df:Df]{P:Program}{Q:Exit->Act->World->Prop}{N:Nat}{m:Sl}{E E0:Env}{ops:Array Oper}{l:List Oper}{ty:TypeId}{pos:String}{aft:Array Edge}{o:Op}{g t:Nat}{want:Bool}
theorem P6{a:Act}(ha:JH N m a){g t:Nat}(hg:(ops[g]?).bind (·.dst)=some t)(hb:look m t=some undef):yielded ops a.tmps g=none:=by
 unfold yielded;have:=ha.get t _ hb
 grind[undef]
theorem JM(hg:(ops[g]?).bind (·.dst)=some t)(hb:look m t=some undef)(c:JS P ops Q l N ((d,undef)::m) E)(hd:Jx N (some d)=true:=by rfl):JS P ops Q (⟨some d,o,ty,pos,aft,some (g,want)⟩::l) N m E:=by
 intro a w ha b;unfold wpList;have hy:=P6 ha hg hb;rw[if_neg (by grind[iH])];exact c _ w (ha.put hd undef) b
end
def Qn:List Int->Int
 |[]=>0
 |x::l=>if x=0 then Qn l else x
def WC(hi:i<l.length)(h:l[i]=0):Qn (l.drop i)=Qn (l.drop (i+1)):=by
 rw[aC hi,Qn,if_pos h]
def Bm(hi:i<l.length)(h:l[i]≠0):Qn (l.drop i)=l[i]:=by
 rw[aC hi,Qn,if_neg h]
def JJ(x:Int):Value:=.int .i64 x
structure Mb(n:Nat)(p:Nat->Prop) where
 i:Nat
 le:i<=n
 h:p i
theorem Np{b:Bool}{e:Int}(a:Fits F w):QX prog 94 [.bool b,.int .i64 e] w F (.int .i64 (if b=true then e else 0)):=by
 refine QU.intro (G:=λ_=>True) func94 rfl wm rfl rfl a wy<|QNz<|wQ rfl<|QG<|wR rfl<|QE<|QD ?_
 refine QP I (λhc=>?_) λhc=>?_
 ·refine wA 7 I ?_;exact QO () I (wN I) (by rw[if_pos hc]) wy
 refine QOn 8 I ?_;exact QO () I (wN I) (by rw[if_neg (by rw[hc];decide)]) wy
theorem OR{q:Option Addr}{c:Nat}(k:Fits F w)(b:Qz F q n 1 (l.map JJ))(x:n<=1000000000):QX prog 210 [.slice q n c] w F (.int .i64 (Qn l)):=by
 have g:l.length=n:=by have:=b.1;simpa using this
 refine QU.go (G:=λF=>Qz F q n 1 (l.map JJ)) func210 k b ?_;refine wA 9 I<|QA (Qb I Yv)<|QOm 4 I<|Xd (ι:=Mb n λi=>Qn (l.drop i)=Qn l) (λi=>[(5,.slice q n c),(6,.int .i64 n),(7,.int .i64 i.i)]) (λ_=>[]) (λ_ F=>Qz F q n 1 (l.map JJ)) (λi=>n-i.i) ⟨0,aX _,rfl⟩ wU QNG w6 λi=>?_
 have j:=i.le;refine wA 6 I ?_;refine QP I (λhc=>?_) λhc=>?_
 ·have hi:i.i<n:=by simp at hc;omega
  have a:i.i<l.length:=O;refine XD _ (λ_ _ f h=>h.ptr O) (λd=>?_);obtain⟨o,m,rfl⟩:=d;refine QOn 6 I<|QA (Ql I I Yv WR hi)<|QA (XQ I WR w6 O (u:=.int .i64 l[i.i]) (by simp[a,JJ]))<|QOm 9 I ?_
  refine QP I (λhc=>?_) λhc=>?_
  ·refine wA 6 I<|X4 ?_
   exact QO () I (wN I) (congrArg (ah .i64) (i.h.symm.trans (Bm a (by simpa using hc)))) wy
  refine QN<|Qf<|QD<|QB<|QA (Qk I I O)<|wB 2 I ?_
  exact Qh (⟨i.i+1,O,by rw[<-WC a (by simpa using hc)];exact i.h⟩:Mb n λi=>Qn (l.drop i)=Qn l) (by show n-(i.i+1)<n-i.i;omega) wU QNG w6
 refine Q7 ?_;refine wA 6 I ?_;exact QO () I (wN I) (by rw[<-i.h,fH (by simp at hc;omega)];rfl) wy
def ju(hi:i<s.length)(h:XK (s.take i)=true)(hd:UI s[i]=true):XK (s.take (i+1))=true:=by
 rw[aB hi,KY,h];simp[XK,hd]
def Mp(hi:i<s.length)(hd:UI s[i]=false):XK s=false:=by
 cases h:XK s with
 |false=>rfl
 |true=>rw[XK,fc]at h;rw[h _ (fb hi)]at hd;cases hd
def E6(s:List UInt8):Bool:=XK s&&!s.isEmpty
theorem yr(c:Fits F w)(d:s.length<=1000000000):QX prog 266 [tx s] w F (.bool (E6 s)):=by
 refine QU.intro (G:=λ_=>True) func266 rfl wm rfl rfl c wy<|QNz<|wQ rfl<|QG<|wR rfl<|QA (Je rfl J7)<|QMu rfl<|QMt<|QQ<|Xd (ι:=Mb s.length λi=>XK (s.take i)=true) (λi=>[(0,tx s),(5,.int .i64 s.length),(6,.int .i64 i.i)]) (λ_=>[]) (λ_ _=>True) (λi=>s.length-i.i) ⟨0,aX _,rfl⟩ wU QNG w6 λi=>?_
 have b:=i.le;refine wA 6 I ?_;refine QP I (λhc=>?_) λhc=>?_
 ·have hi:i.i<s.length:=by simp at hc;omega
  refine QOn 14 I<|QA (Yj I I J7 (hi))<|wB 2 I ?_
  refine QY (t:=13) rfl (λa=>?_) λa=>?_
  ·refine QOm 7 I ?_;refine QP I (λhc=>?_) λhc=>?_
   ·refine wA 5 I<|X4 ?_
    exact QO () I (wN I) (congrArg aj (by unfold E6;rw[Mp hi (by have h1:=QOW a;cases hd:UI s[i.i]with | false=>rfl | true=>(have:=Zz.1 hd;omega))];rfl)) wy
   refine QN<|Qf<|QD<|QB<|QA (Qk I I O)<|wB 2 I ?_
   cases hc
  refine wB 5 I<|QA (Yj I I J7 (hi))<|QOm 5 I ?_
  refine QP I (λhc=>?_) λhc=>?_
  ·refine wA 5 I<|X4 ?_
   exact QO () I (wN I) (congrArg aj (by unfold E6;rw[Mp hi (by have h1:=QOW hc;cases hd:UI s[i.i]with | false=>rfl | true=>(have:=Zz.1 hd;omega))];rfl)) wy
  refine QN<|Qf<|QD<|QB<|QA (Qk I I O)<|wB 2 I ?_
  exact Qh (⟨i.i+1,O,ju hi i.h (Zz.2 (by have h1:=QOX a;have h2:=QOX hc;constructor<;>omega))⟩:Mb s.length λi=>XK (s.take i)=true) (by show s.length-(i.i+1)<s.length-i.i;omega) wU QNG w6
 refine Q7 ?_;refine wR I<|QA (xf I I)<|wQ I<|QW ?_
 exact QO () I (wN I) (congrArg aj (by have h1:=i.h;rw[ak (by simp at hc;omega)]at h1;unfold E6;rw[h1];cases s<;>rfl)) wy
theorem head_ne(h:0<s.length):((s[0].toNat:Int) != 48)=!(s.head?==some 48):=by
 cases s with
 |nil=>simp at h
 |cons c s =>
  simp only[fG,List.head?_cons];by_cases e:c=48
  ·subst e;rfl
  have b:c.toNat≠48:=λh=>e (ep (by rw[h];rfl));have a:((c.toNat:Int) != 48)=true:=by simp only[bne_iff_ne,ne_eq];omega
  have e3:(some c==some 48)=false:=by simp[e]
  rw[a,e3];rfl
def Av(h:E6 s=true):0<s.length:=by
 cases s with
 |nil=>cases h
 |cons=>simp
theorem PX(d:Fits F w)(c:s.length<=1000000000):QX prog 226 [tx s] w F (.bool (J1 s)):=by
 refine QU.intro (G:=λ_=>True) func226 rfl wm rfl rfl d wy<|QNz<|wQ rfl<|wR rfl<|QL rfl (λ_ _ f _=>yr f c) λ_=>QMu rfl ?_
 refine QY (t:=5) rfl (λa=>?_) λa=>?_
 ·refine wB 3 I<|QA (Yw I I)<|wB 2 I ?_
  refine QY (t:=8) rfl (λb=>?_) λb=>?_
  ·refine QOm 10 I ?_;exact QO () I (wN I) (congrArg aj (by have h:=a;unfold E6 at h;unfold J1;rw[h,b];rfl)) wy
  refine wB 3 I<|QA (Yj (i:=0) rfl rfl J7 (Av a))<|QOm 9 I ?_
  exact QO () I (wN I) (congrArg aj (by have h:=a;unfold E6 at h;unfold J1;rw[h,b,head_ne (Av a)];rfl)) wy
 refine wB 3 I<|JM I I<|JM I I<|JM I I<|QOm 6 I ?_
 exact QO () I (wN I) (congrArg aj (by have h:=a;unfold E6 at h;unfold J1;rw[h];rfl)) wy
def FG(size d:List UInt8)(neg fr:Bool):Bool:=!J1 size||(neg&&size==[48])||(fr&&(!J1 d||d==[48]||d==[49]))
def WQ(n d:List UInt8)(fr:Bool):Int :=
 if FG (ai n [45]) d (au n [45]) fr=true then 1
 else if(decide (600<(ai n [45]).length)||decide (600<d.length))=true then 4
 else if(fr&&!(fM (JA (ai n [45])) (JA d)==1))=true then 1 else 0
def JW(s:List UInt8):Int:=WQ (ZK 47 s).1 (ZK 47 s).2.1 (ZK 47 s).2.2
theorem yx(c:UInt8)(s:List UInt8):(ZK c s).1.length<=s.length/\(ZK c s).2.1.length<=s.length:=by
 have h:=KF (· != c) s;have h1:=congrArg eO h.1;have h2:=congrArg eO h.2;simp at h1 h2;unfold ZK;split
 ·refine⟨?_,?_⟩
  ·show(s.takeWhile (· != c)).length<=_;exact(fF _).length_le
  show((s.dropWhile (· != c)).drop 1).length<=_;rw[ix];have:=(List.dropWhile_sublist (l:=s) (· != c)).length_le;omega
 exact⟨aG _,wu⟩
def Y5(h:J1 s=true):XK s=true:=by
 simp only[J1,aw]at h;exact h.1.1
def Ns(s p:List UInt8):(ai s p).length<=s.length:=by unfold ai;split<;>simp
theorem OY(hF:Fits F w)(hG:JU F)(hl:s.length<=1000000):QX prog 167 [tx s] w F (.int .i64 (JW s)):=by
 have H:=yx 47 s;unfold JW;refine QU.go (G:=λF=>JU F) func167 hF hG ?_;refine wA 8 I<|QL I (λ_ _ f k=>QAK f k O) λ_=>?_
 rw[yw];generalize ZK 47 s=cp at H ⊢;obtain⟨n,d,fr⟩:=cp;dsimp only at H ⊢;have htl:=Ns n [45];refine QOm 12 I<|QL I (λ_ _ f k=>Ay f ) λ_=>QOm 8 I ?_
 refine By 46 (.bool (FG (ai n [45]) d (au n [45]) fr)) ?_ ?_
 ·refine wA 2 I<|QL I (λ_ _ f k=>PX f O) λ_=>QA (Jw I)<|QMu I ?_
  refine QY (t:=24) rfl (λY=>?_) λY=>?_
  ·refine wB 2 I<|JM I I<|JM I I<|wB 5 I<|JM I I<|JM I I<|JM I I<|JM I I<|JM I I<|JM I I<|JM I I<|JM I I<|JM I I<|JM I I<|JM I I<|wB 3 I ?_
   exact Xn (exd 27 rfl rfl) (congrArg (λb=>some (aj b)) (by rw[ao];simp_all [FG])) QNG w7
  refine wB 4 I ?_;refine QY (t:=26) rfl (λX=>?_) λX=>?_
  ·refine wB 3 I<|QA (Yw I I)<|wB 4 I ?_
   refine QY (t:=31) rfl (λU=>?_) λU=>?_
   ·refine wB 2 I<|JM I I<|JM I I<|JM I I<|JM I I<|JM I I<|JM I I<|JM I I<|JM I I<|JM I I<|JM I I<|JM I I<|wB 3 I ?_
    exact Xn (exd 29 rfl rfl) (congrArg (λb=>some (aj b)) (by rw[ao];simp_all [FG])) QNG w7
   refine wB 4 I ?_;refine QY (t:=33) rfl (λy=>?_) λy=>?_
   ·refine wB 3 I<|QL I (λ_ _ f k=>PX f O) λ_=>QJ I I<|QA (Jw I)<|wB 2 I ?_
    refine QY (t:=37) rfl (λx=>?_) λx=>?_
    ·refine wB 14 I ?_;exact Xn (exd 31 rfl rfl) (congrArg (λb=>some (aj b)) (by rw[ao];simp_all [FG])) QNG λ_ h=>h.1.1
    refine wB 3 I<|QA (Yw I I)<|wB 4 I ?_
    refine QY (t:=41) rfl (λo=>?_) λo=>?_
    ·refine wB 8 I ?_;exact Xn (exd 32 rfl rfl) (congrArg (λb=>some (aj b)) (by rw[ao];simp_all [FG])) QNG λ_ h=>h.1.1
    refine wB 3 I<|QA (Yw I I)<|wB 6 I ?_
    exact Xn (exd 32 rfl rfl) (congrArg (λb=>some (aj b)) (by rw[ao];simp_all [FG])) QNG λ_ h=>h.1.1
   refine wB 4 I<|JM I I<|JM I I<|wB 2 I<|JM I I<|JM I I<|wB 5 I ?_
   exact Xn (exd 30 rfl rfl) (congrArg (λb=>some (aj b)) (by rw[ao];simp_all [FG])) QNG w7
  refine wB 10 I ?_;refine QY (t:=33) rfl (λy=>?_) λy=>?_
  ·refine wB 3 I<|QL I (λ_ _ f k=>PX f O) λ_=>QJ I I<|QA (Jw I)<|wB 2 I ?_
   refine QY (t:=37) rfl (λx=>?_) λx=>?_
   ·refine wB 14 I ?_;exact Xn (exd 30 rfl rfl) (congrArg (λb=>some (aj b)) (by rw[ao];simp_all [FG])) QNG λ_ h=>h.1.1
   refine wB 3 I<|QA (Yw I I)<|wB 4 I ?_
   refine QY (t:=41) rfl (λo=>?_) λo=>?_
   ·refine wB 8 I ?_;exact Xn (exd 31 rfl rfl) (congrArg (λb=>some (aj b)) (by rw[ao];simp_all [FG])) QNG λ_ h=>h.1.1
   refine wB 3 I<|QA (Yw I I)<|wB 6 I ?_
   exact Xn (exd 31 rfl rfl) (congrArg (λb=>some (aj b)) (by rw[ao];simp_all [FG])) QNG λ_ h=>h.1.1
  refine wB 4 I<|JM I I<|JM I I<|wB 2 I<|JM I I<|JM I I<|wB 5 I ?_
  exact Xn (exd 29 rfl rfl) (congrArg (λb=>some (aj b)) (by rw[ao];simp_all [FG])) QNG w7
 refine QP I (λa=>?_) λa=>?_
 ·refine wA 6 I ?_;exact QO () I (wN I) (congrArg (ah .i64) (by unfold WQ;rw[if_pos a])) wy
 refine QOn 3 I ?_;refine By 54 (.bool (decide (600<(ai n [45]).length)||decide (600<d.length))) ?_ ?_
 ·refine wA 2 I<|QA (Je I J7)<|wB 2 I ?_
  refine QY (t:=50) rfl (λL=>?_) λL=>?_
  ·refine wB 5 I ?_;exact Xn (exd 9 rfl rfl) (congrArg (λb=>some (aj b)) (by simp at *;first | omega | (rw[ao];simp;omega))) QNG w6
  refine wB 3 I<|QA (Je I J7)<|wB 4 I ?_
  exact Xn (exd 9 rfl rfl) (congrArg (λb=>some (aj b)) (by simp at *;first | omega | (rw[ao];simp;omega))) QNG w6
 refine QP I (λc=>?_) λc=>?_
 ·refine wA 6 I ?_;exact QO () I (wN I) (congrArg (ah .i64) (by unfold WQ;rw[if_neg (by rw[a];decide),if_pos c])) wy
 refine QOn 8 I ?_;refine QP I (λg=>?_) λg=>?_
 ·have hl54:(ai n [45]).length<=600/\d.length<=600:=by simp at c;omega
  have E:J1 (ai n [45])=true/\J1 d=true:=by
   subst g;simp only[FG,eP,Bool.true_and,ij]at a;exact⟨a.1.1,a.2.1.1⟩
  have i:=Y5 E.1;have j:=Y5 E.2;have hz1:=DA i;have hz2:=DA j;refine wR I<|QL I (λ_ _ f k=>N5 f (by rw[YR i];exact i) O) λg58=>QMu I<|QL I (λ_ _ f k=>N5 f (by rw[YR j];exact j) O) λg60=>QL I (λ_ _ f k=>cZ f k.1.2 k.2 (by rw[X7 i];omega) (by rw[X7 j];omega)) λg61=>QL I (λw F hF ⟨⟨⟨⟨⟨hGl,_⟩,_⟩,h58⟩,h60⟩,h61⟩=>vz hF (by assumption)) λc62=>J5 _ (λ_ _ f h=>h.2) λz=>?_
  rw[X7 i,X7 j,Int.gcd_natCast_natCast]at z;refine QOm 7 I ?_;refine By 70 (.bool (!(fM (JA (ai n [45])) (JA d)==1))) ?_ ?_
  ·refine wA 2 I<|QA (Jw I)<|QMu I ?_
   refine QY (t:=67) rfl (λK=>?_) λK=>?_
   ·refine wB 4 I ?_;exact Xn (exd 7 rfl rfl) (congrArg (λb=>some (aj b)) (by rcases z with ⟨e1,e2,e3⟩ | ⟨e1,e2⟩<;>rw[ao]<;>simp_all<;>omega)) QNG w6
   refine wB 6 I ?_;exact Xn (exd 7 rfl rfl) (congrArg (λb=>some (aj b)) (by rcases z with ⟨e1,e2,e3⟩ | ⟨e1,e2⟩<;>rw[ao]<;>simp_all<;>omega)) QNG w6
  refine QP I (λm=>?_) λm=>?_
  ·refine wA 6 I ?_;exact QO () I (wN I) (congrArg (ah .i64) (by unfold WQ;rw[if_neg (by rw[a];decide),if_neg (by rw[c];decide),if_pos (by rw[g,m];rfl)])) wy
  refine QOn 8 I ?_;exact QO () I (wN I) (congrArg (ah .i64) (by unfold WQ;rw[if_neg (by rw[a];decide),if_neg (by rw[c];decide),if_neg (by rw[g,m];decide)])) wy
 refine QOn 8 I ?_;exact QO () I (wN I) (congrArg (ah .i64) (by unfold WQ;rw[if_neg (by rw[a];decide),if_neg (by rw[c];decide),if_neg (by rw[g];simp)])) wy
def Jr(s:List UInt8):Rat:=if(ZK 47 s).2.2=true then mkRat (YB (ZK 47 s).1) (JA (ZK 47 s).2.1)else((YB (ZK 47 s).1:Int):Rat)
theorem BH(h:c∈s):∃r,s.dropWhile (· != c)=c::r:=by
 induction s with
 |nil=>cases h
 |cons b s ih =>
  simp[fT]
  grind
theorem C8(c:UInt8)(s:List UInt8):((ZK c s).2.2=true->s=(ZK c s).1++c::(ZK c s).2.1)/\((ZK c s).2.2=false->s=(ZK c s).1/\(ZK c s).2.1=[]):=by
 unfold ZK;by_cases h:s.contains c=true
 ·rw[if_pos h];refine⟨λ_=>?_,λe=>(by cases e)⟩;obtain⟨r,hr⟩:=BH (c:=c) (s:=s) (by simp_all)
  grind[List.takeWhile_append_dropWhile]
 simp_all
theorem RY{l:List UInt8}(h:J1 l=true)(h0:l≠[48]):0<JA l:=by
 simp[J1,aw,iJ,beq_iff_eq,iv,fz]at h
 grind[absurd,Dh]
theorem Ox{l:List UInt8}(h:J1 l=true)(h0:l≠[48])(h1:l≠[49]):2<=JA l:=by
 have hp:=RY h h0;have hd:=Di h;rcases aS (JA l) 2 with g | g
 ·have:JA l=1:=O;rw[this]at hd;exact absurd (hd.symm.trans (by rw[ae];rfl)) h1
 omega
theorem ga{n:List UInt8}(h:J1 (ai n [45])=true)(h0:(au n [45]&&ai n [45]==[48])=false):XR (YB n)=n/\(YB n).natAbs=JA (ai n [45]):=by
 unfold YB;by_cases hp:au n [45]=true
 ·have d:n=45::n.drop 1:=by
   cases n with
   |nil=>cases hp
   |cons c r =>
    have b:(45==c)=true:=by grind[au,bT]
    simp_all
  have ht:ai n [45]=n.drop 1:=by unfold ai;grind
  have a:=RY h (by grind)
  grind[Zi,JA,Di]
 have ht:ai n [45]=n:=by simp_all[ai,if_neg]
 grind[Jd,JA,Di]
theorem Ur{l:List UInt8}(h:XK l=true)(a:l.length<=600):JA l<lim:=by
 have h1:=Ku h;have h2:10^l.length<=lim:=by have key:∀k,l.length<=k->10^l.length<=10^k:=λk h=>aF wj h;unfold lim;exact key 600 a
 omega
theorem XW(h:JW s=0):s=Q5 (Jr s)/\XV (Jr s)=false:=by
 unfold JW at h;have hj:=C8 47 s;unfold Jr;generalize ZK 47 s=c at h hj ⊢;obtain⟨n,d,fr⟩:=c;dsimp only at h hj ⊢;unfold WQ at h;split at h
 ·cases h
 rename_i h1;split at h
 ·cases h
 split at h
 ·cases h
 have h1':=eq_false_of_ne_true h1;simp only[FG,eP,ij]at h1';obtain⟨⟨hw,hz⟩,hf⟩:=h1';have hsa:=Y5 hw;have hl:(ai n [45]).length<=600/\d.length<=600:=by simp_all
 obtain⟨hn1,hn2⟩:=ga hw hz;have hlim:=Ur hsa hl.1;cases fr with
 |false =>
  rw[if_neg wj];refine⟨?_,?_⟩
  ·unfold Q5;simp_all
  unfold XV Ey;rw[fj,fk,hn2]
  grind[decide_eq_false,lim,aR,decide,aF]
 |true =>
  rw[if_pos rfl];simp at hf;obtain⟨⟨hwd,hd0⟩,hd1⟩:=hf;have hd2:=Ox hwd (by simp_all) (by simp_all);have hda:=Y5 hwd;have hco:Nat.Coprime (YB n).natAbs (JA d):=by grind
  have hmk:=Rat.mk_eq_mkRat _ _ O hco;rw[<-hmk];refine⟨?_,?_⟩
  ·show s=if JA d=1 then _ else XR _++47::ae _
   rw[if_neg O,hn1,Di hwd];simp_all
  unfold XV Ey;have:=Ur hda hl.2;simp_all
theorem Sm{r:Rat}(h:XV r=false):J6 r<=2400:=by
 unfold XV Ey at h;rw[eP]at h;have h1:=QOX h.1;have h2:=QOX h.2;have e:lim<=2^2400:=by
  decide +kernel
 unfold J6;have a:=(J3 r.num 2400).2 (aR (iF h1) e);have b:=(J3 (r.den:Int) 2400).2 (aR (iF h2) e);omega
def Yx(h:JW s=0):J6 (Jr s)<=2400:=Sm (XW h).2
theorem C3{q:Option Addr}{c f:Nat}{vs:Nat->Value}{es:List Int}{c1 c2:List Value}(m:Fits F w)(hg:∀F F',Gs.le F F'->G0 F->G0 F')(h0:G0 F)(k:Qz F q n 1 cs)(y:es.length=n)(hb:n<=1000000000)
  (hv:∀i,i<n->cs[i*1]?=some (vs i)) (hc:∀i (hi:i<es.length) w F,Fits F w->G0 F->QX prog f (c1++[vs i]++c2) w F (.int .i64 es[i])) :
  QX prog 166 [.slice q n c,.func (.func f) c1.toArray c2.toArray] w F (.int .i64 (Qn es)):=by
 refine QU.intro (G:=λF=>G0 F/\Qz F q n 1 cs) func166 rfl wm rfl rfl m (λF' d=>⟨hg F F' d h0,k.le d⟩)<|QNz<|wQ rfl<|QG<|wR rfl<|QA (Qb rfl D3)<|QMu rfl<|QMt<|QQ<|Xd (ι:=Mb n λi=>Qn (es.drop i)=Qn es) (λi=>[(1,.func (.func f) c1.toArray c2.toArray),(8,.slice q n c),(9,.int .i64 n),(10,.int .i64 i.i)]) (λ_=>[]) (λ_ F=>G0 F/\Qz F q n 1 cs) (λi=>n-i.i) ⟨0,aX _,rfl⟩ wV QNG w6 λi=>?_
 have j:=i.le;refine wA 6 I ?_;refine QP I (λa=>?_) λa=>?_
 ·have hi:i.i<n:=by simp at a;omega
  have b:i.i<es.length:=O;refine XD _ (λ_ _ f h=>h.2.ptr O) (λg=>?_);obtain⟨x,o,rfl⟩:=g;refine QOn 6 I<|QA (Ql I I D3 JQ hi)<|QA (XQ I JQ w8 O (hv i.i hi))<|QOm 7 I<|GQ I I (λw F f h=>hc i.i b w F f h.1) λ_=>QOm 9 I ?_
  refine QP I (λa=>?_) λa=>?_
  ·refine wA 6 I<|X4 ?_
   exact QO () I (wN I) (congrArg (ah .i64) (i.h.symm.trans (Bm b (by simpa using a)))) wy
  refine QN<|Qf<|QD<|QB<|QA (Qk I I O)<|wB 2 I ?_
  exact Qh (⟨i.i+1,O,by rw[<-WC b (by simpa using a)];exact i.h⟩:Mb n λi=>Qn (es.drop i)=Qn es) (by show n-(i.i+1)<n-i.i;omega) wV QNG w7
 refine Q7 ?_;refine wA 6 I ?_;exact QO () I (wN I) (by rw[<-i.h,fH (by simp at a;omega)];rfl) wy
theorem kC{q:Option Addr}{c:Nat}{l:List (List UInt8)}(b:Fits F w)(hG:JU F)(d:Qz F q n 1 (l.map tx))(j:n<=1000000/\∀s∈l,s.length<=1000000):QX prog 93 [.slice q n c] w F (.int .i64 (Qn (l.map JW))):=by
 have f:l.length=n:=by have:=d.1;simpa using this
 refine QU.go (G:=λF=>JU F/\Qz F q n 1 (l.map tx)) func93 b ⟨hG,d⟩ ?_;refine wA 8 I ?_;refine QL I (λw F b ⟨g,d⟩=>C3 (c1:=[]) (c2:=[]) (vs:=λi=>tx (l.getD i [])) (es:=l.map JW) (G0:=JU) b (λ_ _ h k=>k.le h) g d (by simpa using f) O (λi hi=>by
  have:i<l.length:=O;simp[this]) (λi hi w F b hG=>by
  have a:i<l.length:=by simpa using hi
  have e:l.getD i []=l[i]:=by simp[a]
  have:=OY b hG (j.2 l[i] (fb a));rw[List.getElem_map];show QX _ _ [tx (l.getD i [])] _ _ _;rw[e];exact this)) λm=>?_
 refine wQ I<|QW ?_
 exact QO () I (wN I) rfl wy
def Bl{b:Int}(h:Qn [a,b]=0):a=0/\b=0:=by
 simp only[Qn]at h;by_cases h1:a=0
 ·rw[if_pos h1]at h;by_cases h2:b=0
  ·exact⟨h1,h2⟩
  rw[if_neg h2]at h;exact absurd h h2
 rw[if_neg h1]at h;exact absurd h h1
def XF(lo hi:List UInt8):Int:=if Qn [JW lo,JW hi]=0 then(if Ky (Jr lo) (Jr hi)>0 then 11 else 0)else Qn [JW lo,JW hi]
def B3{lo hi:List UInt8}(h:XF lo hi=0):JW lo=0/\JW hi=0/\¬Ky (Jr lo) (Jr hi)>0:=by
 unfold XF at h;split at h
 ·rename_i h0;have:=Bl h0;refine⟨this.1,this.2,?_⟩;split at h
  ·cases h
  assumption
 rename_i h0;exact absurd h h0
theorem HK{lo hi:List UInt8}(c:Fits F w)(hG:JU F)(g:lo.length<=1000000/\hi.length<=1000000):QX prog 37 [.agg #[tx lo,tx hi]] w F (.int .i64 (XF lo hi)):=by
 refine QU.go (G:=λF=>JU F) func37 c hG ?_;refine QNz<|Qv I (vs:=[_,_]) I λb1=>QOm 6 I<|QA (QH I Vu JQ)<|QA (Qa I JQ .here .h1)<|QA (QH I WM JQ)<|QA (Qa I JQ .here (.skip .h1))<|JC I (Jc D3) JQ QEn I I λo=>QL I (λw F c ⟨b,a⟩=>kC (l:=[lo,hi]) c b (Qz.of (cs:=List.map tx [lo,hi]) a rfl) ⟨wj,λs d=>by simp at d;rcases d with rfl | rfl;exact g.1;exact g.2⟩) λ_=>QOm 9 I ?_
 refine QP I (λhc=>?_) λhc=>?_
 ·refine wA 7 I ?_;exact QO () I (wN I) (by unfold XF;rw[if_neg (by simpa using hc)];rfl) wy
 have h0:Qn [JW lo,JW hi]=0:=by simpa using hc
 have h1:=Bl h0;have m:=Yx h1.1;have j:=Yx h1.2;refine QOn 3 I<|JO QNG mixed wi<|QK (QH I Vu JQ)<|QK (Qa I JQ .here .h1)<|QZ I (λ_ _ f k=>MS f k.1.1 (XW h1.1).1 O) λi=>QK (QH I WM JQ)<|QK (Qa I JQ .here (.skip .h1))<|QZ I (λ_ _ f k=>MS f k.1.1.1 (XW h1.2).1 O) λh=>QZ I (λ_ _ f k=>Al (r:=Jr lo) (s:=Jr hi) f ⟨k.1.2.1,k.1.2.2⟩ ⟨k.2.1,k.2.2⟩ O O) λ_=>QK (QM I I I)<|QZ I (λ_ _ f k=>Np f ) λ_=>QK (QF I)<|Qw<|QD<|QW ?_
 exact QO () I (wN I) (congrArg (ah .i64) (by unfold XF;rw[if_pos h0];simp)) wy
structure Sp where
 lo:Fr
 hi:Fr
@[reducible] def Sp.v (x:Sp):Value:=.agg #[.int .i64 x.lo.n.s,.slice x.lo.n.q x.lo.n.n x.lo.n.cap,.int .i64 x.lo.d.s,.slice x.lo.d.q x.lo.d.n x.lo.d.cap,.int .i64 x.hi.n.s,.slice x.hi.n.q x.hi.n.n x.hi.n.cap,.int .i64 x.hi.d.s,.slice x.hi.d.q x.hi.d.n x.hi.d.cap]
def X9(F:Gs)(x:Sp)(r:Rat×Rat):Prop:=Ja F x.lo r.1/\Ja F x.hi r.2
def X9.le{x:Sp}{r:Rat×Rat}(h:X9 F x r)(k:Gs.le F F'):X9 F' x r:=⟨h.1.le k,h.2.le k⟩
instance{x:Sp}{r:Rat×Rat}: Up (λF=>X9 F x r):=⟨λk h=>X9.le h k⟩
abbrev VO(P:Program)(f:FuncId)(args:List Value)(w:World)(F:Gs)(r:Rat×Rat):Prop:=QU P f args w F Sp.v λx F=>X9 F x r
def Xx(s:Rat×Rat)(x:Rat):Rat×Rat:=(if Ky x s.1<0 then x else s.1,if Ky x s.2>0 then x else s.2)
def WU(r:Rat)(l:List Rat):Rat×Rat:=l.foldl Xx (r,r)
def GN(x:Fr):List Value:=[.int .i64 x.n.s,.slice x.n.q x.n.n x.n.cap,.int .i64 x.d.s,.slice x.d.q x.d.n x.d.cap]
theorem OQ{f:α->List Value}(a:∀x,(f x).length=k):∀(l:List α) (i j:Nat) (h:i<l.length),j<k->(l.flatMap f)[i*k+j]?=(f l[i])[j]?
 |[],_,_,h,_=>by simp at h
 |x::l,0,j,_,b=>by
  rw[eY,fJ,aM,List.getElem?_append,if_pos (by rw[a];exact b)];rfl
 |x::l,i+1,j,h,b=>by
  rw[eY,List.getElem?_append,if_neg (by rw[a,bP];omega),a];have:=OQ a l i j (by simpa using h) b;rw[show(i+1)*k+j-k=i*k+j by rw[bP];omega,this];rfl
def C0{f:α->List Value}(a:∀x,(f x).length=k)(l:List α):(l.flatMap f).length=l.length*k:=by
 induction l with
 |nil=>simp
 |cons x l ih=>rw[eY,aq,a,ih,aA,bP];omega
def XP(a b:Rat×Rat):Rat×Rat:=WU (a.1*b.1) [a.1*b.2,a.2*b.1,a.2*b.2]
section
variable[Dr][df:Df]{P:Program}{Q:Exit->Act->World->Prop}{N:Nat}{m:Sl}{ops:Array Oper}{l:List Oper}{w0:World}{F0:Gs}{bs:List (Nat×Obj)}{G:Gs->Prop}{d:Nat}{ty:TypeId}{pos:String}{aft:Array Edge}
theorem FP{T:TypeId}(hx:ev m x=some (tx s))(hT:WS P T=true)(k:∀b,JS P ops Q l N ((d,.pointer (some ⟨b,0,none⟩))::m) ⟨w0,F0,(b,.stringIter ⟨s.toArray⟩ 0)::bs,G⟩)(hd:Jx N (some d)=true:=by rfl):
  JS P ops Q (⟨some d,.range T x,ty,pos,aft,none⟩::l) N m ⟨w0,F0,bs,G⟩:=λa w ha hw=>by
 unfold WS at hT;split at hT
 ·rename_i hu;have hrun:(execOp a.eval ⟨some d,.range T x,ty,pos,aft,none⟩).run P w = .ok (.value (.pointer (some ⟨w.heap.size,0,none⟩))) (w.alloc (.stringIter ⟨s.toArray⟩ 0)):=by
   simp[execOp,ha.ev hx,Instr.range,run_underlying hu,run_newObj,tx]
  exact wpList_plain rfl λK hK=>upon_value hrun (hK _ _ (k _ _ _ (ha.put hd _) (hw.alloc _ λc fr e=>by cases e)))
 cases hT
theorem LK{p:Nat}(hx:ev m x=some (.pointer (some ⟨b,0,none⟩)))(y:Own bs b (.stringIter ⟨s.toArray⟩ p) f)(hp:p<s.length){c g:Nat}(i:bO ⟨s.toArray⟩ p=(c,g))
  (k:JS P ops Q l N ((d,.tuple #[.bool true,.int .i64 p,.int .i32 c])::m) ⟨w0,F0,f (.stringIter ⟨s.toArray⟩ (p+g)),G⟩) (hd:Jx N (some d)=true:=by rfl) :
  JS P ops Q (⟨some d,.next x true,ty,pos,aft,none⟩::l) N m ⟨w0,F0,bs,G⟩:=λa w ha o=>by
 have hb:=o.own y;obtain⟨pre,post,F,E⟩:=y.split;subst F;rw[E]at k;have j:p<(⟨s.toArray⟩:ByteArray).size:=by rw[B6];exact hp
 have h:(execOp a.eval ⟨some d,.next x true,ty,pos,aft,none⟩).run P w = .ok (.value (.tuple #[.bool true,.int .i64 p,.int .i32 c])) { w with heap:=w.heap.setIfInBounds b (.stringIter ⟨s.toArray⟩ (p+g)) }:=by
  simp[execOp,ha.ev hx,jc,getObj,setObj,Sem.run,hb,j,i,goInt]
 exact wpList_plain rfl λK z=>upon_value h (z _ _ (k _ _ (ha.put hd _) (o.write pre ⟨rfl,rfl,rfl,rfl,rfl⟩ λc fr e=>by cases e)))
theorem LM{p:Nat}(hx:ev m x=some (.pointer (some ⟨b,0,none⟩)))(i:Own bs b (.stringIter ⟨s.toArray⟩ p) f)(hp:s.length<=p)
  (k:JS P ops Q l N ((d,.tuple #[.bool false])::m) ⟨w0,F0,bs,G⟩) (hd:Jx N (some d)=true:=by rfl) :
  JS P ops Q (⟨some d,.next x true,ty,pos,aft,none⟩::l) N m ⟨w0,F0,bs,G⟩:=λa w ha h=>by
 have hb:=h.own i;have g:¬p<(⟨s.toArray⟩:ByteArray).size:=by rw[B6];omega
 have c:(execOp a.eval ⟨some d,.next x true,ty,pos,aft,none⟩).run P w = .ok (.value (.tuple #[.bool false])) w:=by
  simp[execOp,ha.ev hx,jc,getObj,Sem.run,hb,g]
 exact wpList_plain rfl λK j=>upon_value c (j _ _ (k _ _ (ha.put hd _) h))
end
theorem decode_high{p:Nat}(hp:p<s.length)(h:¬s[p].toNat<128):128<=(bO ⟨s.toArray⟩ p).1:=by
 have h0:((⟨s.toArray⟩:ByteArray).get! (p+0)).toNat=s[p].toNat:=by
  simp[ByteArray.get!,hp]
 unfold bO;simp only[h0];rw[if_neg h];split
 ·split
  ·rename_i g;exact g
  decide
 split
 ·split
  ·rename_i g;simp only[aw,decide_eq_true_eq]at g;exact af wj g.1
  decide
 split
 ·split
  ·rename_i g;simp only[aw,decide_eq_true_eq]at g;exact af wj g.1
  decide
 decide
def C7{p:Nat}(hp:p<s.length):∃c width,bO ⟨s.toArray⟩ p=(c,width)/\((s[p].toNat<128/\c=s[p].toNat/\width=1)\/(128<=s[p].toNat/\128<=c)):=by
 have h0:((⟨s.toArray⟩:ByteArray).get! (p+0)).toNat=s[p].toNat:=by
  simp[ByteArray.get!,hp]
 by_cases h:s[p].toNat<128
 ·exact⟨_,_,by unfold bO;simp only[h0];rw[if_pos h],.inl ⟨h,rfl,rfl⟩⟩
 exact⟨(bO ⟨s.toArray⟩ p).1,(bO ⟨s.toArray⟩ p).2,rfl,.inr ⟨O,decode_high hp h⟩⟩
def Xj(c:Nat):Bool:=(decide (97<=c)&&decide (c<=122))||(decide (65<=c)&&decide (c<=90))
def ahead(p:UInt8->Bool)(s:List UInt8):Nat:=(s.takeWhile λc=>!p c).length
def SY{p:UInt8->Bool}(hi:i<s.length)(h:(s.take i).all (λc=>!p c)=true)(hp:p s[i]=true):ahead p s=i:=by
 unfold ahead;have e:s=s.take i++s[i]::s.drop (i+1):=by rw[<-aC hi,bJ]
 have a:(s.take i).length=i:=wv;rw[e,List.takeWhile_append_of_pos (by simpa using h),eT];simp[hp];omega
def SZ{p:UInt8->Bool}(h:s.all (λc=>!p c)=true):ahead p s=s.length:=by
 unfold ahead
 induction s with
 |nil=>rfl
 |cons c s ih =>
  simp only[List.all_cons,aw]at h;rw[eT,if_pos h.1,aA,ih h.2,aA]
def BJ{p:UInt8->Bool}(hi:i<s.length)(h:(s.take i).all p=true)(hp:p s[i]=true):(s.take (i+1)).all p=true:=by
 rw[aB hi,List.all_append,h];simp[hp]
def Jl(c:UInt8):Bool:=c==47
def GG{d:UInt8}(hz:z=(d.toNat:Int)):((c.toNat:Int)==z)=(c==d):=by
 rw[ao];simp only[beq_iff_eq];constructor
 ·intro h;apply ep;omega
 rintro rfl;exact hz.symm
theorem Wa(b:Fits F w)(f:s.length<=9223372036854775807):QX prog 57 [tx s] w F (.int .i64 (ahead Jl s)):=by
 refine QU.intro (G:=λ_=>True) func57 rfl wm rfl rfl b wy<|QNz<|wQ rfl<|QG<|QNz<|wQ rfl<|QQ<|Xd (ι:=Mb s.length λi=>(s.take i).all (λc=>!Jl c)=true) (λi=>[(0,tx s),(3,.int .i64 i.i)]) (λ_=>[]) (λ_ _=>True) (λi=>s.length-i.i) ⟨0,aX _,rfl⟩ wT QNG wy λi=>?_
 have a:=i.le;refine wA 5 I<|QA (Je I J7)<|QOm 3 I ?_
 refine QP I (λhc=>?_) λhc=>?_
 ·have hi:i.i<s.length:=by simp at hc;omega
  clear hc;refine QOn 8 I<|QA (Yj I I J7 (hi))<|QOm 3 I ?_
  refine QP I (λhc=>?_) λhc=>?_
  ·refine wA 6 I<|X4 ?_
   exact QO () I (wN I) (congrArg (λn:Nat=>ah .i64 (n:Int)) (SY hi i.h (by unfold Jl;have:=hc;rw[GG (d:=47) (z:=47) rfl]at this;simpa using this))) wy
  refine QN<|Qf<|QOo 3 I<|QA (Qk I I O)<|wB 2 I ?_
  exact Qh (⟨i.i+1,O,BJ hi i.h (by unfold Jl;have:=hc;rw[GG (d:=47) (z:=47) rfl]at this;simpa using this)⟩:Mb s.length λi=>(s.take i).all (λc=>!Jl c)=true) (by show s.length-(i.i+1)<s.length-i.i;omega) wT QNG wy
 refine Q7 ?_;refine wR I<|QA (Je I J7)<|wQ I<|QW ?_
 exact QO () I (wN I) (congrArg (λn:Nat=>ah .i64 (n:Int)) (SZ (by have e:=i.h;rw[ak (by simp at hc;omega)]at e;exact e))) wy
theorem Rp(c:Fits F w)(d:s.length<=9223372036854775807):QX prog 120 [tx s] w F (.bool (XK s)):=by
 refine QU.intro (G:=λ_=>True) func120 rfl wm rfl rfl c wy<|QNz<|wQ rfl<|QG<|QNz<|wQ rfl<|QQ<|Xd (ι:=Mb s.length λi=>(s.take i).all UI=true) (λi=>[(0,tx s),(3,.int .i64 i.i)]) (λ_=>[]) (λ_ _=>True) (λi=>s.length-i.i) ⟨0,aX _,rfl⟩ wT QNG wy λi=>?_
 have b:=i.le;refine wA 5 I<|QA (Je I J7)<|QOm 3 I ?_
 refine QP I (λhc=>?_) λhc=>?_
 ·have hi:i.i<s.length:=by simp at hc;omega
  clear hc;refine QOn 8 I<|QA (Yj I I J7 (hi))<|wB 2 I ?_
  refine QY (t:=14) rfl (λa=>?_) λa=>?_
  ·refine QOm 7 I<|WV I<|wA 5 I<|X4 ?_
   exact QO () I (wN I) (congrArg aj (by rw[Mp hi (by have h1:=QOW a;cases hd:UI s[i.i]with | false=>rfl | true=>(have:=Zz.1 hd;omega))])) wy
  refine wB 5 I<|QA (Yj I I J7 (hi))<|QOm 5 I ?_
  refine QP I (λhc=>?_) λhc=>?_
  ·refine wA 5 I<|X4 ?_
   exact QO () I (wN I) (congrArg aj (by rw[Mp hi (by have h1:=QOW hc;cases hd:UI s[i.i]with | false=>rfl | true=>(have:=Zz.1 hd;omega))])) wy
  refine QN<|Qf<|QOo 3 I<|QA (Qk I I O)<|wB 2 I ?_
  exact Qh (⟨i.i+1,O,BJ hi i.h (Zz.2 (by have h1:=QOX a;have h2:=QOX hc;constructor<;>omega))⟩:Mb s.length λi=>(s.take i).all UI=true) (by show s.length-(i.i+1)<s.length-i.i;omega) wT QNG wy
 refine Q7 ?_;refine wA 6 I ?_;exact QO () I (wN I) (congrArg aj (by have e:=i.h;rw[ak (by simp at hc;omega)]at e;exact e)) wy
theorem yO(h1:(1:Int)<(s.length:Int))(h:s[0]' O=48):J1 s=false:=by
 cases s with
 |nil=>simp at h1
 |cons c r =>
  have hc:c=48:=h;subst hc;have hr:r≠[]:=by intro e;subst e;simp at h1
  simp[J1,hr]
theorem Cy(h1:(1:Int)<(s.length:Int))(h:¬s[0]' O=48):J1 s=XK s:=by
 cases s with
 |nil=>simp at h1
 |cons c r =>
  have hc:¬c=48:=h;simp[J1,hc]
theorem yN(h0:0<s.length)(h1:s.length<=1):J1 s=XK s:=by
 match s,h0,h1 with
 |[c],_,_ =>
  by_cases hc:c=48
  ·subst hc;rfl
  simp[J1,hc]
theorem Ls(g:Fits F w)(c:s.length<=9223372036854775807):QX prog 58 [tx s] w F (.bool (J1 s)):=by
 refine QU.intro (G:=λ_=>True) func58 rfl wm rfl rfl g wy<|QNz<|wQ rfl<|QG<|wR rfl<|QA (Je rfl J7)<|QA (QM rfl rfl rfl)<|QMu rfl ?_
 refine QY (t:=6) rfl (λb=>?_) λb=>?_
 ·refine wB 4 I<|JM I I<|JM I I<|JM I I<|QOm 4 I<|WV I<|wA 6 I ?_
  exact QO () I (wN I) (congrArg aj (by have h0:s=[]:=(by simpa using b);subst h0;rfl)) wy
 refine wB 3 I<|QA (Je I J7)<|wB 4 I ?_
 refine QY (t:=10) rfl (λa=>?_) λa=>?_
 ·refine wB 3 I<|QA (Yj (i:=0) rfl rfl J7 (wg<|QOW a))<|QOm 7 I ?_
  refine QP I (λhc=>?_) λhc=>?_
  ·refine wA 6 I ?_;exact QO () I (wN I) (congrArg aj (yO (QOW a) (by have h:=hc;rw[GG (d:=48) (z:=48) rfl]at h;simpa using h))) wy
  refine QOn 5 I<|QL I (λ_ _ f _=>Rp f c) λ_=>wQ I<|QW ?_
  exact QO () I (wN I) (congrArg aj (Cy (QOW a) (by have h:=hc;rw[GG (d:=48) (z:=48) rfl]at h;simpa using h))) wy
 refine QOm 8 I<|Zq I<|QOn 5 I<|QL I (λ_ _ f _=>Rp f c) λ_=>wQ I<|QW ?_
 exact QO () I (wN I) (congrArg aj (yN (List.length_pos_iff.2 (by simpa using b)) (by have h:=QOX a;omega))) wy
def GJ(s:List UInt8):Int:=if s=[48]then 0 else if au s [45]=true then -1 else 1
def Ic(s:List UInt8):List UInt8:=if GJ s<0 then s.drop 1 else if GJ s=0 then s else 45::s
def qO(s:List UInt8):List UInt8:=if GJ s<0 then s.drop 1 else s
def numOf(s:List UInt8):List UInt8:=s.take (ahead Jl s)
def Fv(s:List UInt8):List UInt8:=if ahead Jl s=s.length then[49]else s.drop (ahead Jl s+1)
def Yr(p:UInt8->Bool)(s:List UInt8):ahead p s<=s.length:=(fF _).length_le
theorem Yk(h:0<s.length):au s [45]=(s[0]==45):=by
 cases s with
 |nil=>simp at h
 |cons c r =>
  have e:au (c::r) [45]=(45==c):=by simp[au,bT]
  rw[e,ao];simp only[fG,beq_iff_eq];exact⟨λh=>h.symm,λh=>h.symm⟩
def DI(h:GJ s<0):0<s.length:=by
 cases s with
 |nil=>exact absurd h wj
 |cons=>simp
theorem DM(c:Fits F w):QX prog 7 [tx s] w F (.int .i64 (GJ s)):=by
 refine QU.intro (G:=λ_=>True) func7 rfl wm rfl rfl c wy<|QNz<|wQ rfl<|QG<|wR rfl<|QA (Yw rfl rfl)<|QE<|QD ?_
 refine QP I (λb=>?_) λb=>?_
 ·refine wA 6 I ?_;exact QO () I (wN I) (congrArg (ah .i64) (by unfold GJ;rw[if_pos (by simpa using b)])) wy
 refine QOn 6 I<|QA (Je I VI)<|wB 2 I ?_
 refine QY (t:=8) rfl (λa=>?_) λa=>?_
 ·refine wB 3 I<|QA (Yj (i:=0) rfl rfl VI (wg<|QOW a))<|QOm 5 I ?_
  refine QP I (λhc=>?_) λhc=>?_
  ·refine wA 6 I ?_;exact QO () I (wN I) (congrArg (ah .i64) (by unfold GJ;rw[if_neg (by simpa using b),if_pos];rw[Yk (wg<|QOW a),<-GG (z:=45) rfl];exact hc)) wy
  refine QOn 8 I ?_;exact QO () I (wN I) (congrArg (ah .i64) (by unfold GJ;rw[if_neg (by simpa using b),if_neg];rw[Yk (wg<|QOW a),<-GG (z:=45) rfl,hc];decide)) wy
 refine QOm 6 I<|Zq I<|QOn 8 I ?_
 exact QO () I (wN I) (congrArg (ah .i64) (by have h0:s=[]:=(by have:=a;simp at this;exact this);subst h0;rfl)) wy
theorem xO(c:Fits F w)(d:s.length<=1000000000):QX prog 14 [tx s] w F (tx (Ic s)):=by
 refine QU.intro (G:=λ_=>True) func14 rfl wm rfl rfl c wy<|QNz<|wQ rfl<|QG<|wR rfl<|QL rfl (λ_ _ f _=>DM f ) λ_=>QA (QM rfl rfl rfl)<|QE<|QD ?_
 refine QP I (λa=>?_) λa=>?_
 ·refine wR I<|QA (Zp 1 rfl rfl VI I (DI (QOW a)))<|wQ I<|QW ?_
  exact QO () I (wN I) (congrArg tx (by unfold Ic;rw[if_pos (QOW a)])) wy
 refine QOn 6 I<|QL I (λ_ _ f k=>DM f ) λ_=>QOm 3 I ?_
 refine QP I (λb=>?_) λb=>?_
 ·refine wA 7 I ?_;exact QO () I (wN I) (congrArg tx (by unfold Ic;rw[if_neg (QOX a),if_pos (by simpa using b)])) wy
 refine QOn 5 I<|QA (XU I I wv)<|wQ I<|QW ?_
 exact QO () I (wN I) (congrArg tx (by unfold Ic;rw[if_neg (QOX a),if_neg (by simpa using b)];rfl)) wy
theorem xW(a:Fits F w):QX prog 23 [tx s] w F (tx (qO s)):=by
 refine QU.intro (G:=λ_=>True) func23 rfl wm rfl rfl a wy<|QNz<|wQ rfl<|QG<|wR rfl<|QL rfl (λ_ _ f _=>DM f ) λ_=>QA (QM rfl rfl rfl)<|QE<|QD ?_
 refine QP I (λhc=>?_) λhc=>?_
 ·refine wR I<|QA (Zp 1 rfl rfl VI I (DI (QOW hc)))<|wQ I<|QW ?_
  exact QO () I (wN I) (congrArg tx (by unfold qO;rw[if_pos (QOW hc)])) wy
 refine QOn 9 I ?_;exact QO () I (wN I) (congrArg tx (by unfold qO;rw[if_neg (QOX hc)])) wy
theorem gF(a:Fits F w):QX prog 118 [tx s] w F (.bool (s==[48])):=by
 refine QU.intro (G:=λ_=>True) func118 rfl wm rfl rfl a wy<|QNz<|wQ rfl<|wR rfl<|QA (Yw rfl rfl)<|wQ rfl<|QW ?_
 exact QO () I (wN I) (rfl) wy
theorem xN(b:Fits F w)(a:s.length<=1000000000):QX prog 24 [tx s] w F (tx (numOf s)):=by
 refine QU.intro (G:=λ_=>True) func24 rfl wm rfl rfl b wy<|QNz<|wQ rfl<|wR rfl<|QMu rfl<|QL rfl (λ_ _ f _=>Wa f (af a wj)) λ_=>QA (V7 (ahead Jl s) rfl rfl VI rfl (Yr _ _))<|wQ rfl<|QW ?_
 exact QO () I (wN I) (rfl) wy
theorem xT(b:Fits F w)(a:s.length<=1000000000):QX prog 25 [tx s] w F (tx (Fv s)):=by
 refine QU.intro (G:=λ_=>True) func25 rfl wm rfl rfl b wy<|QNz<|wQ rfl<|wR rfl<|QL rfl (λ_ _ f _=>Wa f (af a wj)) λ_=>wQ rfl<|QG<|wR rfl<|QMu rfl<|QA (Je rfl VI)<|QA (QM rfl rfl rfl)<|QE<|QD ?_
 refine QP I (λhc=>?_) λhc=>?_
 ·refine wA 6 I ?_;exact QO () I (wN I) (congrArg tx (by unfold Fv;rw[if_pos (by simp at hc;omega)])) wy
 refine QOn 6 I<|QA (Qk I I (wg<|Yr Jl s))<|QA (Zp (ahead Jl s+1) rfl rfl VI I (by have:=Yr Jl s;simp at hc;omega))<|wQ I<|QW ?_
 exact QO () I (wN I) (congrArg tx (by unfold Fv;rw[if_neg (by simp at hc;omega)])) wy
def MP(hi:i<s.length):JA (s.take (i+1))=JA (s.take i)*10+(s[i].toNat-48):=by
 rw[aB hi,Zy,VM];simp
def QCL(hi:i<s.length)(h:XK s=true):48<=s[i].toNat/\s[i].toNat<=57:=by
 rw[XK,fc]at h;exact Zz.1 (h _ (fb hi))
theorem DK(g:Fits F w)(a:XK s=true)(h:s.length<=18):QX prog 103 [tx s] w F (.int .i64 (JA s)):=by
 refine QU.intro (G:=λ_=>True) func103 rfl wm rfl rfl g wy<|QNz<|wQ rfl<|QNz<|wQ rfl<|QG<|QNz<|wQ rfl<|QQ<|Xd (ι:=Mb s.length λ_=>True) (λi=>[(0,tx s),(3,.int .i64 (JA (s.take i.i))),(4,.int .i64 i.i)]) (λ_=>[]) (λ_ _=>True) (λi=>s.length-i.i) ⟨0,aX _,trivial⟩ wU QNG wy λi=>?_
 have f:=i.le;have d:=Ku (Hn a i.i);have b:(10:Nat)^(s.take i.i).length<=10^18:=aF wj wv;refine wA 5 I<|QA (Je I J7)<|QOm 3 I ?_
 refine QP I (λhc=>?_) λhc=>?_
 ·have hi:i.i<s.length:=by simp at hc;omega
  have hd:=QCL hi a;have c:(10:Nat)^(s.take i.i).length<=10^17:=aF wj wv;refine QOn 6 I<|QA (We I I O)<|wB 2 I<|QA (Yj I I J7 (hi))<|QA (Fb I QHh k_3 O)<|QA (Qk I I O)<|QA (Jv I I O)<|wB 2 I<|Qf<|QOo 3 I<|QA (Qk I I O)<|wB 2 I ?_
  exact Qh (⟨i.i+1,O,trivial⟩:Mb s.length λ_=>True) (by show s.length-(i.i+1)<s.length-i.i;omega) ⟨rfl,(by show some (ah .i64 _)=some (ah .i64 _);rw[MP hi];congr 2;omega),rfl,trivial⟩ QNG wy
 refine Q7 ?_;refine wA 7 I ?_;exact QO () I (wN I) (congrArg (ah .i64) (by rw[ak (by simp at hc;omega)])) wy
structure QHL(a b:Nat) where
 x:Nat
 y:Nat
 h:fM x y=fM a b
 hx:x<=9223372036854775807
 hy:y<=9223372036854775807
theorem QA5{a b:Nat}(d:Fits F w)(ha:a<=9223372036854775807)(hb:b<=9223372036854775807):QX prog 105 [.int .i64 (a:Int),.int .i64 (b:Int)] w F (.int .i64 (fM a b:Nat)):=by
 refine QU.intro (G:=λ_=>True) func105 rfl wm rfl rfl d wy<|QNz<|wQ rfl<|QG<|QQ<|Xd (ι:=QHL a b) (λi=>[(0,.int .i64 (i.x:Int)),(1,.int .i64 (i.y:Int))]) (λ_=>[]) (λ_ _=>True) (λi=>i.y) ⟨a,b,rfl,ha,hb⟩ wT QNG wy λi=>?_
 have hx:=i.hx;have hy:=i.hy;refine wA 7 I ?_;refine QP I (λhc=>?_) λhc=>?_
 ·have c:0<i.y:=by simp at hc;omega
  refine QOn 3 I<|JO QNG mixed wi<|QK (QC I)<|QK (QC I)<|QK (QC I)<|QK (KV I I O O)<|QK (QF I)<|QK (QF I)<|Qw<|Qf ?_
  exact Qh (⟨i.y,i.x%i.y,by rw[<-i.h,iW i.x,Nat.gcd_rec i.y i.x,iW],hy,wg<|eC i.x c⟩:QHL a b) (eC i.x c) wT QNG wy
 refine Q7 ?_;refine wA 7 I ?_;exact QO () I (wN I) (congrArg (λn:Nat=>ah .i64 (n:Int)) (by have h0:i.y=0:=(by simp at hc;omega);rw[<-i.h,h0,Nat.gcd_zero_right])) wy
def ES(n least:Nat):List UInt8:=VZ least (hd n)
def OJ(h:0<n):hd n=hd (n/10)++[bm (48+n%10)]:=by
 unfold hd;rw[if_neg O];by_cases h0:n/10=0
 ·rw[if_pos h0,ae,dif_pos O,iE O];rfl
 rw[if_neg h0,fu n,dif_neg O]
def Is(h:n<=9223372036854775807):(hd n).length<=20:=by
 unfold hd;split
 ·simp
 rw[aK];exact Ze O wj
structure qZ(n least:Nat) where
 m:Nat
 t:List UInt8
 le:m<=n
 h:VZ (least-t.length) (hd m)++t=ES n least
 tl:t.length+(hd m).length<=least+20
def js(h:d<10):(([48,49,50,51,52,53,54,55,56,57]:List UInt8).take (d+1)).drop d=[bm (48+d)]:=by
 match d,h with
 |0,_=>rfl
 |1,_=>rfl
 |2,_=>rfl
 |3,_=>rfl
 |4,_=>rfl
 |5,_=>rfl
 |6,_=>rfl
 |7,_=>rfl
 |8,_=>rfl
 |9,_=>rfl
def yu{least:Nat}{t:List UInt8}(h:0<n\/t.length<least):VZ (least-(bm (48+n%10)::t).length) (hd (n/10))++(bm (48+n%10)::t)=VZ (least-t.length) (hd n)++t:=by
 rcases bB n with h0 | h0
 ·subst h0;have a:t.length<least:=O;have e:least-t.length=(least-(t.length+1))+1:=O;simp only[hd,VZ,aA,if_true,iG,fK,ff,Nat.zero_div,Nat.zero_mod];rw[e,KS,KS,fP,er];rfl
 rw[OJ h0];unfold VZ;simp only[aq,aA,iG];rw[show least-(t.length+1)-(hd (n/10)).length=least-t.length-((hd (n/10)).length+(0+1)) by omega];simp
def qZ.next{n least:Nat}(i:qZ n least)(h:0<i.m\/i.t.length<least):qZ n least :=
 ⟨i.m/10,bm (48+i.m%10)::i.t,wg i.le,by rw[yu h];exact i.h,by
  have:=i.tl;rcases bB i.m with h0 | h0
  ·have e:hd (i.m/10)=[]:=by rw[h0];rfl
   rw[e];have a:hd i.m=[]:=by rw[h0];rfl
   rw[a]at this;simp at this ⊢;omega
  have e:=congrArg eO (OJ h0);simp at e ⊢;omega⟩
theorem IP{n least:Nat}(f:Fits F w)(c:n<=9223372036854775807)(j:least<=1000):QX prog 106 [.int .i64 (n:Int),.int .i64 (least:Int)] w F (tx (ES n least)):=by
 refine QU.intro (G:=λ_=>True) func106 rfl wm rfl rfl f wy<|QNz<|wQ rfl<|QNz<|wQ rfl<|QG<|QQ<|Xd (ι:=qZ n least) (λi=>[(0,.int .i64 (i.m:Int)),(1,.int .i64 (least:Int)),(5,tx i.t)]) (λ_=>[]) (λ_ _=>True) (λi=>i.m+(least-i.t.length)) ⟨n,[],aG _,by unfold ES;simp,by have:=Is c;simp;omega⟩ wU QNG wy λi=>?_
 have d:=i.le;have b:=i.tl;refine wA 6 I ?_;refine QY (t:=8) rfl (λa=>?_) λa=>?_
 ·refine QOm 7 I<|WV I<|QOn 6 I<|QA (KV I I O O)<|QMu I<|QA (KV I I O O)<|QA (Qk I I O)<|QA (DQ (i.m%10) (i.m%10+1) rfl rfl rfl J7 (.inr rfl) (.inr rfl) O (by show i.m%10+1<=10;omega)) ?_
  rw[js (eC _ wj)];refine QMu I<|QA (XU I I wv)<|QOm 5 I<|QA (WJ I I O O O)<|wB 2 I<|Qf ?_
  exact Qh (qZ.next i (Or.inl (wg<|QOW a):0<i.m\/i.t.length<least)) (by show i.m/10+(least-(i.t.length+1))<i.m+(least-i.t.length);rcases(Or.inl (wg<|QOW a):0<i.m\/i.t.length<least)with g | g<;>omega) wU QNG wy
 refine wB 3 I<|QA (Je I J7)<|QOm 7 I ?_
 refine QP I (λhc=>?_) λhc=>?_
 ·refine QOn 6 I<|QA (KV I I O O)<|QMu I<|QA (KV I I O O)<|QA (Qk I I O)<|QA (DQ (i.m%10) (i.m%10+1) rfl rfl rfl J7 (.inr rfl) (.inr rfl) O (by show i.m%10+1<=10;omega)) ?_
  rw[js (eC _ wj)];refine QMu I<|QA (XU I I wv)<|QOm 5 I<|QA (WJ I I O O O)<|wB 2 I<|Qf ?_
  exact Qh (qZ.next i (Or.inr (wg<|QOW hc):0<i.m\/i.t.length<least)) (by show i.m/10+(least-(i.t.length+1))<i.m+(least-i.t.length);rcases(Or.inr (wg<|QOW hc):0<i.m\/i.t.length<least)with g | g<;>omega) wU QNG wy
 refine Q7 ?_;refine wA 7 I ?_;exact QO () I (wN I) (congrArg tx (by have h1:=QOX a;have h2:=QOX hc;have h0:i.m=0:=O;rw[<-i.h,h0];simp[hd,VZ,show least-i.t.length=0 by omega,eR])) wy
section
variable{P:Program}{N:Nat}{m:Sl}{Y:World->Prop}{ty:TypeId}
def RP(a:Addr):a.add 0=a:=by simp[Addr.add]
theorem MQ{T e:TypeId}{hi:Option Operand}{q:Option Addr}{c sz:Nat}{g:Bool}(h:Nat)(hx:ev m x=some (.slice q n c))(j:UG m hi=some vh)(i:vh=some (.int .i64 (h:Int)))(d:GZ P T=some e)(f:Zm P e=some (g,sz))(hc:h<=c):
  Qt P N m Y (.slice T x none hi none) ty (.slice q h c):=λa w _ _ _ _ ha _=>by
 subst i;have k:q.map (λa=>a.add 0)=q:=by cases q<;>simp[RP]
 have b:(iU T (.slice q n c) none (some (.int .i64 (h:Int))) none).run P w = .ok (.slice q h c) w:=by
  simp[iU,run_underlying (Jc d),Instr.sliceBounds,Instr.sliceBound,asIntOf,hc,Y0 f,k]
 simp[execOp,ha.ev hx,ha.UG j,iM,run_underlying (Jc d),b]
end
def JG(F:Gs)(r:Sr)(l:List Int):Prop:=Qz F r.q r.n 1 (l.map JJ)/\l.length=r.n/\r.n<=r.cap
def JG.le{r:Sr}(h:JG F r l)(k:Gs.le F F'):JG F' r l:=⟨h.1.le k,h.2⟩
instance{r:Sr}{l:List Int}: Up (λF=>JG F r l):=⟨λk h=>JG.le h k⟩
theorem Qz.take{q:Option Addr}(h:Qz F q n 1 (l.map JJ))(i:l.length=n)(hk:k<=n):Qz F q k 1 ((l.take k).map JJ):=by
 refine⟨wv,λh0=>?_⟩;obtain⟨b,off,a,T,f,d,e3⟩:=h.2 O;refine⟨b,off,a,T,f,d,λj u hu=>e3 j u ?_⟩;rw[List.map_take]at hu;have c:j<k:=by
  rcases aS j k with g | g
  ·exact g
  rw[List.getElem?_eq_none wv]at hu;cases hu
 rw[List.getElem?_take_of_lt c]at hu;exact hu
def F5(hk:k<l.length)(h:Q3 l=Q3 (l.take (k+1)))(h0:l[k]=0):Q3 l=Q3 (l.take k):=by
 rw[h,aB hk,h0,YG]
def F4(hk:k<l.length)(h:Q3 l=Q3 (l.take (k+1)))(h0:l[k]≠0):Q3 l=l.take (k+1):=by
 rw[h,aB hk,Wu _ h0]
structure QAW(l:List Int) where
 k:Nat
 le:k<=l.length
 h:Q3 l=Q3 (l.take k)
theorem Wx{r:Sr}(y:Fits F w)(m:JG F r l)(H:l.length<=1000000000):QU prog 172 [r.v] w F (λ(_:Unit)=>.slice r.q (Q3 l).length r.cap) (λ_ F=>JG F ⟨r.q,(Q3 l).length,r.cap⟩ (Q3 l)):=by
 obtain⟨q,n,c⟩:=r;have j:=m.2.1;have d:=m.2.2;dsimp only at j d;refine QU.go (G:=λF=>JG F ⟨q,n,c⟩ l) func172 y m ?_;refine wA 7 I<|Xd (ι:=QAW l) (λi=>[(0,.slice q i.k c)]) (λ_=>[]) (λ_ F=>JG F ⟨q,n,c⟩ l) (λi=>i.k) ⟨n,O,by rw[<-j,iw]⟩ wS QNG w6 λi=>?_
 have o:=i.le;refine wA 4 I<|QA (Qb I Qd)<|wB 2 I ?_
 refine QY (t:=6) rfl (λb=>?_) λb=>?_
 ·have x:0<i.k:=wg<|QOW b
  have a:i.k-1<l.length:=O;refine J5 _ (λ_ _ f h=>h.1.ptr (by dsimp only;omega)) (λg=>?_);obtain⟨E,z,g⟩:=g;dsimp only at g;subst g;refine wB 5 I<|QA (Qb I Qd)<|QJ I I<|QA (Jv I I O)<|QJ I I<|QA (Ql (i:=i.k-1) rfl wM Qd Qo O)<|QJ I I<|QA (XQ (n:=n) (sz:=1) (cs:=l.map JJ) (u:=.int .i64 l[i.k-1]) I Qo w7 O (by simp[a,JJ]))<|QOm 5 I ?_
  refine QP I (λhc=>?_) λhc=>?_
  ·refine QOn 6 I<|QA (Qb I Qd)<|QA (Jv I I O)<|QA (MQ (i.k-1) rfl rfl wM Qd Qo O)<|wB 2 I<|Qf ?_
   exact Qh (⟨i.k-1,O,F5 a (by rw[show i.k-1+1=i.k by omega];exact i.h) (by simpa using hc)⟩:QAW l) (by show i.k-1<i.k;omega) wS QNG w6
  refine Q7 ?_;refine wA 7 I ?_;exact QO () I (wN I) (congrArg (λk:Nat=>iS _ k c) (by have e:=F4 a (by rw[show i.k-1+1=i.k by omega];exact i.h) (by simpa using hc);rw[show i.k-1+1=i.k by omega]at e;rw[e];simp;omega)) λF h=>by have hz:(Q3 l).length<=l.length:=Xc l;exact⟨(by have:=h.1.take j (show(Q3 l).length<=n by omega);rw[<-BS]at this;exact this),rfl,(by show(Q3 l).length<=c;omega)⟩
 refine QOm 10 I<|Zq I<|Q7 ?_
 refine wA 7 I ?_;exact QO () I (wN I) (congrArg (λk:Nat=>iS _ k c) (by have h0:i.k=0:=(wg<|QOX b);have e:=i.h;rw[h0]at e;simp[Ra]at e;rw[e,h0];rfl)) λF h=>by have hz:(Q3 l).length<=l.length:=Xc l;exact⟨(by have:=h.1.take j (show(Q3 l).length<=n by omega);rw[<-BS]at this;exact this),rfl,(by show(Q3 l).length<=c;omega)⟩
theorem Q2.fix{w0:World}{F0:Gs}{bs1:List (Nat×Obj)}{G:Gs->Prop}{T:TypeId}{sz:Nat}{v:Value}(hr:Q2 T sz v n cs ob):
  ∃r:Sr,v=r.v/\r.n=n/\n<=r.cap/\∀w,St ⟨w0,F0,bs1++ob,G⟩ w->St ⟨w0,F0,bs1,λF=>G F/\Qz F r.q n sz cs⟩ w:=by
 cases hr with
 |nil=>exact⟨⟨eZ,0,0⟩,rfl,rfl,aG _,λw hw=>by
   have:=hw.GW (G':=λF=>G F/\Qz F eZ 0 sz []) (λF h=>⟨h,Qz.nil F eZ sz⟩);simpa using this⟩
 |some h1 h2 h3 h4 =>
  rename_i b cap rest;refine⟨⟨Option.some ⟨b,0,eZ⟩,n,cap⟩,rfl,rfl,h3,λw hw=>?_⟩;have:=St.freeze (pre:=bs1) (post:=[]) (b:=b) hw;rw[ff]at this;refine this.GW λF h=>⟨h.1,h1,λ_=>⟨b,0,_,T,rfl,h.2,λj u hu=>?_⟩⟩;have hj:j<cs.length:=by rcases aS j cs.length with g | g;exact g;rw[List.getElem?_eq_none g]at hu;cases hu
  rw[aM];simp only[List.getElem?_toArray];rw[List.getElem?_append,if_pos hj];exact hu
theorem QAg{Q:Exit->Act->World->Prop}{e:Exit}{E:Env}(h:∀w,St E w->St E' w)(k:Fin Q e N m E'):Fin Q e N m E:=λa w ha b=>k a w ha (h w b)
theorem N7{r:Sr}{i:Nat}(j:Fits F w)(d:JG F r l)(hi:i<=1000000000):QX prog 174 [r.v,.int .i64 (i:Int)] w F (.int .i64 (l.getD i 0)):=by
 obtain⟨q,n,c⟩:=r;have g:=d.2.1;dsimp only at g;refine QU.go (G:=λF=>JG F ⟨q,n,c⟩ l) func174 j d ?_;dsimp only[Sr.v];refine wA 10 I<|QA (Qb I Qd)<|QOm 3 I ?_
 refine QP I (λhc=>?_) λhc=>?_
 ·have a:i<l.length:=wg<|QOW hc
  refine XD _ (λ_ _ f h=>h.1.ptr (by dsimp only;omega)) (λb=>?_);obtain⟨m,k,b⟩:=b;dsimp only at b;subst b;refine wA 4 I<|QA (Ql (i:=i) rfl rfl Qd Qo O)<|QA (XQ (n:=n) (sz:=1) (cs:=l.map JJ) (u:=.int .i64 l[i]) I Qo w7 O (by simp[a,JJ]))<|wQ I<|QW ?_
  exact QO () I (wN I) (congrArg (ah .i64) (by simp[a])) wy
 refine QOn 8 I ?_;exact QO () I (wN I) (congrArg (ah .i64) (by have:=QOX hc;simp[show l.length<=i by omega])) wy
def B9:Int:=1000000000
structure QHV(a b:List Int) where
 i:Nat
 out:List Int
 carry:Int
 v:Value
 ob:List (Nat×Obj)
 le:i<=max a.length b.length+1
 len:out.length=i
 dg:DG B9 out
 c0:0<=carry
 c1:carry<=1
 cz:max a.length b.length<i->carry=0
 h:dv B9 out+B9^i*carry=dv B9 (a.take i)+dv B9 (b.take i)
 hr:Q2 3 1 v out.length (out.map JJ) ob
def K6(B:Int)(l:List Int)(n:Nat):dv B (l.take (n+1))=dv B (l.take n)+B^n*l.getD n 0:=by
 rcases aS n l.length with h | h
 ·rw[W7 B l n h];simp[h]
 rw[ak O,ak h];simp[h]
def Mw(h:DG B9 l)(i:Nat):0<=l.getD i 0/\l.getD i 0<1000000000:=h.getD wj i
def SF(h:l.length<=i):l.getD i 0=0:=by simp[h]
def QG1{a b out:List Int}{c s:Int}(f:out.length=i)(h:dv B9 out+B9^i*c=dv B9 (a.take i)+dv B9 (b.take i))(d:s=a.getD i 0+b.getD i 0+c):
  dv B9 (out++[s%B9])+B9^(i+1)*(s/B9)=dv B9 (a.take (i+1))+dv B9 (b.take (i+1)):=by
 rw[XO,f,K6,K6,bY,iR];have e:s%B9+B9*(s/B9)=s:=fQ s B9;have g:B9^i*(s%B9)+B9^i*(B9*(s/B9))=B9^i*s:=by rw[<-fh,e]
 rw[Int.add_assoc,g,d,fh,fh];omega
abbrev Ee(P:Program)(f:FuncId)(args:List Value)(w:World)(F:Gs)(p:List Int->Prop):Prop:=QU P f args w F (λ(c:Sr×List Int)=>.slice c.1.q c.1.n c.1.cap) λc F=>JG F c.1 c.2/\DG B9 c.2/\p c.2
theorem S4{a b:List Int}(hF:Fits F w)(K:JG F ra a)(H:JG F rb b)(da:DG B9 a)(db:DG B9 b)(la:a.length<=100000000)(lb:b.length<=100000000):
  Ee prog 112 [ra.v,rb.v] w F (λl=>dv B9 l=dv B9 a+dv B9 b/\l.length<=max a.length b.length+1):=by
 have na:=K.2.1;have nb:=H.2.1;have h9:B9=1000000000:=rfl;refine QU.go (G:=λF=>JG F ra a/\JG F rb b) func112 hF ⟨K,H⟩ ?_;refine wA 22 I ?_;refine Xd (ι:=QHV a b) (λi=>[(0,ra.v),(1,rb.v),(5,i.v),(6,.int .i64 i.carry),(7,.int .i64 (i.i:Int))]) (λi=>i.ob) (λ_ F=>JG F ra a/\JG F rb b) (λi=>max a.length b.length+1-i.i)
  ⟨0,[],0,.slice none 0 0,[],aX _,rfl,DG.nil _,wj,wj,λ_=>rfl,wu,.nil⟩ wW tA w6 λi=>?_
 have X:=i.le;have c:=i.len;have hc0:=i.c0;have Y:=i.c1;refine QG ?_;refine By 22 (.bool (decide ((i.i:Int)<ra.n)||decide ((i.i:Int)<rb.n)||decide (i.carry>0))) ?_ ?_
 ·refine wA 3 I<|QA (Qb I Qd)<|wB 2 I ?_
  refine QY (t:=13) rfl (λx=>?_) λx=>?_
  ·refine wB 10 I ?_;exact Xn (exd 15 rfl rfl) (congrArg (λb=>some (aj b)) (by rw[ao];simp_all;try omega)) QNG w6
  refine wB 5 I<|QA (Qb I Qd)<|wB 4 I ?_
  refine QY (t:=19) rfl (λo=>?_) λo=>?_
  ·refine wB 4 I ?_;exact Xn (exd 16 rfl rfl) (congrArg (λb=>some (aj b)) (by rw[ao];simp_all;try omega)) QNG w6
  refine wB 6 I ?_;exact Xn (exd 16 rfl rfl) (congrArg (λb=>some (aj b)) (by rw[ao];simp_all;try omega)) QNG w6
 refine QP I (λhc=>?_) λhc=>?_
 ·have hi:i.i<=max a.length b.length:=by
   rcases aS (max a.length b.length) i.i with g | g
   ·have:=i.cz g;simp at hc;omega
   exact g
  have b1:=Mw da i.i;have b2:=Mw db i.i;refine QOn 8 I<|QL I (λ_ _ f k=>N7 (r:=ra) (l:=a) f k.1 O) λ_=>wB 2 I<|QL I (λ_ _ f k=>N7 (r:=rb) (l:=b) f k.1.2 O) λ_=>QA (Qk I I O)<|QMu I<|QA (Qk I I O)<|QOm 7 I<|QA (KV I I O O)<|JC I (Jc Qd) Qo MK I I λb37=>?_
  refine Z1 (bs1:=[]) (ob:=i.ob) (k:=1) (sz:=1) (news:=[.int .i64 ((a.getD i.i 0+b.getD i.i 0+i.carry)%1000000000)]) I I Qd Qo MK I EV i.hr (Src.row (off:=0) w8 (λj v hv=>by rw[aM];show([ah .i64 ((a.getD i.i 0+b.getD i.i 0+i.carry)%1000000000)].toArray)[j]?=some v;rw[List.getElem?_toArray];exact hv) rfl) O O (λu hu=>by rw[List.mem_singleton.1 hu];rfl) (λL y z=>?_);refine QOm 5 I<|QA (WJ I I O O O)<|wB 2 I<|Qf<|QOo 3 I<|QA (Qk I I O)<|wB 2 I ?_
  exact Qh (⟨i.i+1,i.out++[(a.getD i.i 0+b.getD i.i 0+i.carry)%B9],(a.getD i.i 0+b.getD i.i 0+i.carry)/B9,L,y,O,by simp[c],i.dg.append (DG.cons (by rw[h9];omega) (by rw[h9];omega) (DG.nil _)),by rw[h9];omega,by rw[h9];omega,λg=>by rw[SF (l:=a) O,SF (l:=b) O,h9];omega,QG1 c i.h I,by simpa[JJ,h9]using z⟩:QHV a b) (by show max a.length b.length+1-(i.i+1)<max a.length b.length+1-i.i;omega) wW QNG λF h=>h.1.1.1
 refine Q7 ?_;refine wA 7 I ?_;obtain⟨r,hv,d,U,m⟩:=Q2.fix (w0:=w) (F0:=F) (bs1:=[]) (G:=λF=>JG F ra a/\JG F rb b) i.hr;refine QAg m ?_;have E:max a.length b.length<=i.i/\i.carry=0:=by simp at hc;omega
 exact QO ((r,i.out):Sr×List Int) rfl (wN I) hv.symm λF h=>⟨⟨by rw[d];exact h.2,d.symm,by show r.n<=r.cap;omega⟩,i.dg,by have e:=i.h;rw[E.2,ak O,ak O]at e;simpa using e,by show i.out.length<=_;omega⟩
structure QHR(a b:List Int) where
 k:Nat
 le:k<=a.length
 h:a.drop k=b.drop k
def C4{a b:List Int}(ha:k<a.length)(hb:k<b.length)(h:a.drop (k+1)=b.drop (k+1))(e:a[k]=b[k]):a.drop k=b.drop k:=by
 rw[aC ha,aC hb,h,e]
theorem Wd{a b:List Int}(hF:Fits F w)(hA:JG F ra a)(Y:JG F rb b)(E:DG B9 a)(y:DG B9 b)(za:NZ a)(zb:NZ b)(la:a.length<=100000000)(lb:b.length<=100000000):
  QX prog 113 [ra.v,rb.v] w F (.int .i64 (ZS (dv B9 a) (dv B9 b))):=by
 have o:(1:Int)<B9:=wj;have x:(0:Int)<B9:=wj;obtain⟨q,n,c⟩:=ra;obtain⟨H,m,X⟩:=rb;have na:=hA.2.1;have nb:=Y.2.1;dsimp only at na nb;refine QU.go (G:=λF=>JG F ⟨q,n,c⟩ a/\JG F ⟨H,m,X⟩ b) func113 hF ⟨hA,Y⟩ ?_;dsimp only[Sr.v];refine wA 9 I<|QA (Qb I Qd)<|QMu I<|QA (Qb I Qd)<|QOm 3 I ?_
 refine QP I (λhc=>?_) λhc=>?_
 ·refine wA 4 I<|QA (Qb I Qd)<|QMu I<|QA (Qb I Qd)<|QOm 3 I ?_
  refine QP I (λhc=>?_) λU=>?_
  ·refine wA 6 I ?_;exact QO () I (wN I) (congrArg (ah .i64) (WE (XX o E y zb (by simp at hc;omega)))) wy
  refine QOn 8 I ?_;exact QO () I (wN I) (congrArg (ah .i64) (Hm (XX o y E za (by simp at hc U;omega)))) wy
 refine QOn 6 I<|QA (Qb I Qd)<|QA (Jv I I O)<|QOm 3 I ?_
 have hab:n=m:=by simp at hc;omega
 refine QQ<|Xd (ι:=QHR a b) (λi=>[(0,.slice q n c),(1,.slice H m X),(5,.int .i64 ((i.k:Int)-1))]) (λ_=>[]) (λ_ F=>JG F ⟨q,n,c⟩ a/\JG F ⟨H,m,X⟩ b) (λi=>i.k) ⟨n,O,by rw[bI O,bI O]⟩ wU QNG w6 λi=>?_
 have hle:=i.le;refine wA 7 I ?_;refine QP I (λhc=>?_) λhc=>?_
 ·refine QOn 6 I ?_;have hk0:0<i.k:=wg<|QOW hc
  have j:i.k-1<a.length:=O;have g:i.k-1<b.length:=O;refine XD _ (λ_ _ f h=>h.1.1.ptr (by dsimp only;omega)) (λd=>?_);obtain⟨qb,qo,d⟩:=d;dsimp only at d;subst d;refine XD _ (λ_ _ f h=>h.2.1.ptr (by dsimp only;omega)) (λd=>?_);obtain⟨qb',qo',d⟩:=d;dsimp only at d;subst d;refine JO QNG mixed wi<|QK (QC I)<|QK (QC I)<|QK (Ql (i:=i.k-1) rfl wM Qd Qo O)<|QK (XQ (n:=n) (sz:=1) (cs:=a.map JJ) (u:=.int .i64 a[i.k-1]) I Qo (λF h=>h.1.1) O (by simp[j,JJ]))<|QK (QC I)<|QK (QC I)<|QK (Ql (i:=i.k-1) rfl wM Qd Qo O)<|QK (XQ (n:=m) (sz:=1) (cs:=b.map JJ) (u:=.int .i64 b[i.k-1]) I Qo (λF h=>h.2.1) O (by simp[g,JJ]))<|QK (QM I I I)<|Qw<|QD ?_
  refine QP I (λhc=>?_) λL=>?_
  ·refine wA 5 I<|X4 ?_
   exact QO () I (wN I) (congrArg (ah .i64) (WE (Tl x E y O (i.k-1) j (by rw[show i.k-1+1=i.k by omega];exact i.h) (QOW hc)))) wy
  refine QOn 3 I<|JO QNG mixed wi<|QK (QC I)<|QK (QC I)<|QK (Ql (i:=i.k-1) rfl wM Qd Qo O)<|QK (XQ (n:=n) (sz:=1) (cs:=a.map JJ) (u:=.int .i64 a[i.k-1]) I Qo (λF h=>h.1.1) O (by simp[j,JJ]))<|QK (QC I)<|QK (QC I)<|QK (Ql (i:=i.k-1) rfl wM Qd Qo O)<|QK (XQ (n:=m) (sz:=1) (cs:=b.map JJ) (u:=.int .i64 b[i.k-1]) I Qo (λF h=>h.2.1) O (by simp[g,JJ]))<|QK (QM I I I)<|Qw<|QD ?_
  refine QP I (λhc=>?_) λK=>?_
  ·refine wA 5 I<|X4 ?_
   exact QO () I (wN I) (congrArg (ah .i64) (Hm (Tl x y E O (i.k-1) g (by rw[show i.k-1+1=i.k by omega];exact i.h.symm) (QOW hc)))) wy
  refine QN<|Qf<|QOo 3 I<|QA (Jv I I O)<|wB 2 I ?_
  exact Qh (⟨i.k-1,O,C4 j g (by rw[show i.k-1+1=i.k by omega];exact i.h) (by simp at L K;omega)⟩:QHR a b) (by show i.k-1<i.k;omega) ⟨rfl,rfl,congrArg (λz:Int=>some (ah .i64 z)) (by dsimp only;omega),trivial⟩ QNG w6
 refine Q7 ?_;refine wA 6 I ?_;exact QO () I (wN I) (congrArg (ah .i64) (by have h0:i.k=0:=(wg<|QOX hc);have e:=i.h;rw[h0]at e;simp at e;rw[e];exact M5 _)) wy
theorem P5{Q:Exit->Act->World->Prop}{c:Code}{E:Env}(h:∀w,St E w->St E' w)(k:J P c Q N m E'):J P c Q N m E:=λa w ha b=>k a w ha (h w b)
def ug{a b out:List Int}{c f d:Int}(g:out.length=i)(h:dv B9 out+dv B9 (b.take i)=dv B9 (a.take i)+B9^i*c)(hd:d=a.getD i 0-b.getD i 0-c+B9*f):
  dv B9 (out++[d])+dv B9 (b.take (i+1))=dv B9 (a.take (i+1))+B9^(i+1)*f:=by
 rw[XO,g,K6,K6,bY,iR,hd,fh,jY,jY];omega
structure QCP(a b:List Int) where
 i:Nat
 out:List Int
 borrow:Int
 v:Value
 ob:List (Nat×Obj)
 le:i<=a.length
 len:out.length=i
 dg:DG B9 out
 c0:0<=borrow
 c1:borrow<=1
 h:dv B9 out+dv B9 (b.take i)=dv B9 (a.take i)+B9^i*borrow
 hr:Q2 3 1 v out.length (out.map JJ) ob
def vr{a b out:List Int}{c:Int}(i:DG B9 out)(g:out.length=a.length)(hb:b.length<=a.length)(h:dv B9 out+dv B9 (b.take a.length)=dv B9 (a.take a.length)+B9^a.length*c)(h0:0<=c)(h1:c<=1)(f:dv B9 b<=dv B9 a):dv B9 out=dv B9 a-dv B9 b:=by
 rw[iw,ak hb]at h;have d:=Zu (b:=B9) wj i;rw[g]at d;have hc:c=0\/c=1:=O;rcases hc with rfl | rfl
 ·rw[Int.mul_zero]at h;omega
 rw[Int.mul_one]at h;omega
theorem DL{a b:List Int}(hF:Fits F w)(hA:JG F ra a)(hB:JG F rb b)(da:DG B9 a)(db:DG B9 b)(la:a.length<=100000000)(lb:b.length<=a.length)(K:dv B9 b<=dv B9 a):
  Ee prog 114 [ra.v,rb.v] w F (λl=>dv B9 l=dv B9 a-dv B9 b/\NZ l/\l.length<=a.length):=by
 obtain⟨q,n,c⟩:=ra;have na:=hA.2.1;have nb:=hB.2.1;dsimp only at na;have h9:B9=1000000000:=rfl;refine QU.go (G:=λF=>JG F ⟨q,n,c⟩ a/\JG F rb b) func114 hF ⟨hA,hB⟩ ?_;dsimp only[Sr.v];refine wA 22 I ?_;refine Xd (ι:=QCP a b) (λi=>[(0,.slice q n c),(1,.slice rb.q rb.n rb.cap),(5,i.v),(6,.int .i64 i.borrow),(7,.int .i64 (i.i:Int))]) (λi=>i.ob) (λ_ F=>JG F ⟨q,n,c⟩ a/\JG F rb b) (λi=>a.length-i.i)
  ⟨0,[],0,.slice none 0 0,[],aX _,rfl,DG.nil _,wj,wj,wu,.nil⟩ wW tA w6 λi=>?_
 have hile:=i.le;have d:=i.len;have X:=i.c0;have U:=i.c1;refine wA 5 I<|QA (Qb I Qd)<|QOm 3 I ?_
 refine QP I (λhc=>?_) λhc=>?_
 ·have hi:i.i<n:=wg<|QOW hc
  have y:i.i<a.length:=O;have b1:=Mw da i.i;have b2:=Mw db i.i;have e1:a[i.i]=a.getD i.i 0:=by simp[y]
  refine XD _ (λ_ _ f h=>h.1.1.ptr (by dsimp only;omega)) (λE=>?_);obtain⟨qb,qo,E⟩:=E;dsimp only at E;subst E;refine QOn 5 I<|JO QNG mixed wi<|QK (QC I)<|QK (QC I)<|QK (Ql (i:=i.i) rfl rfl Qd Qo O)<|QK (XQ (n:=n) (sz:=1) (cs:=a.map JJ) (u:=.int .i64 (a.getD i.i 0)) I Qo (λF h=>h.1.1) O (by simp[y,JJ]))<|QK (QC I)<|QK (QC I)<|QZ I (λ_ _ f k=>N7 (r:=rb) (l:=b) f k.2 O) λ_=>QK (Jv I I O)<|QK (QC I)<|QK (Jv I I O)<|QK (QF I)<|Qw<|QOo 13 I ?_
  refine QP I (λo=>?_) λo=>?_
  ·refine wR I<|QA (Qk I I O)<|wQ I<|QB<|QOm 6 I<|JC I (Jc Qd) Qo MK I I λY=>?_
   refine Z1 (bs1:=[]) (ob:=i.ob) (k:=1) (sz:=1) (news:=[.int .i64 ((a.getD i.i 0-b.getD i.i 0-i.borrow)+1000000000)]) I I Qd Qo MK I EV i.hr (Src.row (off:=0) w8 (λj v hv=>by rw[aM];show([ah .i64 ((a.getD i.i 0-b.getD i.i 0-i.borrow)+1000000000)].toArray)[j]?=some v;rw[List.getElem?_toArray];exact hv) rfl) O O (λu hu=>by rw[List.mem_singleton.1 hu];rfl) (λH g m=>?_);refine wB 2 I<|Qf<|QOo 3 I<|QA (Qk I I O)<|wB 2 I ?_
   exact Qh (⟨i.i+1,i.out++[((a.getD i.i 0-b.getD i.i 0-i.borrow)+1000000000)],1,H,g,O,by simp[d],i.dg.append (DG.cons (wg<|QOW o) (by have:=QOW o;rw[h9];omega) (DG.nil _)),wj,wj,ug d i.h (by rw[h9];omega),by simpa[JJ]using m⟩:QCP a b) (by show a.length-(i.i+1)<a.length-i.i;omega) wW QNG λF h=>h.1.1
  refine QOn 5 I<|JC I (Jc Qd) Qo MK I I λY=>?_
  refine Z1 (bs1:=[]) (ob:=i.ob) (k:=1) (sz:=1) (news:=[.int .i64 (a.getD i.i 0-b.getD i.i 0-i.borrow)]) I I Qd Qo MK I EV i.hr (Src.row (off:=0) w8 (λj v hv=>by rw[aM];show([ah .i64 (a.getD i.i 0-b.getD i.i 0-i.borrow)].toArray)[j]?=some v;rw[List.getElem?_toArray];exact hv) rfl) O O (λu hu=>by rw[List.mem_singleton.1 hu];rfl) (λH g m=>?_);refine wB 2 I<|Qf<|QOo 3 I<|QA (Qk I I O)<|wB 2 I ?_
  exact Qh (⟨i.i+1,i.out++[(a.getD i.i 0-b.getD i.i 0-i.borrow)],0,H,g,O,by simp[d],i.dg.append (DG.cons (wg<|QOX o) (by have:=QOX o;rw[h9];omega) (DG.nil _)),wj,wj,ug d i.h (by rw[h9];omega),by simpa[JJ]using m⟩:QCP a b) (by show a.length-(i.i+1)<a.length-i.i;omega) wW QNG λF h=>h.1.1
 refine Q7 ?_;refine QG ?_;obtain⟨r,hv,x,hrc,z⟩:=Q2.fix (w0:=w) (F0:=F) (bs1:=[]) (G:=λF=>JG F ⟨q,n,c⟩ a/\JG F rb b) i.hr;have L:i.i=a.length:=wg<|QOX hc
 have hlz:=Xc i.out;refine P5 z ?_;rw[hv];refine wA 2 I<|QL I (λ_ _ f k=>Wx (r:=r) (l:=i.out) f ⟨by rw[x];exact k.2,x.symm,O⟩ O) λc34=>wQ I<|QW ?_
 exact QO ((⟨r.q,(Q3 i.out).length,r.cap⟩,Q3 i.out):Sr×List Int) rfl (wN I) rfl λF h=>⟨h.2,i.dg.Q3,by show dv B9 (Q3 i.out)=_;rw[XB];exact vr i.dg O lb (by have e:=i.h;rw[L]at e;exact e) X U K,Xa _,by show(Q3 i.out).length<=_;omega⟩
theorem Yz.one{l:List Value}{v:Value}:∀ {n:Nat},n<l.length->Yz l n [v] (l.set n v):=by
 induction l with
 |nil=>simp
 |cons x l ih =>
  intro n h;cases n with
  |zero=>exact .here .nil
  |succ n=>exact .skip (ih (by simp_all))
def HZ(la lb:List Int)(i j:Nat)(x:Int)(o:List Int)(c:Int):Prop :=
 o.length=la.length+lb.length/\DG B9 o/\(∀p,i+lb.length<=p->Qg o p=0)/\(0<=c/\c<B9) /\
  dv B9 o+B9^(i+j)*c=dv B9 (la.take i)*dv B9 lb+B9^i*(x*dv B9 (lb.take j))
def Q8:(0:Int)<B9:=wj
theorem OC{x y o c:Int}(hx:0<=x/\x<B9)(hy:0<=y/\y<B9)(a:0<=o/\o<B9)(hc:0<=c/\c<B9):0<=x*y/\x*y<=999999998000000001/\0<=o+x*y+c/\(o+x*y+c)/B9<B9:=by
 have h9:B9=1000000000:=rfl;have h0:=fA hx.1 hy.1;have h1:x*y<=(B9-1)*(B9-1):=Int.mul_le_mul O O hy.1 O
 grind
theorem HZ.step{o:List Int}{x c s:Int}(h:HZ la lb i j x o c)(hx:0<=x/\x<B9)(hb:DG B9 lb)(k:j<lb.length)(hi:i<la.length)(d:s=Qg o (i+j)+x*Qg lb j+c):
  HZ la lb i (j+1) x (o.set (i+j) (s%B9)) (s/B9):=by
 obtain⟨h1,h2,h3,h4,h5⟩:=h;obtain⟨g,f,b,a⟩:=OC hx (hb.Qg Q8 j) (h2.Qg Q8 _) h4;rw[<-d]at b a;refine⟨by simp_all,h2.set _ (bA _ wj) (aZ _ Q8),?_,⟨iK b wj,a⟩,?_⟩
 ·intro p hp;rw[WD O,if_neg O];simp_all
 rw[G7 B9 O,Ve,<-ey,bY]
 grind[B9,fQ,Qg,fU]
theorem HZ.row{o:List Int}{x c:Int}(h:HZ la lb i lb.length x o c)(hi:i<la.length)(hx:x=Qg la i):
  HZ la lb (i+1) 0 0 (o.set (i+lb.length) c) 0:=by
 obtain⟨h1,h2,h3,h4,h5⟩:=h;refine⟨by simp_all,h2.set _ h4.1 h4.2,?_,⟨fW _,Q8⟩,?_⟩
 ·intro p hp;rw[WD O,if_neg O];grind
 rw[G7 B9 O,h3 _ (aG _),Ve,<-hx]
 grind
def HZ.start(la lb:List Int):HZ la lb 0 0 0 (ee (la.length+lb.length) 0) 0:=by
 refine⟨wu,DG.replicate Q8 _,?_,⟨fW _,Q8⟩,by simp[Pa]⟩;simp[Qg]
theorem HZ.next{o:List Int}(h:HZ la lb i 0 0 o 0)(x:Int):HZ la lb i 0 x o 0:=by
 obtain⟨h1,h2,h3,h4,h5⟩:=h;exact⟨h1,h2,h3,h4,by simp_all⟩
theorem HZ.stop{o:List Int}(h:HZ la lb i 0 0 o 0)(hi:la.length<=i):dv B9 o=dv B9 la*dv B9 lb:=by
 have e:=h.2.2.2.2
 grind[ak]
end Go.Proofs.YtogkbhegfnklhaaGreatDoor
