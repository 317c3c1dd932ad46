/- Steps of the proof of the theorem in the last file. -/
import Derived.Test.YteldggljlnakmaaGreatDoorP0
import Derived.StillTailTactics
import Derived.BigRegion
import Derived.Deep.DeepCutAuto
import Derived.Deep.CutBlock
import Derived.Lib.AppendStr
import Derived.Lib.Builder
import Derived.Shelf.Strings.Builder1
import Derived.Test.YteldggljlnakmaaGreatDoorChecked
import Derived.Lib.Walk
import Derived.Lib.ItoaMem
import Derived.WalkKit
import Derived.BigCall
import Derived.BigGuard
import Derived.Lib.ItoaNum
import Derived.Lib.Atoi
import Derived.Lib.Repeat
import Derived.Lib.IndexMore
import Derived.Lib.IndexBytes
set_option linter.all false
set_option maxHeartbeats 4000000
open Go.Proofs.Tryz
namespace Go.Proofs.YteldggljlnakmaaGreatDoor
variable{w w':World}{N b cap i j k off:Nat}{q:Option Addr}{l la lb:List Int}{a s:List UInt8}{z:Int}{x y:Operand}{F F':Gs}{P:Program}{f:FuncId}{args cs olds vs:List Value}{γ:Type}{T e ty yT:TypeId}{vh:Option Value}{bs' ob:List (Nat×Obj)}{G0:Gs->Prop}{fn:Func}{c:UInt8}{aft:Array Edge}{E':Env}{m:Sl}
open Go.RowKit Ig
structure WH(w:World)(u v pre post:List Int)(n j B bv ov:Nat):Prop where
 hB:YX w B 201 Ja (pre++(u++post))
 hv:Cells w (some ⟨bv,ov,none⟩) Ja v
def WH.ext{u v pre post:List Int}{n B bv ov:Nat}(h:WH w u v pre post n j B bv ov)(k:Ext w w'):WH w' u v pre post n j B bv ov :=
 ⟨h.hB.ext k,h.hv.ext k⟩
theorem WH.atu{u v pre post:List Int}{n B bv ov:Nat}(h:WH w u v pre post n j B bv ov)(hj:pre.length=j)(i:Nat)(hi:i<u.length):
  w.cell? ⟨B,j+i,none⟩=some (.int .u64 (Qc u i)):=by
 have h1:=h.hB.cell (i:=j+i) tA;have e:(pre++(u++post)).getD (j+i) default=Qc u i:=by
  rw[ZY hi];subst hj;simp only[List.getD];rw[List.getElem?_append_right O,Nat.add_sub_cancel_left,List.getElem?_append_left hi,List.getElem?_eq_getElem hi];rfl
 rw[e]at h1;exact h1
theorem WH.atv{u v pre post:List Int}{n B bv ov:Nat}(h:WH w u v pre post n j B bv ov)(i:Nat)(hi:i<v.length):
  w.cell? ⟨bv,ov+i,none⟩=some (.int .u64 (Qc v i)):=by
 obtain⟨b,o,e,_,hc⟩:=h.hv i hi;cases e;rw[Zt hi]at hc;exact hc
set_option maxRecDepth 100000 in
set_option maxHeartbeats 4000000 in
theorem Ow(u v pre post:List Int)(n j B capu capv bv ov:Nat)(w:World)(h:WG u v n)(hj:pre.length=j)(hmax:n<=100000000000)
  (hM:WH w u v pre post n j B bv ov) (hne:bv≠B) :
  Calls prog 210 #[.slice (some ⟨B,j,none⟩) (n+3) capu,.slice (some ⟨bv,ov,none⟩) (n+2) capv] w λe w' =>
   (e = .returned (.int .u64 (dv W u/dv W v))/\∃u',YX w' B 201 Ja (pre++(u'++post))/\u'.length=n+3/\DG W u'/\dv W u'=dv W u%dv W v)/\BR B w w':=by
 have hlu:=Lib.hid h.lu;have hlv:=Lib.hid h.lv;have HJ:=Lib.hid hj;clear hj;have hw1:IntKind.i64.wrap ((n:Int)+2-1)=(n:Int)+1:=by rw[show(n:Int)+2-1=(n:Int)+1 from by omega];exact IntWalk.i64_in _ O
 have ht1:((n:Int)+1).toNat=n+1:=O;have h01:0<=(n:Int)+1:=O;have h02:(n:Int)+1<(n:Int)+2:=O;have ht2:((n:Int)+2).toNat=n+2:=O;have h03:0<=(n:Int)+2:=O;have h04:(n:Int)+2<(n:Int)+3:=O;have h05:(n:Int)+1<(n:Int)+3:=O;have hu2:=hM.atu HJ.out (n+2) (wm hlu.out);have hu1:=hM.atu HJ.out (n+1) (wm hlu.out);have hv1:=hM.atv (n+1) (wm hlv.out);have du1:=JW h.hu (n+1);have du2:=JW h.hu (n+2);have dv1:=JW h.hv (n+1);go_enter func210,ntmps210
 go_wp2_with fail
 go_quiet (fail)
 go_upto_if 30 with (fail)
 go_cut [6,7,8] λq r o wx=>∃qq rr oo,q = .int .u64 qq/\r = .int .u64 rr/\o = .int .u64 oo/\YB u v n qq rr oo/\Ext w wx
 case first =>
  by_cases hge:Qc v (n+1)<=Qc u (n+2)
  ·have HG:=Lib.hid (Vo.CX h hge);have ha:=λw=>Ye (Qc u (n+1)) (Qc v (n+1)) 0 du1.1 dv1.1 wv wv w;go_wp2
   go_quiet (fail)
   go_wp2
   go_meet
   exact⟨_,_,_,rfl,rfl,rfl,HG.out,(((Ext.refl w).drewN _).drewN _)⟩
  have HG:=Lib.hid (Vo.CY h O);have hdy:Qc v (n+1)<W:=dv1.2;have hdh:0<=Qc u (n+2)/\Qc u (n+2)<Qc v (n+1):=⟨du2.1,O⟩;go_wp2
  go_region_held3 (λw'=>w'.cell? ⟨B,j+(n+2),none⟩=some (.int .u64 (Qc u (n+2)))/\w'.cell? ⟨B,j+(n+1),none⟩=some (.int .u64 (Qc u (n+1)))/\w'.cell? ⟨bv,ov+(n+1),none⟩=some (.int .u64 (Qc v (n+1))))
   (first | go_keep | exact⟨hx.cell hu2,hx.cell hu1,hx.cell hv1⟩)
   (first | (go_at_call 206;refine(Sd _ _ _ _ hdh du1 hdy).mono ?_;rintro e w' ⟨rfl,hx⟩))
  go_wp2
  go_meet
  exact⟨_,_,_,rfl,rfl,rfl,HG.out,((Ext.refl w).drewN _).trans hx⟩
 case rest =>
  obtain⟨q1,r1,o1,rfl,rfl,rfl,hG,hE⟩:=hcut;have HM0:=Lib.hid hM;clear hu2 hu1 hv1 du1 du2 hM;go_upto_block 0 with (fail)
  go_cut [6] λq wx=>∃qq,q = .int .u64 qq/\(0<=qq/\qq<W)/\((qq-1)*dv W v<=dv W u/\dv W u<(qq+1)*dv W v)/\Ext w wx
  case first =>
   have hw2:IntKind.i64.wrap ((n:Int)+2-2)=(n:Int):=by rw[show(n:Int)+2-2=(n:Int)from by omega];exact IntWalk.i64_in _ O
   have hn0:(0:Int)<=(n:Int):=O;go_wp2_with fail
   go_loopw [6,7,8] (λq r o wr=>∃qq rr oo,q = .int .u64 qq/\r = .int .u64 rr/\o = .int .u64 oo/\YB u v n qq rr oo/\Ext w wr) λ_ r o _=>(2*W-(intOf r+W*intOf o)).toNat
   case atStart=>exact⟨_,_,_,rfl,rfl,rfl,hG,hE⟩
   case round =>
    clear hG hE;obtain⟨qq,rr,oo,rfl,rfl,rfl,hG,hE⟩:=hrel;obtain⟨g1,g2,g3,g4,g5⟩:=id hG;have HG:=Lib.hid hG;clear hG g4 g5;by_cases ho:oo=0
    ·subst ho;have hM:=HM0.out.ext hE;have hv0:=hM.atv n (wm hlv.out);have hv1:=hM.atv (n+1) (wm hlv.out);have hu0:=hM.atu HJ.out n (wm hlu.out);have dv0:=JW h.hv n;have du0:=JW h.hu n;have e1:Jv qq (Qc v n)+W*Xz qq (Qc v n)=qq*Qc v n:=by unfold Jv Xz;rw[Int.add_comm];exact Int.mul_ediv_add_emod _ _
     have l0:0<=Jv qq (Qc v n)/\Jv qq (Qc v n)<W:=⟨Int.emod_nonneg _ wv,Int.emod_lt_of_pos _ Ji⟩;have HY:Hid (qq*Qc v n<=rr*W+Qc u n->(qq-1)*dv W v<=dv W u/\dv W u<(qq+1)*dv W v):=λhy=>HG.out.fin h (λ_=>hy);have HN:Hid (rr*W+Qc u n<qq*Qc v n->YB u v n (qq-1) (XN rr (Qc v (n+1)) 0) (Xx rr (Qc v (n+1)) 0)):=λhy=>HG.out.less h hy;have hq1:Hid (rr*W+Qc u n<qq*Qc v n->1<=qq):=λhy=>by
      have:=(HN.out hy).1;omega
     have hnz:=h.nz;have hq2:qq<=18446744073709551615:=by have:=g1.2;simp only[GH]at this;omega
     have hme:Hid (2*W-(XN rr (Qc v (n+1)) 0+W*Xx rr (Qc v (n+1)) 0)<2*W-(rr+W*0)):=by
      have:=(GG g2 dv1 (by decide:(0:Int)<=0/\(0:Int)<=1)).1;show _<_;omega
     have hme2:Hid (0<2*W-(rr+W*0)):=by show _<_;omega
     have ha:=λw=>Ye rr (Qc v (n+1)) 0 g2.1 dv1.1 wv wv w;generalize hmy:Xz qq (Qc v n)=mh at *
     generalize hml:Jv qq (Qc v n)=ml at *
     have HMH:=Lib.hid hmy;have HML:=Lib.hid hml;have E1:Hid (qq*Qc v n=ml+W*mh):=e1.symm;clear hmy hml e1;have cmpY:Hid (mh<rr->qq*Qc v n<=rr*W+Qc u n):=λhh=>by
      have:W*(mh+1)<=W*rr:=Int.mul_le_mul_of_nonneg_left O wv;rw[E1.out];grind
     have cmpY2:Hid (mh=rr->ml<=Qc u n->qq*Qc v n<=rr*W+Qc u n):=λhh hl=>by
      rw[E1.out,hh];grind
     have cmpN:Hid (rr<mh->rr*W+Qc u n<qq*Qc v n):=λhh=>by
      have:W*(rr+1)<=W*mh:=Int.mul_le_mul_of_nonneg_left O wv;rw[E1.out];grind
     have cmpN2:Hid (mh=rr->Qc u n<ml->rr*W+Qc u n<qq*Qc v n):=λhh hl=>by
      rw[E1.out,hh];grind
     rcases Int.lt_trichotomy mh rr with g | g | g
     ·have HF:=Lib.hid (HY.out (cmpY.out g));go_wp2_with (go_at_call 144;refine(YN _ _ _ g1 dv0).mono ?_;rw[HMH.out,HML.out];rintro e w' ⟨rfl,rfl⟩)
      go_meet
      exact⟨_,rfl,HG.out.1,HF.out,hE⟩
     ·have gb:(mh==rr)=true:=by simpa using g
      have gl:rr<=mh:=O;have G:=Lib.hid g;clear g;by_cases hl:ml<=Qc u n
      ·have HF:=Lib.hid (HY.out (cmpY2.out G.out hl));go_wp2_with (go_at_call 144;refine(YN _ _ _ g1 dv0).mono ?_;rw[HMH.out,HML.out];rintro e w' ⟨rfl,rfl⟩)
       go_meet
       exact⟨_,rfl,HG.out.1,HF.out,hE⟩
      have hl':Qc u n<ml:=O;have HF:=Lib.hid (HN.out (cmpN2.out G.out hl'));have hq1:=hq1.out (cmpN2.out G.out hl');clear hl;go_wp2_with (go_at_call 144;refine(YN _ _ _ g1 dv0).mono ?_;rw[HMH.out,HML.out];rintro e w' ⟨rfl,rfl⟩)
      go_roundw
      case rel=>exact⟨_,_,_,rfl,rfl,rfl,HF.out,hE⟩
      case measure=>have:=hme.out;have:=hme2.out;simp only[intOf];omega
     have HF:=Lib.hid (HN.out (cmpN.out g));have hq1:=hq1.out (cmpN.out g);have gb:(mh==rr)=false:=tA;go_wp2_with (go_at_call 144;refine(YN _ _ _ g1 dv0).mono ?_;rw[HMH.out,HML.out];rintro e w' ⟨rfl,rfl⟩)
     go_roundw
     case rel=>exact⟨_,_,_,rfl,rfl,rfl,HF.out,hE⟩
     case measure=>have:=hme.out;have:=hme2.out;simp only[intOf];omega
    have ho1:(oo==0)=false:=by simpa using ho
    have HF:=Lib.hid (HG.out.fin h λe=>absurd e ho);go_wp2
    go_meet
    exact⟨_,rfl,HG.out.1,HF.out,hE⟩
  case rest =>
   clear hG hE;obtain⟨qq,rfl,hq,hF,hE⟩:=hcut;have HF:=Lib.hid hF;have HB0:=Lib.hid (HM0.out.ext hE).hB;have HU0:Hid (BR B w _):=(BR.refl B w).ext hE;clear hF hE dv1 h05 h02 h04;go_wp2
   go_loopw [105,11,12] (λi b c wr=>∃(k:Nat) (ds:List Int) (bb cc:Int),k<=n+2/\i = .int .i64 k/\b = .int .u64 bb/\c = .int .u64 cc/\Dt u v qq k ds bb cc/\YX wr B 201 Ja (pre++((ds++u.drop k)++post))/\BR B w wr)
    (λi _ _ _=>n+2-(intOf i).toNat)
   case atStart=>exact⟨0,[],0,0,O,rfl,rfl,rfl,Dt.start u v qq,HB0.out,HU0.out⟩
   case round =>
    clear HB0 HU0;obtain⟨k,ds,bb,cc,hk,rfl,rfl,rfl,hI,hB,hU⟩:=hrel;by_cases hlt:k<n+2
    ·have hst:=hI.step h.hu h.hv hq;obtain⟨hd1,hd2,hd3,hd4,hd5⟩:=hI;have HD1:=Lib.hid hd1;have hvk:=hU.cell (p:=⟨bv,ov+k,none⟩) hne (HM0.out.atv k (wm hlv.out));rw[XC (wm hlu.out)]at hB;have hcell:=hB.cell (Im HJ.out HD1.out);rw[Io HJ.out HD1.out]at hcell;simp only[Ja]at hcell;have hfr:=hB.frozen (j+k);have hBs:=hB.set (j+k) (Zp (Qc u k) (XN (Jv qq (Qc v k)) cc 0) bb);rw[Mo HJ.out HD1.out,List.append_cons ds]at hBs;have HBs:=Lib.hid hBs;have HS:=Lib.hid hst;have hy:=JW h.hv k;have hx:=JW h.hu k;obtain⟨_,g2,g3,g4,g5,_,_⟩:=Mn hq hy hd4 (by decide:(0:Int)<=0/\(0:Int)<W);clear hd1 hd5 hB hBs hst;generalize hmy:Xz qq (Qc v k)=mh at *
     generalize hml:Jv qq (Qc v k)=ml at *
     have HMH:=Lib.hid hmy;have HML:=Lib.hid hml;clear hmy hml;have ha1:=λw=>Ye ml cc 0 g2.1 hd4.1 wv wv w;have ha2:=λw=>Ho (Qc u k) (XN ml cc 0) bb hx g3 hd3 w;have b1:0<=mh+Xx ml cc 0:=g4.1;have b2:mh+Xx ml cc 0<=18446744073709551615:=by have:=g4.2;simp only[GH]at this;omega
     go_wp2_with (go_at_call 144;refine(YN _ _ _ hq hy).mono ?_;rw[HMH.out,HML.out];rintro e w' ⟨rfl,rfl⟩)
     go_roundw
     case rel=>exact⟨k+1,_,_,_,O,by go_num,rfl,rfl,HS.out,HBs.out,hU.setCell _ _⟩
     case measure=>simp[intOf];omega
    have hk':k=n+2:=O;subst hk';have HI:=Lib.hid hI;obtain⟨hd1,hd2,hd3,hd4,hd5⟩:=hI;have HD1:=Lib.hid hd1;rw[XC (wm hlu.out)]at hB;have hcell:=hB.cell (Im HJ.out HD1.out);rw[Io HJ.out HD1.out]at hcell;simp only[Ja]at hcell;have hfr:=hB.frozen (j+(n+2));have hBs:=hB.set (j+(n+2)) (Zp (Qc u (n+2)) cc bb);rw[Mo HJ.out HD1.out,List.drop_eq_nil_of_le (wm hlu.out)]at hBs;have HBs:=Lib.hid hBs;have hx:=JW h.hu (n+2);have hs:=(DI hx hd4 hd3).2;have ha2:=λw=>Ho (Qc u (n+2)) cc bb hx hd4 hd3 w;clear hd1 hd5 hB hBs;have hs3:=hs.2;have hs2:=hs.1;clear hs;by_cases hb0:V5 (Qc u (n+2)) cc bb=0
    ·have hR:=xv h HI.out HF.out hb0;have HR:=Lib.hid hR;have hbb:(V5 (Qc u (n+2)) cc bb==0)=true:=by simpa using hb0
     clear hR hb0;go_wp2
     go_ret
     exact⟨⟨congrArg (λx=>Ending.returned (.int .u64 x)) HR.out.2.1,_,HBs.out,by simp[HD1.out],HR.out.1,HR.out.2.2⟩,hU.setCell _ _⟩
    have hb1:V5 (Qc u (n+2)) cc bb=1:=O;have hbb:(V5 (Qc u (n+2)) cc bb==0)=false:=by simpa using hb0
    have HB1:=Lib.hid hb1;clear hb0 hb1;have HU1:Hid (BR B w _):=hU.setCell (j+(n+2)) (Ja (Zp (Qc u (n+2)) cc bb));have hdL:DG W (ds++[Zp (Qc u (n+2)) cc bb]):=hd2.append (DG.cons hs2.1 hs2.2 (DG.nil _));go_wp2
    go_loopw [157,17] (λi c wr=>∃(k:Nat) (es:List Int) (c2:Int),k<=n+2/\i = .int .i64 k/\c = .int .u64 c2/\Ed ds v k es c2/\YX wr B 201 Ja (pre++((es++(ds++[Zp (Qc u (n+2)) cc bb]).drop k)++post))/\BR B w wr)
     (λi _ _=>n+2-(intOf i).toNat)
    case atStart=>exact⟨0,[],0,O,rfl,rfl,⟨rfl,DG.nil _,wv,w9⟩,HBs.out,HU1.out⟩
    case round =>
     clear HU1 HBs hcell hfr hU ha2;obtain⟨k,es,c2,hk,rfl,rfl,hA,hB,hU⟩:=hrel;have HA:=Lib.hid hA;obtain⟨he1,he2,he3,he4⟩:=hA;have HE1:=Lib.hid he1;clear he1 he4;have hll:(ds++[Zp (Qc u (n+2)) cc bb]).length=n+3:=by simp[HD1.out]
     rw[XC O]at hB;have HLL:=Lib.hid hll;clear hll;have hcell:=hB.cell (Im HJ.out HE1.out);rw[Io HJ.out HE1.out]at hcell;simp only[Ja]at hcell;have hfr:=hB.frozen (j+k);by_cases hlt:k<n+2
     ·have hvk:=hU.cell (p:=⟨bv,ov+k,none⟩) hne (HM0.out.atv k (wm hlv.out));have hek:Hid (Qc (ds++[Zp (Qc u (n+2)) cc bb]) k=Qc ds k):=by
       have h1:k<ds.length:=wm HD1.out;show _=_;rw[ZY (wm HLL.out),ZY h1,List.getElem_append_left h1]
      rw[hek.out]at hcell hB;have hBs:=hB.set (j+k) (XN (Qc ds k) (Qc v k) c2);rw[Mo HJ.out HE1.out,List.append_cons es]at hBs;have HBs:=Lib.hid hBs;have HS:=Lib.hid (HA.out.step hd2 h.hv);have hx:=JW hd2 k;have hy:=JW h.hv k;have ha1:=λw=>Ye (Qc ds k) (Qc v k) c2 hx.1 hy.1 he3.1 he3.2 w;have hk0:(0:Int)<=(k:Int):=O;have hk1:(k:Int)<(n:Int)+2:=O;have hk2:(k:Int)<(n:Int)+3:=O;clear hBs hB;go_wp2
      go_region
      go_wp2
      go_roundw
      case rel=>exact⟨k+1,_,_,O,by go_num,rfl,HS.out,HBs.out.drew,(hU.setCell _ _).drew⟩
      case measure=>simp[intOf];omega
     have hk':k=n+2:=O;subst hk';have hR:=gV h HI.out HF.out HB1.out HA.out;have HR:=Lib.hid hR;clear hR;have hek:Hid (Qc (ds++[Zp (Qc u (n+2)) cc bb]) (n+2)=Zp (Qc u (n+2)) cc bb):=by
      show _=_;rw[ZY (wm HLL.out)];simp[HD1.out]
     rw[hek.out,List.drop_eq_nil_of_le (wm HLL.out)]at hB;rw[hek.out]at hcell;have hBs:=hB.set (j+(n+2)) 0;rw[Mo HJ.out HE1.out]at hBs;have HBs:=Lib.hid hBs;have hq1:1<=qq:=by
      have h0:=Qx Ji h.hu;have h1:=Qx Ji h.hv;have:=Int.ediv_nonneg h0 h1;rw[<-HR.out.1]at this;omega
     have hq2:qq<=18446744073709551615:=by have:=hq.2;simp only[GH]at this;omega
     have hwr:IntKind.u64.wrap (Zp (Qc u (n+2)) cc bb+c2)=0:=by
      rw[HR.out.2.2];decide
     clear hB hBs;go_wp2
     go_ret
     exact⟨⟨congrArg (λx=>Ending.returned (.int .u64 x)) HR.out.1,_,HBs.out,by simp[HE1.out],he2.append (DG.cons (Int.le_refl _) Ji (DG.nil _)),by rw[XW,HR.out.2.1];simp⟩,hU.setCell _ _⟩
theorem Cells.ED{o:Nat}{v:Value}(h:Cells w q Ja l)(hb:∀a,q=some a->a.block≠b):Cells (w.setCell ⟨b,o,none⟩ v) q Ja l:=by
 intro i hi;obtain⟨b',off,h1,h2,h3⟩:=h i hi;exact⟨b',off,h1,h2.set _ _ _,Xh (hb _ h1) h3⟩
theorem Cells.old(h:Cells w q Ja l)(hl:l≠[])(b:Nat)(hb:w.heap.size<=b):∀a,q=some a->a.block≠b:=by
 intro a ha;obtain⟨b',off,h1,h2,_⟩:=h 0 (List.length_pos_iff.2 hl);rw[h1]at ha;cases ha;show b'≠b;have:=h2.lt;omega
def YX.ED{α:Type}{E b' o:Nat}{enc:D5 α}{l:List α}{v:Value}(h:YX w b E enc l)(hb:b≠b'):YX (w.setCell ⟨b',o,none⟩ v) b E enc l:=by
 unfold YX;rw[Below.heap_setCell _ _ _ _ hb];exact h
theorem Ij{n s:Nat}(hb:DG W lb)(hl:lb.length=n+2)(hs:s<64)(h1:Qc lb (n+1)*p2 s<W)(h2:9223372036854775808<=Qc lb (n+1)*p2 s):
  W^(n+1)*9223372036854775808<=dv W lb*p2 s/\dv W lb*p2 s<W^(n+2):=by
 have e:=J6 lb (n+1);rw[List.take_of_length_le (by omega:lb.length<=n+1+1)]at e;have t0:=Qx Ji (hb.take (n+1));have t1:=Z9 Ji (hb.take (n+1));rw[List.length_take,Nat.min_eq_left O]at t1;have hp:=pow_pos Ji (n+1);have hp0:=YK s;have top:(Qc lb (n+1)+1)*p2 s<=W:=by
  have e3:=W6 hs;have:Qc lb (n+1)<p2 (64-s):=by
   refine Int.not_le.1 λhc=>?_;have:=Int.mul_le_mul_of_nonneg_right hc (Int.le_of_lt hp0);omega
  have:=Int.mul_le_mul_of_nonneg_right (show Qc lb (n+1)+1<=p2 (64-s) by omega) (Int.le_of_lt hp0);omega
 constructor
 ·have k1:W^(n+1)*9223372036854775808<=W^(n+1)*(Qc lb (n+1)*p2 s):=Int.mul_le_mul_of_nonneg_left h2 (Int.le_of_lt hp);have k2:0<=dv W (lb.take (n+1))*p2 s:=Int.mul_nonneg t0 (Int.le_of_lt hp0);have e2:dv W lb*p2 s=dv W (lb.take (n+1))*p2 s+W^(n+1)*(Qc lb (n+1)*p2 s):=by rw[e];grind
  omega
 have k1:(dv W (lb.take (n+1))+1)*p2 s<=W^(n+1)*p2 s:=Int.mul_le_mul_of_nonneg_right O (Int.le_of_lt hp0);have k2:W^(n+1)*((Qc lb (n+1)+1)*p2 s)<=W^(n+1)*W:=Int.mul_le_mul_of_nonneg_left top (Int.le_of_lt hp);have e2:dv W lb*p2 s=dv W (lb.take (n+1))*p2 s+W^(n+1)*(Qc lb (n+1)*p2 s):=by rw[e];grind
 rw[Int.pow_succ W (n+1)];have e3:W^(n+1)*((Qc lb (n+1)+1)*p2 s)=W^(n+1)*(Qc lb (n+1)*p2 s)+W^(n+1)*p2 s:=by grind
 rw[Int.add_mul]at k1;omega
set_option maxRecDepth 100000 in
set_option maxHeartbeats 2000000 in
theorem Aw(v v':Value)(la lb:List Int)(n:Nat)(w:World)(ha:DG W la)(hb:DG W lb)(na:NZ la)(nb:NZ lb)(hs:SL w v Ja la)(hs':SL w v' Ja lb)(hge:dv W lb<=dv W la)
  (hn:lb.length=n+2) (h1:la.length<=10000000000) (h2:lb.length<=10000000000) :
  Calls prog 134 #[v,v'] w λe w'=>ZR w (UA (dv W la) (dv W lb)) e w':=by
 have H3:0<=Zb (dv W la) (dv W lb):=Hc hge;have hm:n+2<=la.length:=by
  refine Nat.not_lt.1 λhc=>?_;have:=Xg MX ha hb nb O;omega
 have HS:=Lib.hid hs;obtain⟨q,cap,rfl,hcap,hmax,hca⟩:=hs;have HA:=Lib.hid hca;have HS':=Lib.hid hs';obtain⟨q2,cap2,rfl,hcap2,hmax2,hcb⟩:=hs';have HB:=Lib.hid hcb;obtain⟨bb,ob,rfl,hbb,hcy⟩:=hcb (n+1) O;rw[Zt O]at hcy;simp only[Ja]at hcy;clear hca hcb;have hL:=Lib.hid hn;rw[hn]at HS' hcap2 ⊢;have hyp:0<Qc lb (n+1)/\Qc lb (n+1)<W:=by
  have:=JW hb (n+1);have hz:Qc lb (n+1)≠0:=by
   intro e;apply nb;rw[List.getLast?_eq_getElem?,hn];rw[ZY O]at e;simp[hn,e]
  omega
 clear hn;have hb1:((n:Int)+2==1)=false:=tA;have e57:(n:Int)+2-1=(n:Int)+1:=O;go_enter func134,ntmps134
 go_wp2_with (first | (go_at_call 203;refine(Za _ _ _ _ _ ha hb na nb HS.out HS'.out).mono ?_;rintro e w1 ⟨rfl,hx1⟩;have hcy:=hx1.cell hcy) | (go_at_call 208;fail))
 go_wp2_with fail
 refine(zF _ _ hyp).mono ?_;rintro e w' ⟨⟨s,rfl,hs,hs1,hs2⟩,rfl⟩;have hbv:=Ij hb hL.out hs hs1 hs2;have HBV:=Lib.hid hbv;clear hs1 hs2 hcy hbv;go_wp2_with fail
 refine(Ej s _ lb _ hs hb (HS'.out.ext hx1) O).mono ?_;rintro e w2 ⟨_,rfl,⟨l1,rfl,hB1,hl1,hd1,hv1⟩,hx2⟩;rw[hL.out]at hl1;have hSL1:=SL.G5 hB1 (n+3) O O;rw[List.take_of_length_le O,hl1]at hSL1;have HSL1:=Lib.hid hSL1;rw[hL.out];clear hSL1 hB1 hl1;go_wp2_with fail
 refine(KS _ _ _ HSL1.out).mono ?_;rintro e w' ⟨⟨_,rfl,qv,capv,rfl,hcv1,hcv2,hcv⟩,rfl⟩;have hlv:(Q3 l1).length=n+2:=Ix hd1.Q3 (Xi _) (by rw[XB,hv1];have:=HBV.out.1;have:=Int.mul_le_mul_of_nonneg_left (show(1:Int)<=9223372036854775808 by decide) (Int.le_of_lt (pow_pos Ji (n+1)));omega) (by rw[XB,hv1];exact HBV.out.2);have hdv:DG W (Q3 l1):=hd1.Q3;have hnv:NZ (Q3 l1):=Xi _;have HVV:Hid (dv W (Q3 l1)=dv W lb*p2 s):=by show _=_;rw[XB,hv1]
 generalize Q3 l1=lv at *
 rw[hlv]at hcv1 ⊢;have HLV:=Lib.hid hlv;have HCV:=Lib.hid hcv;clear hv1 hd1 hcv hlv;go_wp2_with fail
 refine(Ej s _ la _ hs ha ((HS.out.ext hx1).ext hx2) O).mono ?_;rintro e w3 ⟨_,rfl,⟨o0,rfl,hB3,hl3,hd3,hv3⟩,hx3⟩;have hmk:=λw=>YE (la.length-(n+2)+1) O w;have ec:((la.length-(n+2)+1:Nat):Int)=(la.length:Int)-((n:Int)+2)+1:=O;simp only[ec]at hmk;clear ec;have hvne:lv≠[]:=by intro e;have:=HLV.out;rw[e]at this;simp at this
 have hne1:=HCV.out.old hvne w2.heap.size (Nat.le_refl _);have hne2:=HCV.out.old hvne w3.heap.size hx3.size;have HSTART:Hid (Vt (dv W la*p2 s) (dv W lb*p2 s) n (la.length-(n+2)+1) la.length o0 []) :=
  Vt.start hl3 hd3 hv3 hs (Z9 Ji ha) HBV.out.1 hm
 have HB3:=Lib.hid hB3;have HX2:Hid (Ext w w2):=hx1.trans hx2;have HXB:=Lib.hid hx3;have hsz:w2.heap.size<w3.heap.size:=hB3.lt;have HN1:=Lib.hid hne1;have HN2:=Lib.hid hne2;clear hB3 hl3 hd3 hv3 hx1 hx2 hx3 hge H3 hne1 hne2;go_wp2
 go_loopw [14] (λi wr=>∃(k:Nat) (o qs:List Int),k<=la.length-(n+2)+1/\i = .int .i64 ((k:Int)-1)/\Vt (dv W la*p2 s) (dv W lb*p2 s) n k la.length o qs /\
   YX wr w2.heap.size 201 Ja o/\YX wr w3.heap.size 201 Ja (List.replicate k 0++qs)/\Cells wr qv Ja lv/\Ext w2 wr)
  (λi _=>(intOf i+1).toNat)
 case atStart=>exact⟨la.length-(n+2)+1,o0,[],Nat.le_refl _,by go_num,HSTART.out,HB3.out.ext ((Ext.refl _).alloc _),by rw[List.append_nil];exact YX.made w3 _ Ja 0 _ _ I,(HCV.out.ext HXB.out).ext ((Ext.refl _).alloc _),HXB.out.alloc _⟩
 case round =>
  clear HSTART hmk HB3 HCV HXB;obtain⟨k,o,qs,hk,rfl,hI,hBU,hBQ,hCV,hE⟩:=hrel;cases k with
  |zero =>
   have HI:=Lib.hid hI;obtain⟨i1,i2,i3,i4,i5,i6⟩:=hI;have HI1:=Lib.hid i1;have HI3:=Lib.hid i3;have HBU:=Lib.hid hBU;have HBQ:Hid (YX _ w3.heap.size 201 Ja qs):=hBQ;clear i1 i3 i5 i6 hBU hBQ hCV;rw[show((0:Nat):Int)-1 = -1 from rfl];go_wp2
   go_loopw [97] (λi wx=>∃(k:Nat) (ds:List Int),k<=n+2/\i = .int .i64 k/\Ky o s k ds/\YX wx w2.heap.size 201 Ja (ds++o.drop k)/\YX wx w3.heap.size 201 Ja qs/\Ext w2 wx)
    (λi _=>n+2-(intOf i).toNat)
   case atStart=>exact⟨0,[],O,rfl,Ky.start o s,HBU.out,HBQ.out,hE⟩
   case round =>
    clear HBU HBQ hE;obtain⟨k,ds,hk,rfl,hS,hBU,hBQ,hE⟩:=hrel;have HBQ:=Lib.hid hBQ;by_cases hlt:k<n+2
    ·have HS:=Lib.hid hS;obtain⟨hd1,hd2,hd3⟩:=hS;have HD1:=Lib.hid hd1;have hkl:k+1<o.length:=wm HI1.out;rw[XC O,XC hkl]at hBU;have hx:=JW i2 k;have hx1:=JW i2 (k+1);have hcell:=hBU.cell (i:=k) tA;have hcell1:=hBU.cell (i:=k+1) tA;have g0:(ds++Qc o k::Qc o (k+1)::List.drop (k+1+1) o).getD k default=Qc o k:=by rw[<-HD1.out];simp[List.getD]
     have g1:(ds++Qc o k::Qc o (k+1)::List.drop (k+1+1) o).getD (k+1) default=Qc o (k+1):=by rw[<-HD1.out];simp[List.getD]
     rw[g0]at hcell;rw[g1]at hcell1;simp only[Ja]at hcell hcell1;have hfr:=hBU.frozen k;have HBU:=Lib.hid hBU;clear hd1 hd3 hBU hBQ g0 g1;have hk0:(0:Int)<=(k:Int):=O;have hk1:(k:Int)<(la.length:Int)+1:=O;have hk2:(k:Int)+1<(la.length:Int)+1:=O;have hk3:(0:Int)<=(k:Int)+1:=O;have hk4:IntKind.i64.wrap ((k:Int)+1)=(k:Int)+1:=IntWalk.i64_in _ O;have hk5:((k:Int)+1).toNat=k+1:=O;have hk6:IntKind.i64.wrap (64-(s:Int))=64-(s:Int):=IntWalk.i64_in _ O;have hk7:(64-(s:Int)).toNat=64-s:=O;have hk8:¬(64-(s:Int)<0):=O;by_cases hs0:0<s
     ·have hs1:(0:Int)<(s:Int):=O;go_wp2
      go_region
      go_wp2
      go_roundw
      case rel =>
       refine⟨k+1,ds++[Qc o k/p2 s+Qc o (k+1)*p2 (64-s)%W],O,by go_num,HS.out.step i2 hs hs0,?_,(HBQ.out.ED O).ED O,((hE.Xv w9 _).Xv w9 _).drew⟩;have b:=Ll hs hx;obtain⟨b1,_⟩:=TS (x:=Qc o (k+1)) (s:=64-s) O b.1 b.2;rw[Nk,show Qc o k/2^s=Qc o k/p2 s from rfl,b1];have h1:=HBU.out.set k (Qc o k/p2 s);rw[Hn _ _ _ _ _ HD1.out]at h1;have h2:=h1.set k (Qc o k/p2 s+Qc o (k+1)*p2 (64-s)%W);rw[Hn _ _ _ _ _ HD1.out,List.append_cons ds,<-XC hkl]at h2;exact h2.drew
      case measure=>simp[intOf];omega
     have hs9:s=0:=O;have HS0:Hid (Ky o s (k+1) (ds++[Qc o k/p2 s])):=by subst hs9;exact HS.out.jd i2
     clear hs9;go_wp2
     go_roundw
     case rel =>
      refine⟨k+1,ds++[Qc o k/p2 s],O,by go_num,HS0.out,?_,HBQ.out.ED O,hE.Xv w9 _⟩;have h1:=HBU.out.set k (Qc o k/p2 s);rw[Hn _ _ _ _ _ HD1.out,List.append_cons ds,<-XC hkl]at h1;exact h1
     case measure=>simp[intOf];omega
    have hk':k=n+2:=O;subst hk';have hvp:0<dv W lb:=by
     have h7:=HBV.out.1;have h8:=pow_pos Ji (n+1);refine Int.not_le.1 λhc=>?_;have:=Int.mul_le_mul_of_nonneg_right hc (Int.le_of_lt (YK s));omega
    have HF:=Lib.hid (dz HI.out hs hvp HBV.out.2 hm hS);obtain⟨hd1,hd2,hd3⟩:=hS;have hq1:qs.length=la.length-(n+2)+1:=wm HI3.out;have hSq:=SL.G5 HBQ.out (la.length-(n+2)+1) O O;have hSr:=SL.G5 hBU (n+2) tA (by simp;have:=HI1.out;omega);rw[List.take_of_length_le O,hq1]at hSq;rw[List.take_append_of_le_length O,List.take_of_length_le O]at hSr;have hol:(ds++List.drop (n+2) o).length=la.length+1:=by simp;have:=HI1.out;omega
    rw[hol]at hSr;have HSq:=Lib.hid hSq;have HSr:=Lib.hid hSr;have hn0:(0:Int)<=(n:Int)+2:=O;have hn1:(n:Int)+2<=(la.length:Int)+1:=O;have hn2:((n:Int)+2).toNat=n+2:=O;clear hd1 hd3 hBU hBQ hSq hSr hq1 hol;go_wp2
    go_region_held3 (λ_=>True) (trivial) (first | (go_at_call 207;(with_reducible refine(KS _ _ _ (HSq.out.ext (Ext.refl _).drew)).mono ?_);rintro e w' ⟨⟨v1,rfl,hv1⟩,rfl⟩) | (go_at_call 207;(with_reducible refine(KS _ _ _ (HSr.out.ext (Ext.refl _).drew)).mono ?_);rintro e w' ⟨⟨v2,rfl,hv2⟩,rfl⟩))
    go_wp2
    go_ret2
    exact⟨_,rfl,⟨v1,v2,_,_,rfl,hv1,hv2,⟨i4.Q3,Xi _⟩,⟨hd2.Q3,Xi _⟩,by rw[XB];exact HF.out.1,by rw[XB];exact HF.out.2⟩,(HX2.out.trans hE).drew⟩
  |succ k =>
   obtain⟨pre,u,post,rfl,lj,hst,hpost,lpost,hjm⟩:=hI.QAL hdv HLV.out (by
    have:=JW hdv (n+1);have hz:Qc lv (n+1)≠0:=by
     intro e;apply hnv;rw[List.getLast?_eq_getElem?,HLV.out];rw[ZY (wm HLV.out)]at e;simp[HLV.out,e]
    omega) HVV.out hm
   have HI:=Lib.hid hI;have LJ:=Lib.hid lj;have HBQ:=Lib.hid hBQ;have e1:((k+1:Nat):Int)-1=(k:Int):=O;have hwin:Hid (k+n+2<=la.length):=hjm;have hk3:(k:Int)+((n:Int)+2)+1<=(la.length:Int)+1:=O;obtain⟨bq,oq,rfl,_,_⟩:=hCV 0 (wm HLV.out);have HCV:=Lib.hid hCV;have HBU:=Lib.hid hBU;clear hI lj hBQ hjm lpost hCV hBU;rw[e1];clear e1;go_wp2_with fail
   rw[show k+(n+2)+1-k=n+3 from by omega];refine(Ow u lv pre post n k _ _ _ bq oq _ hst LJ.out O ⟨HBU.out,HCV.out⟩ (HN1.out _ I)).mono ?_;rintro e w4 ⟨⟨rfl,u',hB',lu',du',vu'⟩,hU⟩;have hBQ4:=hU.Dm O HBQ.out;have hlen:k<(List.replicate (k+1) (0:Int)++qs).length:=tA;have hcell:=hBQ4.cell hlen;have hz:(List.replicate (k+1) (0:Int)++qs).getD k default=0:=by simp[List.getD,List.getElem?_append_left]
   rw[hz]at hcell;simp only[Ja]at hcell;have hfr:=hBQ4.frozen k;have hBs:=hBQ4.set k (dv W u/dv W lv);rw[Ul]at hBs;have HBs:=Lib.hid hBs;have hvp:0<dv W lb*p2 s:=by have:=HBV.out.1;have:=pow_pos Ji (n+1);omega
   have HQL:Hid (dv W u/dv W lv<W):=by
    refine Int.ediv_lt_of_lt_mul (by rw[HVV.out];exact hvp) ?_;exact hst.lt
   have HST:=Lib.hid (HI.out.step LJ.out hst.lu du' lu' HVV.out hvp hpost HQL.out (Qx Ji hst.hu) vu');have HB':=Lib.hid hB';have HU:=Lib.hid hU;clear hBs hBQ4 hB' hU hz hlen vu';go_wp2
   go_roundw
   case rel=>exact⟨k,_,_,O,by go_num,HST.out,HB'.out.ED O,HBs.out,(HU.out.cells HN1.out HCV.out).ED HN2.out,(HU.out.QAP hE (Nat.le_refl _)).Xv tA _⟩
   case measure=>simp[intOf]
theorem LD(v v':Value)(la lb:List Int)(w:World)(ha:DG W la)(hb:DG W lb)(na:NZ la)(nb:NZ lb)(hs:SL w v Ja la)(hs':SL w v' Ja lb)(hb0:lb≠[])
  (h1:la.length<=10000000000) (h2:lb.length<=10000000000) :
  Calls prog 134 #[v,v'] w λe w'=>ZR w (UA (dv W la) (dv W lb)) e w':=by
 by_cases hlt:dv W la<dv W lb
 ·exact Ax v v' la lb w ha hb na nb hs hs' hlt
 match lb,hb,nb,hs',hb0,hlt,h2 with
 |[y],hb,nb,hs',_,hlt,_ =>
  have e:dv W [y]=y:=w9;rw[e]at hlt ⊢;have hy:=hb.head;have hy0:y≠0:=by intro e;subst e;exact nb rfl
  obtain⟨q',cap',e',_⟩:=id hs';subst e';exact LC v q' cap' la y w ha ⟨O,hy.2⟩ na hs hs' O O
 |x::y::l,hb,nb,hs',_,hlt,h2=>exact Aw v v' la (x::y::l) l.length w ha hb na nb hs hs' O rfl h1 h2
theorem Yo.sign{s:Int}{n:Nat}(h:Yo w s q n cap z):s<0↔z<0:=by
 rcases h with ⟨_,_,_,rfl,_⟩ | ⟨b,off,l,_,_,_,_,_,_,_,_,h,hz,hb⟩
 ·exact Iff.rfl
 rcases h with rfl | rfl<;>omega
def Bx.cD(w:World)(o:Obj)(T:TypeId)(c:Array Value):Bx ((w.alloc o).alloc (.cells c T)) (w.heap.size+1) T c.toList:=by
 have:=Bx.new (w.alloc o) T c;simpa using this
def Bx.xx(w:World)(o o':Obj)(T:TypeId)(c:Array Value):Bx (((w.alloc o).alloc (.cells c T)).alloc o') (w.heap.size+1) T c.toList:=(Bx.cD w o T c).alloc o'
def Bx.OE(w:World)(o o':Obj)(T:TypeId)(c:Array Value):Bx (((w.alloc o).alloc o').alloc (.cells c T)) (w.heap.size+1+1) T c.toList:=by
 have:=Bx.new ((w.alloc o).alloc o') T c;simpa using this
def Bx.I5(w:World)(o o':Obj)(T:TypeId)(c:Array Value):Bx (((w.alloc (.cells c T)).alloc o).alloc o') w.heap.size T c.toList:=((Bx.new w T c).alloc o).alloc o'
def Ext.Bm{a:World}(h:Ext a w){R:Nat}(hR:a.heap.size<=R)(v0 v1:Value):Ext a ((w.setCell ⟨R,0,none⟩ v0).setCell ⟨R,1,none⟩ v1):=(h.Xv hR v0).Xv hR v1
theorem pP(v:Value)(z:Int)(w:World)(hv:XU w v z):
  Calls prog 167 #[v] w λe w'=>ZR w (λv w'=>XU w' v (Jd z)) e w':=by
 have HV:=Lib.hid hv;obtain⟨s,q,n,cap,rfl,hp⟩:=hv;have HP:=Lib.hid hp;by_cases hs:s<0
 ·have HI:=Lib.hid (DX (hp.sign.1 hs));have HB:=Lib.hid (Bx.cD w (.cells #[.int .i64 s,.slice q n cap] 75) 75 IZ);clear hp;go_enter func167,ntmps167
  go_wp2_with fail
  refine(TU _ z _ (HV.out.ext (((Ext.refl _).alloc _).alloc _))).mono ?_;rintro e w1 ⟨_,rfl,⟨s',q',n',cap',rfl,hp'⟩,hx⟩;obtain⟨c0,c1,f0,f1⟩:=(HB.out.ext hx).two;have HB2:=Lib.hid (HB.out.ext hx);go_wp2
  refine bodyPost_ret (v:=.agg #[.int .i64 s',.slice q' n' cap']) (by simp[results,results167,go_sem,c0,c1]) I ⟨_,rfl,?_,?_⟩
  ·rw[HI.out];exact⟨_,_,_,_,rfl,hp'.kp ((Kp.refl _).Bm HB2.out.PT AD _ _)⟩
  exact(((((Ext.refl w).alloc _).alloc _).trans hx).Xv w9 _).Xv w9 _
 have HI:=Lib.hid (Wo (z:=z) (wm hp.sign));clear hp;go_enter func167,ntmps167
 go_wp2
 refine bodyPost_ret (v:=.agg #[.int .i64 s,.slice q n cap]) (by simp[results,results167,go_sem]) I ⟨_,rfl,?_,((Ext.refl _).alloc _).alloc _⟩;rw[HI.out];exact⟨_,_,_,_,rfl,HP.out.ext (((Ext.refl _).alloc _).alloc _)⟩
def X5(hd:DG W l)(hn:NZ l)(h:dv W l=Jd z)(hz:sz z<=1000000000):l.length<=1000000000:=by
 have:=QA1 hd hn;rw[h,Md]at this;omega
def Uk{a b:Int}(h:decide (a<0)=decide (b<0)):sg (decide (a<0)) (Jd a+Jd b)=a+b:=by
 unfold sg Jd;by_cases ha:a<0<;>by_cases hb:b<0<;>simp[ha,hb]at h ⊢<;>omega
def Uj{a b:Int}(h:decide (a<0)≠decide (b<0)):sg (decide (a<0)) (Jd a-Jd b)=a+b:=by
 unfold sg Jd;by_cases ha:a<0<;>by_cases hb:b<0<;>simp[ha,hb]at h ⊢<;>omega
def TD{a b:Int}(h:decide (a<0)≠decide (b<0)):sg (decide (b<0)) (Jd b-Jd a)=a+b:=by
 unfold sg Jd;by_cases ha:a<0<;>by_cases hb:b<0<;>simp[ha,hb]at h ⊢<;>omega
theorem EV(s s':Int)(q q':Option Addr)(n n' cap cap':Nat)(a b:Int)(w:World)(hv:Yo w s q n cap a)(hv':Yo w s' q' n' cap' b)
  (hc:q.isNone=false\/(q.isNone=true/\q'.isNone=false)\/(q.isNone=true/\q'.isNone=true/\(decide (s<wrap64 (s+s'))==decide (0<s'))=false))
  (ha:sz a<=1000000000) (hb:sz b<=1000000000) :
  Calls prog 130 #[.agg #[.int .i64 s,.slice q n cap],.agg #[.int .i64 s',.slice q' n' cap']] w λe w'=>ZR w (λv w'=>XU w' v (a+b)) e w':=by
 have hn:=λw=>Lib.run_eql_slice_nil (P:=prog) w 73 201 q n cap 0 0 underlying73;have hn':=λw=>Lib.run_eql_slice_nil (P:=prog) w 73 201 q' n' cap' 0 0 underlying73;have HV:Hid (XU w (.agg #[.int .i64 s,.slice q n cap]) a):=⟨_,_,_,_,rfl,hv⟩;have HV':Hid (XU w (.agg #[.int .i64 s',.slice q' n' cap']) b):=⟨_,_,_,_,rfl,hv'⟩;have HBb:=Lib.hid (Bx.xx w (.cells #[.int .i64 s,.slice q n cap] 75) (.cells IZ 75) 75 #[.int .i64 s',.slice q' n' cap']);have HBr:=Lib.hid (Bx.OE w (.cells #[.int .i64 s,.slice q n cap] 75) (.cells #[.int .i64 s',.slice q' n' cap'] 75) 75 IZ);clear hv hv';rcases hc with h1 | ⟨h1,h2⟩ | ⟨h1,h2,h3⟩
 all_goals
  rw[h1]at hn
  try rw[h2]at hn'
  go_enter func130,ntmps130
  go_wp2_with fail
  refine(Yf _ a _ (HV.out.ext ((((Ext.refl _).alloc _).alloc _).alloc _))).mono ?_;rintro e w1 ⟨_,rfl,⟨p,la,rfl,hsa,hda,hna,hva⟩,hx⟩;have HB1:=Lib.hid (HBb.out.ext hx);have HR1:=Lib.hid (HBr.out.ext hx);obtain⟨c0,c1,f0,f1⟩:=HB1.out.two;have hlea:=X5 hda hna hva ha;have HVA:=Lib.hid hva;clear hva;go_wp2_with fail
  refine(Yf _ b _ (HV'.out.ext (((((Ext.refl _).alloc _).alloc _).alloc _).trans hx))).mono ?_;rintro e w2 ⟨_,rfl,⟨p',lb,rfl,hsb,hdb,hnb,hvb⟩,hx2⟩;have HR2:=Lib.hid (HR1.out.ext hx2);have hleb:=X5 hdb hnb hvb hb;have HVB:=Lib.hid hvb;clear hvb c0 c1 f0 f1;have hsa2:=hsa.ext hx2;by_cases hsg:decide (a<0)=decide (b<0)
  ·have hgg:(decide (a<0)==decide (b<0))=true:=by simpa using hsg
   have HSG:Hid (sg (decide (a<0)) (dv W la+dv W lb)=a+b):=by
    show sg _ _=_;rw[HVA.out,HVB.out];exact Uk hsg
   clear hsg;go_wp2_with fail
   refine(Tt _ _ la lb _ hda hdb hsa2 hsb O O).mono ?_;rintro e w3 ⟨_,rfl,⟨l3,hs3,hd3,hn3,hv3⟩,hx3⟩;have HV3:=Lib.hid hv3;clear hv3;go_wp2_with fail
   refine(Vg _ _ l3 _ hs3 hd3 hn3).mono ?_;rw[HV3.out,HSG.out];rintro e w4 ⟨_,rfl,⟨s4,q4,n4,cap4,rfl,hp4⟩,hx4⟩;have HR4:=Lib.hid ((HR2.out.ext hx3).ext hx4);obtain⟨c0,c1,f0,f1⟩:=HR4.out.two;go_wp2
   refine bodyPost_ret (v:=.agg #[.int .i64 s4,.slice q4 n4 cap4]) (by simp[results,results130,go_sem,c0,c1]) I ⟨_,rfl,⟨_,_,_,_,rfl,hp4.kp ((Kp.refl _).Bm HR4.out.PT AD _ _)⟩,?_⟩;exact(((((((Ext.refl w).alloc _).alloc _).alloc _).trans hx).trans hx2).trans hx3 |>.trans hx4).Bm O _ _
  have hgg:(decide (a<0)==decide (b<0))=false:=by simpa using hsg
  have hcl:=Hc (x:=dv W la) (y:=dv W lb);have hcg:=WD (x:=dv W la) (y:=dv W lb);by_cases hge:dv W lb<=dv W la
  ·have HSG:Hid (sg (decide (a<0)) (dv W la-dv W lb)=a+b):=by
    show sg _ _=_;rw[HVA.out,HVB.out];exact Uj hsg
   have hc3:=hcl hge;have hll:lb.length<=la.length:=by
    refine Nat.not_lt.1 λhlt=>?_;have:=Xg MX hda hdb hnb hlt;omega
   have HGE:=Lib.hid hge;clear hsg hcl hcg hge;go_wp2_with fail
   refine(Za _ _ la lb _ hda hdb hna hnb hsa2 hsb).mono ?_;rintro e w3 ⟨rfl,hx3⟩;have hsa3:=hsa2.ext hx3;have hsb3:=hsb.ext hx3;go_wp2_with fail
   refine(DJ _ _ la lb _ hda hdb hsa3 hsb3 O hll HGE.out).mono ?_;rintro e w4 ⟨_,rfl,⟨l3,hs3,hd3,hn3,hv3⟩,hx4⟩;have HV3:=Lib.hid hv3;clear hv3;go_wp2_with fail
   refine(Vg _ _ l3 _ hs3 hd3 hn3).mono ?_;rw[HV3.out,HSG.out];rintro e w5 ⟨_,rfl,⟨s4,q4,n4,cap4,rfl,hp4⟩,hx5⟩;have HR4:=Lib.hid (((HR2.out.ext hx3).ext hx4).ext hx5);obtain⟨c0,c1,f0,f1⟩:=HR4.out.two;go_wp2
   refine bodyPost_ret (v:=.agg #[.int .i64 s4,.slice q4 n4 cap4]) (by simp[results,results130,go_sem,c0,c1]) I ⟨_,rfl,⟨_,_,_,_,rfl,hp4.kp ((Kp.refl _).Bm HR4.out.PT AD _ _)⟩,?_⟩;exact(((((((Ext.refl w).alloc _).alloc _).alloc _).trans hx).trans hx2).trans hx3 |>.trans hx4 |>.trans hx5).Bm O _ _
  have HSG:Hid (sg (decide (b<0)) (dv W lb-dv W la)=a+b):=by
   show sg _ _=_;rw[HVA.out,HVB.out];exact TD hsg
  have HC3:=Lib.hid (hcg O);have hll:la.length<=lb.length:=by
   refine Nat.not_lt.1 λhlt=>?_;have:=Xg MX hdb hda hna hlt;omega
  have HGE:Hid (dv W la<=dv W lb):=by show _<=_;omega
  clear hsg hcl hcg hge;go_wp2_with fail
  refine(Za _ _ la lb _ hda hdb hna hnb hsa2 hsb).mono ?_;rw[HC3.out];rintro e w3 ⟨rfl,hx3⟩;have hsa3:=hsa2.ext hx3;have hsb3:=hsb.ext hx3;go_wp2_with fail
  refine(DJ _ _ lb la _ hdb hda hsb3 hsa3 O hll HGE.out).mono ?_;rintro e w4 ⟨_,rfl,⟨l3,hs3,hd3,hn3,hv3⟩,hx4⟩;have HV3:=Lib.hid hv3;clear hv3;go_wp2_with fail
  refine(Vg _ _ l3 _ hs3 hd3 hn3).mono ?_;rw[HV3.out,HSG.out];rintro e w5 ⟨_,rfl,⟨s4,q4,n4,cap4,rfl,hp4⟩,hx5⟩;have HR4:=Lib.hid (((HR2.out.ext hx3).ext hx4).ext hx5);obtain⟨c0,c1,f0,f1⟩:=HR4.out.two;go_wp2
  refine bodyPost_ret (v:=.agg #[.int .i64 s4,.slice q4 n4 cap4]) (by simp[results,results130,go_sem,c0,c1]) I ⟨_,rfl,⟨_,_,_,_,rfl,hp4.kp ((Kp.refl _).Bm HR4.out.PT AD _ _)⟩,?_⟩;exact(((((((Ext.refl w).alloc _).alloc _).alloc _).trans hx).trans hx2).trans hx3 |>.trans hx4 |>.trans hx5).Bm O _ _
set_option maxRecDepth 100000 in
set_option maxHeartbeats 800000 in
theorem C0(s s':Int)(w:World)(h0 : -9223372036854775808<=s)(h1:s<=9223372036854775807)(h0' : -9223372036854775808<=s')(h1':s'<=9223372036854775807)
  (hl : -9223372036854775808<=s+s') (hh:s+s'<=9223372036854775807) :
  Calls prog 130 #[.agg #[.int .i64 s,.slice none 0 0],.agg #[.int .i64 s',.slice none 0 0]] w λe w'=>ZR w (λv w'=>XU w' v (s+s')) e w':=by
 have hn:=λw=>Lib.run_eql_slice_nil (P:=prog) w 73 201 none 0 0 0 0 underlying73;have hb1:(decide (s<s+s')==decide (0<s'))=true:=beq_iff_eq.2 (decide_eq_decide.2 O);have hb2:(decide (0<s')==decide (0<s'))=true:=w9;go_enter func130,ntmps130
 go_wp2_with fail
 exact bodyPost_ret (v:=.agg #[.int .i64 (s+s'),.slice none 0 0]) (by simp[results,results130,go_sem]) I ⟨_,rfl,XU.small _ hl hh,((((Ext.refl _).alloc _).alloc _).alloc _)⟩
theorem OV(v v':Value)(a b:Int)(w:World)(hv:XU w v a)(hv':XU w v' b)(ha:sz a<=1000000000)(hb:sz b<=1000000000):
  Calls prog 130 #[v,v'] w λe w'=>ZR w (λv w'=>XU w' v (a+b)) e w':=by
 obtain⟨s,q,n,cap,rfl,hp⟩:=hv;obtain⟨s',q',n',cap',rfl,hp'⟩:=hv';rcases hp.isNone with ⟨rfl,rfl,rfl,rfl,h0,h1⟩ | ⟨_,_,rfl⟩
 ·rcases hp'.isNone with ⟨rfl,rfl,rfl,rfl,h0',h1'⟩ | ⟨_,_,rfl⟩
  ·by_cases hl : -9223372036854775808<=s+s'/\s+s'<=9223372036854775807
   ·exact C0 s s' w h0 h1 h0' h1' hl.1 hl.2
   refine EV _ _ _ _ _ _ _ _ _ _ w hp hp' (.inr (.inr ⟨rfl,rfl,?_⟩)) ha hb;simp only[wrap64,beq_eq_false_iff_ne,ne_eq,decide_eq_decide];omega
  exact EV _ _ _ _ _ _ _ _ _ _ w hp hp' (.inr (.inl ⟨rfl,rfl⟩)) ha hb
 exact EV _ _ _ _ _ _ _ _ _ _ w hp hp' (.inl rfl) ha hb
theorem Lj(v v':Value)(a b:Int)(w:World)(hv:XU w v a)(hv':XU w v' b)(ha:sz a<=1000000000)(hb:sz b<=1000000000):
  Calls prog 231 #[v,v'] w λe w'=>ZR w (λv w'=>XU w' v (a-b)) e w':=by
 have HV:=Lib.hid hv;have HV':=Lib.hid hv';obtain⟨s,q,n,cap,rfl,hp⟩:=hv;obtain⟨s',q',n',cap',rfl,hp'⟩:=hv';have HBa:=Lib.hid (Bx.I5 w (.cells #[.int .i64 s',.slice q' n' cap'] 75) (.cells IZ 75) 75 #[.int .i64 s,.slice q n cap]);have HBb:=Lib.hid (Bx.xx w (.cells #[.int .i64 s,.slice q n cap] 75) (.cells IZ 75) 75 #[.int .i64 s',.slice q' n' cap']);have HBr:=Lib.hid (Bx.OE w (.cells #[.int .i64 s,.slice q n cap] 75) (.cells #[.int .i64 s',.slice q' n' cap'] 75) 75 IZ);have hnb:sz (-b)<=1000000000:=by rw[Kq];exact hb
 have HE:Hid (a + -b=a-b):=(Int.sub_eq_add_neg).symm;clear hp hp';go_enter func231,ntmps231
 go_wp2_with fail
 have hEW:Ext w (((w.alloc (.cells #[.int .i64 s,.slice q n cap] 75)).alloc (.cells #[.int .i64 s',.slice q' n' cap'] 75)).alloc (.cells IZ 75)):=(((Ext.refl w).alloc _).alloc _).alloc _;generalize hW:(((w.alloc (.cells #[.int .i64 s,.slice q n cap] 75)).alloc (.cells #[.int .i64 s',.slice q' n' cap'] 75)).alloc (.cells IZ 75))=W0 at *
 have HW:=Lib.hid hW;clear hW;obtain⟨ca0,ca1,fa0,fa1⟩:=HBa.out.two;obtain⟨cb0,cb1,fb0,fb1⟩:=HBb.out.two;clear fa0 fa1 fb0 fb1;go_region_held3 (λw'=>w'.cell? ⟨w.heap.size,0,none⟩=some (.int .i64 s)/\w'.cell? ⟨w.heap.size,1,none⟩=some (.slice q n cap)/\w'.cell? ⟨w.heap.size+1,0,none⟩=some (.int .i64 s')/\w'.cell? ⟨w.heap.size+1,1,none⟩=some (.slice q' n' cap'))
  (first | exact⟨hx1.cell ca0,hx1.cell ca1,hx1.cell cb0,hx1.cell cb1⟩ | exact⟨hx2.cell (hx1.cell ca0),hx2.cell (hx1.cell ca1),hx2.cell (hx1.cell cb0),hx2.cell (hx1.cell cb1)⟩ | exact⟨Xh O (Xh O (hx2.cell (hx1.cell ca0))),Xh O (Xh O (hx2.cell (hx1.cell ca1))),Xh O (Xh O (hx2.cell (hx1.cell cb0))),Xh O (Xh O (hx2.cell (hx1.cell cb1)))⟩ | go_keep)
  (first
   |(go_at_call 64;refine(TU _ b _ (HV'.out.ext (hEW.drew))).mono ?_;rintro e w1 ⟨_,rfl,⟨s1,q1,n1,cap1,rfl,hp1⟩,hx1⟩)
   |(go_at_call 130;refine(OV _ _ a (-b) _ (HV.out.ext ((hEW.drew).trans hx1)) ⟨_,_,_,_,rfl,hp1⟩ ha hnb).mono ?_;rw[HE.out];rintro e w2 ⟨_,rfl,⟨s2,q2,n2,cap2,rfl,hp2⟩,hx2⟩;obtain⟨c0,c1,f0,f1⟩:=((HBr.out.drew.ext hx1).ext hx2).two))
 go_wp2
 refine bodyPost_ret (v:=.agg #[.int .i64 s2,.slice q2 n2 cap2]) (by simp[results,results231,go_sem,c0,c1]) I ⟨_,rfl,⟨_,_,_,_,rfl,hp2.kp ((Kp.refl _).Bm ((HBr.out.drew.ext hx1).ext hx2).PT AD _ _)⟩,?_⟩;exact((hEW.drew.trans hx1).trans hx2).Bm O _ _
def FH(a b:Int):Rt (a-b)=Zb a b:=(yG a b).symm
theorem Cp(s s':Int)(w:World):
  Calls prog 220 #[.agg #[.int .i64 s,.slice none 0 0],.agg #[.int .i64 s',.slice none 0 0]] w λe w'=>e = .returned (.int .i64 (Zb s s'))/\Ext w w':=by
 have hn:=λw=>Lib.run_eql_slice_nil (P:=prog) w 73 201 none 0 0 0 0 underlying73;rcases Int.lt_trichotomy s s' with g | g | g
 ·have HC:=Lib.hid (WD g);go_enter func220,ntmps220
  go_wp2
  go_ret
  exact⟨by rw[HC.out];rfl,((Ext.refl _).alloc _).alloc _⟩
 ·subst g;have HC:=Lib.hid (Mz s);go_enter func220,ntmps220
  go_wp2
  go_ret
  exact⟨by rw[HC.out];rfl,((Ext.refl _).alloc _).alloc _⟩
 have HC:=Lib.hid (Hw g);have g2:¬s<s':=O;go_enter func220,ntmps220
 go_wp2
 go_ret
 exact⟨by rw[HC.out];rfl,((Ext.refl _).alloc _).alloc _⟩
theorem OP(v v':Value)(a b:Int)(w:World)(s s':Int)(q q':Option Addr)(n n' cap cap':Nat)(hv:Yo w s q n cap a)(hv':Yo w s' q' n' cap' b)(e1:v = .agg #[.int .i64 s,.slice q n cap])(e2:v' = .agg #[.int .i64 s',.slice q' n' cap'])
  (hc:q.isNone=false\/(q.isNone=true/\q'.isNone=false)) (ha:sz a<=1000000000) (hb:sz b<=1000000000) :
  Calls prog 220 #[v,v'] w λe w'=>e = .returned (.int .i64 (Zb a b))/\Ext w w':=by
 subst e1 e2;have hn:=λw=>Lib.run_eql_slice_nil (P:=prog) w 73 201 q n cap 0 0 underlying73;have hn':=λw=>Lib.run_eql_slice_nil (P:=prog) w 73 201 q' n' cap' 0 0 underlying73;have HV:Hid (XU w (.agg #[.int .i64 s,.slice q n cap]) a):=⟨_,_,_,_,rfl,hv⟩;have HV':Hid (XU w (.agg #[.int .i64 s',.slice q' n' cap']) b):=⟨_,_,_,_,rfl,hv'⟩;have HC:=Lib.hid (FH a b);clear hv hv';rcases hc with h1 | ⟨h1,h2⟩
 all_goals
  rw[h1]at hn
  try rw[h2]at hn'
  go_enter func220,ntmps220
  go_wp2_with fail
  refine(Lj _ _ a b _ (HV.out.ext (((Ext.refl _).alloc _).alloc _)) (HV'.out.ext (((Ext.refl _).alloc _).alloc _)) ha hb).mono ?_;rintro e w1 ⟨_,rfl,⟨s1,q1,n1,cap1,rfl,hp1⟩,hx1⟩;have HP1:=Lib.hid hp1;clear hp1;go_wp2_with fail
  refine(Ug _ (a-b) _ ⟨_,_,_,_,rfl,HP1.out⟩).mono ?_;rw[HC.out];rintro e w2 ⟨rfl,hx2⟩;go_wp2
  go_ret
  exact⟨rfl,((((Ext.refl _).alloc _).alloc _).trans hx1).trans hx2⟩
theorem pF(v v':Value)(a b:Int)(w:World)(hv:XU w v a)(hv':XU w v' b)(ha:sz a<=1000000000)(hb:sz b<=1000000000):
  Calls prog 220 #[v,v'] w λe w'=>e = .returned (.int .i64 (Zb a b))/\Ext w w':=by
 obtain⟨s,q,n,cap,e1,hp⟩:=hv;obtain⟨s',q',n',cap',e2,hp'⟩:=hv';rcases hp.isNone with ⟨rfl,rfl,rfl,rfl,h0,h1⟩ | ⟨_,_,rfl⟩
 ·rcases hp'.isNone with ⟨rfl,rfl,rfl,rfl,h0',h1'⟩ | ⟨_,_,rfl⟩
  ·subst e1 e2;exact Cp s s' w
  exact OP _ _ _ _ w _ _ _ _ _ _ _ _ hp hp' e1 e2 (.inr ⟨rfl,rfl⟩) ha hb
 exact OP _ _ _ _ w _ _ _ _ _ _ _ _ hp hp' e1 e2 (.inl rfl) ha hb
def Mr{s:Int}(h0 : -9223372036854775808<=s)(h1:s<=9223372036854775807):0<=Jd s/\Jd s<W:=by
 rw[K7];have:=GH;omega
def xu{x y:Int}:Jv x y+W*Xz x y=x*y:=by unfold Jv Xz;rw[Int.add_comm];exact Int.mul_ediv_add_emod _ _
def xr{s t:Int}:(if(decide (s<0)==decide (t<0))then Jd s*Jd t else -(Jd s*Jd t))=s*t:=by
 unfold Jd;by_cases h1:s<0<;>by_cases h2:t<0<;>simp[h1,h2,Int.neg_mul,Int.mul_neg]
def jk{s t:Int}:sg (!(decide (s<0)==decide (t<0))) (Jd s*Jd t)=s*t:=by
 rw[<-xr (s:=s) (t:=t)];unfold sg;cases (decide (s<0)==decide (t<0))<;>simp
set_option maxRecDepth 100000 in
set_option maxHeartbeats 2000000 in
theorem CQ(s s':Int)(w:World)(h0 : -9223372036854775808<=s)(h1:s<=9223372036854775807)(h0' : -9223372036854775808<=s')(h1':s'<=9223372036854775807)
  (hl:Jd s*Jd s'<=9223372036854775807) :
  Calls prog 71 #[.agg #[.int .i64 s,.slice none 0 0],.agg #[.int .i64 s',.slice none 0 0]] w λe w'=>ZR w (λv w'=>XU w' v (s*s')) e w':=by
 have hn:=λw=>Lib.run_eql_slice_nil (P:=prog) w 73 201 none 0 0 0 0 underlying73;have b1:=Mr h0 h1;have b2:=Mr h0' h1';have hp0:0<=Jd s*Jd s':=Int.mul_nonneg b1.1 b2.1;have hhi:Xz (Jd s) (Jd s')=0:=Int.ediv_eq_zero_of_lt hp0 (wm GH);have hlo:Jv (Jd s) (Jd s')=Jd s*Jd s':=Int.emod_eq_of_lt hp0 (wm GH);have HHI:=Lib.hid hhi;have HLO:=Lib.hid hlo;have HSG:=Lib.hid (xr (s:=s) (t:=s'));have HBa:=Lib.hid (Bx.I5 w (.cells #[.int .i64 s',.slice none 0 0] 75) (.cells IZ 75) 75 #[.int .i64 s,.slice none 0 0]);have HBb:=Lib.hid (Bx.xx w (.cells #[.int .i64 s,.slice none 0 0] 75) (.cells IZ 75) 75 #[.int .i64 s',.slice none 0 0]);generalize Jd s*Jd s'=p at *
 clear hhi hlo;by_cases hsg:(decide (s<0)==decide (s'<0))=true
 all_goals
  have hs2:=HSG.out
  first | rw[if_pos hsg]at hs2 | rw[if_neg hsg]at hs2
  have HS2:=Lib.hid hs2
  try have hsg3:(decide (s<0)==decide (s'<0))=false:=by simpa using hsg
  clear hs2;go_enter func71,ntmps71
  go_wp2_with fail
  go_region_held3 (λw'=>w'.cell? ⟨w.heap.size,0,none⟩=some (.int .i64 s)/\w'.cell? ⟨w.heap.size+1,0,none⟩=some (.int .i64 s'))
   (first | go_keep)
   (first
    |(go_at_call 145;(with_reducible refine(Gy s _ h0 h1).mono ?_);rintro e w1 ⟨rfl,rfl⟩)
    |(go_at_call 145;(with_reducible refine(Gy s' _ h0' h1').mono ?_);rintro e w1 ⟨rfl,rfl⟩)
    |(go_at_call 144;refine(YN _ _ _ b1 b2).mono ?_;rw[HHI.out,HLO.out];rintro e w1 ⟨rfl,rfl⟩))
  go_wp2
  first
   |exact bodyPost_ret (v:=.agg #[.int .i64 (-p),.slice none 0 0]) (by simp[results,results71,go_sem]) I ⟨_,rfl,by rw[<-HS2.out];exact XU.small _ O O,(((Ext.refl w).alloc _).alloc _).alloc _ |>.drewN 1⟩
   |exact bodyPost_ret (v:=.agg #[.int .i64 p,.slice none 0 0]) (by simp[results,results71,go_sem]) I ⟨_,rfl,by rw[<-HS2.out];exact XU.small _ O O,(((Ext.refl w).alloc _).alloc _).alloc _ |>.drewN 1⟩
set_option maxRecDepth 100000 in
set_option maxHeartbeats 4000000 in
theorem SO(s s':Int)(q q':Option Addr)(n n' cap cap':Nat)(a b:Int)(w:World)(hv:Yo w s q n cap a)(hv':Yo w s' q' n' cap' b)
  (hc:q.isNone=false\/(q.isNone=true/\q'.isNone=false)) (ha:sz a<=1000000000) (hb:sz b<=1000000000) :
  Calls prog 71 #[.agg #[.int .i64 s,.slice q n cap],.agg #[.int .i64 s',.slice q' n' cap']] w λe w'=>ZR w (λv w'=>XU w' v (a*b)) e w':=by
 have hn:=λw=>Lib.run_eql_slice_nil (P:=prog) w 73 201 q n cap 0 0 underlying73;have hn':=λw=>Lib.run_eql_slice_nil (P:=prog) w 73 201 q' n' cap' 0 0 underlying73;have HV:Hid (XU w (.agg #[.int .i64 s,.slice q n cap]) a):=⟨_,_,_,_,rfl,hv⟩;have HV':Hid (XU w (.agg #[.int .i64 s',.slice q' n' cap']) b):=⟨_,_,_,_,rfl,hv'⟩;have HBb:=Lib.hid (Bx.xx w (.cells #[.int .i64 s,.slice q n cap] 75) (.cells IZ 75) 75 #[.int .i64 s',.slice q' n' cap']);have HBr:=Lib.hid (Bx.OE w (.cells #[.int .i64 s,.slice q n cap] 75) (.cells #[.int .i64 s',.slice q' n' cap'] 75) 75 IZ);clear hv hv';rcases hc with h1 | ⟨h1,h2⟩
 all_goals
  rw[h1]at hn
  try rw[h2]at hn'
  go_enter func71,ntmps71
  go_wp2_with fail
  refine(Yf _ a _ (HV.out.ext ((((Ext.refl _).alloc _).alloc _).alloc _))).mono ?_;rintro e w1 ⟨_,rfl,⟨p,la,rfl,hsa,hda,hna,hva⟩,hx⟩;have HB1:=Lib.hid (HBb.out.ext hx);have HR1:=Lib.hid (HBr.out.ext hx);obtain⟨c0,c1,f0,f1⟩:=HB1.out.two;have hlea:=X5 hda hna hva ha;have HVA:=Lib.hid hva;clear hva;go_wp2_with fail
  refine(Yf _ b _ (HV'.out.ext (((((Ext.refl _).alloc _).alloc _).alloc _).trans hx))).mono ?_;rintro e w2 ⟨_,rfl,⟨p',lb,rfl,hsb,hdb,hnb,hvb⟩,hx2⟩;have HR2:=Lib.hid (HR1.out.ext hx2);have hleb:=X5 hdb hnb hvb hb;have HVB:=Lib.hid hvb;clear hvb c0 c1 f0 f1;have hsa2:=hsa.ext hx2;have HSG:Hid (sg (!(decide (a<0)==decide (b<0))) (dv W la*dv W lb)=a*b):=by
   show sg _ _=_;rw[HVA.out,HVB.out];exact jk
  go_wp2_with fail
  refine(DU _ _ la lb _ hda hdb hsa2 hsb O O).mono ?_;rintro e w3 ⟨_,rfl,⟨l3,hs3,hd3,hn3,hv3⟩,hx3⟩;have HV3:=Lib.hid hv3;clear hv3;go_wp2_with fail
  refine(Vg _ _ l3 _ hs3 hd3 hn3).mono ?_;rw[HV3.out,HSG.out];rintro e w4 ⟨_,rfl,⟨s4,q4,n4,cap4,rfl,hp4⟩,hx4⟩;have HR4:=Lib.hid ((HR2.out.ext hx3).ext hx4);obtain⟨c0,c1,f0,f1⟩:=HR4.out.two;go_wp2
  refine bodyPost_ret (v:=.agg #[.int .i64 s4,.slice q4 n4 cap4]) (by simp[results,results71,go_sem,c0,c1]) I ⟨_,rfl,⟨_,_,_,_,rfl,hp4.kp ((Kp.refl _).Bm HR4.out.PT AD _ _)⟩,?_⟩;exact(((((((Ext.refl w).alloc _).alloc _).alloc _).trans hx).trans hx2).trans hx3 |>.trans hx4).Bm O _ _
set_option maxRecDepth 100000 in
set_option maxHeartbeats 4000000 in
theorem xt(s s':Int)(w:World)(h0 : -9223372036854775808<=s)(h1:s<=9223372036854775807)(h0' : -9223372036854775808<=s')(h1':s'<=9223372036854775807)
  (hl:9223372036854775808<=Jd s*Jd s') (ha:sz s<=1000000000) (hb:sz s'<=1000000000) :
  Calls prog 71 #[.agg #[.int .i64 s,.slice none 0 0],.agg #[.int .i64 s',.slice none 0 0]] w λe w'=>ZR w (λv w'=>XU w' v (s*s')) e w':=by
 have hn:=λw=>Lib.run_eql_slice_nil (P:=prog) w 73 201 none 0 0 0 0 underlying73;have b1:=Mr h0 h1;have b2:=Mr h0' h1';have HV:=Lib.hid (XU.small w h0 h1);have HV':=Lib.hid (XU.small w h0' h1');have HBa:=Lib.hid (Bx.I5 w (.cells #[.int .i64 s',.slice none 0 0] 75) (.cells IZ 75) 75 #[.int .i64 s,.slice none 0 0]);have HBb:=Lib.hid (Bx.xx w (.cells #[.int .i64 s,.slice none 0 0] 75) (.cells IZ 75) 75 #[.int .i64 s',.slice none 0 0]);have HBr:=Lib.hid (Bx.OE w (.cells #[.int .i64 s,.slice none 0 0] 75) (.cells #[.int .i64 s',.slice none 0 0] 75) 75 IZ);have hhl:=xu (x:=Jd s) (y:=Jd s');have hor:Xz (Jd s) (Jd s')≠0\/9223372036854775808<=Jv (Jd s) (Jd s'):=by
  by_cases h:Xz (Jd s) (Jd s')=0
  ·right;rw[h]at hhl;omega
  exact .inl h
 have hcase:(Xz (Jd s) (Jd s')==0)=false\/((Xz (Jd s) (Jd s')==0)=true/\9223372036854775808<=Jv (Jd s) (Jd s')):=by
  by_cases h:Xz (Jd s) (Jd s')=0
  ·exact .inr ⟨by simpa using h,by rcases hor with g | g;exact absurd h g;exact g⟩
  exact .inl (by simpa using h)
 clear hor hhl hl;generalize hmh:Xz (Jd s) (Jd s')=mh at *
 generalize hml:Jv (Jd s) (Jd s')=ml at *
 have HMH:=Lib.hid hmh;have HML:=Lib.hid hml;clear hmh hml;rcases hcase with g1 | ⟨g1,g2⟩
 all_goals
  go_enter func71,ntmps71
  go_wp2_with fail
  go_region_held3 (λw'=>w'.cell? ⟨w.heap.size,0,none⟩=some (.int .i64 s)/\w'.cell? ⟨w.heap.size+1,0,none⟩=some (.int .i64 s'))
   (first | go_keep)
   (first
    |(go_at_call 145;(with_reducible refine(Gy s _ h0 h1).mono ?_);rintro e w1 ⟨rfl,rfl⟩)
    |(go_at_call 145;(with_reducible refine(Gy s' _ h0' h1').mono ?_);rintro e w1 ⟨rfl,rfl⟩)
    |(go_at_call 144;refine(YN _ _ _ b1 b2).mono ?_;rw[HMH.out,HML.out];rintro e w1 ⟨rfl,rfl⟩))
  go_wp2_with fail
  refine(Yf _ s _ (HV.out.ext (((((Ext.refl _).alloc _).alloc _).alloc _).drew))).mono ?_;rintro e w1 ⟨_,rfl,⟨p,la,rfl,hsa,hda,hna,hva⟩,hx⟩;have HB1:=Lib.hid (HBb.out.drew.ext hx);have HR1:=Lib.hid (HBr.out.drew.ext hx);obtain⟨c0,c1,f0,f1⟩:=HB1.out.two;have hlea:=X5 hda hna hva ha;have HVA:=Lib.hid hva;clear hva;go_wp2_with fail
  refine(Yf _ s' _ (HV'.out.ext ((((((Ext.refl _).alloc _).alloc _).alloc _).drew).trans hx))).mono ?_;rintro e w2 ⟨_,rfl,⟨p',lb,rfl,hsb,hdb,hnb,hvb⟩,hx2⟩;have HR2:=Lib.hid (HR1.out.ext hx2);have hleb:=X5 hdb hnb hvb hb;have HVB:=Lib.hid hvb;clear hvb c0 c1 f0 f1;have hsa2:=hsa.ext hx2;have HSG:Hid (sg (!(decide (s<0)==decide (s'<0))) (dv W la*dv W lb)=s*s'):=by
   show sg _ _=_;rw[HVA.out,HVB.out];exact jk
  go_wp2_with fail
  refine(DU _ _ la lb _ hda hdb hsa2 hsb O O).mono ?_;rintro e w3 ⟨_,rfl,⟨l3,hs3,hd3,hn3,hv3⟩,hx3⟩;have HV3:=Lib.hid hv3;clear hv3;go_wp2_with fail
  refine(Vg _ _ l3 _ hs3 hd3 hn3).mono ?_;rw[HV3.out,HSG.out];rintro e w4 ⟨_,rfl,⟨s4,q4,n4,cap4,rfl,hp4⟩,hx4⟩;have HR4:=Lib.hid ((HR2.out.ext hx3).ext hx4);obtain⟨c0,c1,f0,f1⟩:=HR4.out.two;go_wp2
  refine bodyPost_ret (v:=.agg #[.int .i64 s4,.slice q4 n4 cap4]) (by simp[results,results71,go_sem,c0,c1]) I ⟨_,rfl,⟨_,_,_,_,rfl,hp4.kp ((Kp.refl _).Bm HR4.out.PT AD _ _)⟩,?_⟩;exact((((((((Ext.refl w).alloc _).alloc _).alloc _).drew).trans hx).trans hx2).trans hx3 |>.trans hx4).Bm O _ _
theorem gT(v v':Value)(a b:Int)(w:World)(hv:XU w v a)(hv':XU w v' b)(ha:sz a<=1000000000)(hb:sz b<=1000000000):
  Calls prog 71 #[v,v'] w λe w'=>ZR w (λv w'=>XU w' v (a*b)) e w':=by
 obtain⟨s,q,n,cap,rfl,hp⟩:=hv;obtain⟨s',q',n',cap',rfl,hp'⟩:=hv';rcases hp.isNone with ⟨rfl,rfl,rfl,rfl,h0,h1⟩ | ⟨_,_,rfl⟩
 ·rcases hp'.isNone with ⟨rfl,rfl,rfl,rfl,h0',h1'⟩ | ⟨_,_,rfl⟩
  ·by_cases hl:Jd s*Jd s'<=9223372036854775807
   ·exact CQ s s' w h0 h1 h0' h1' hl
   exact xt s s' w h0 h1 h0' h1' O ha hb
  exact SO _ _ _ _ _ _ _ _ _ _ w hp hp' (.inr ⟨rfl,rfl⟩) ha hb
 exact SO _ _ _ _ _ _ _ _ _ _ w hp hp' (.inl rfl) ha hb
theorem QAt(n:Int)(w:World)(h0 : -9223372036854775808<=n)(h1:n<=9223372036854775807):
  Calls prog 59 #[.int .i64 n] w λe w'=>ZR w (λv w'=>XU w' v n) e w':=by
 go_enter func59,ntmps59
 go_wp2
 exact bodyPost_ret (v:=.agg #[.int .i64 n,.slice none 0 0]) (by simp[results,results59,go_sem]) I ⟨_,rfl,XU.small _ h0 h1,(Ext.refl _).alloc _⟩
theorem IG{a b:Int}(hb:0<b):(0<=a.tmod b->a.tdiv b=a/b/\a.tmod b=a%b)/\(a.tmod b<0->a.tdiv b-1=a/b/\a.tmod b+b=a%b):=by
 have h1:=Int.mul_tdiv_add_tmod a b;have h3:a.tmod b<b/\-b<a.tmod b:=by
  have:=Int.tmod_lt_of_pos a hb;refine⟨this,?_⟩;have h:=Int.tmod_lt_of_pos (-a) hb;rw[Int.neg_tmod]at h;omega
 generalize a.tdiv b=q at *
 generalize a.tmod b=r at *
 constructor
 ·intro hr;have g1:q*b<=a:=by rw[Int.mul_comm];omega
  have g2:a<(q+1)*b:=by rw[Int.add_mul,Int.mul_comm q];omega
  exact⟨(ZX hb g1 g2).symm,by rw[Zy g1 g2,Int.mul_comm q];omega⟩
 intro hr;have g1:(q-1)*b<=a:=by rw[Int.sub_mul,Int.mul_comm q];omega
 have g2:a<(q-1+1)*b:=by rw[show q-1+1=q from by omega,Int.mul_comm];omega
 exact⟨(ZX hb g1 g2).symm,by rw[Zy g1 g2,Int.sub_mul,Int.mul_comm q];omega⟩
def QFD(a b:Int)(r:Value)(w':World):Prop:=∃v v',r = .tuple #[v,v']/\XU w' v (a/b)/\XU w' v' (a%b)
set_option maxRecDepth 100000 in
set_option maxHeartbeats 400000 in
theorem Tn(s s':Int)(w:World)(h0 : -9223372036854775807<=s)(h1:s<=9223372036854775807)(hb0:0<s')(hb1:s'<=9223372036854775807):
  Calls prog 168 #[.agg #[.int .i64 s,.slice none 0 0],.agg #[.int .i64 s',.slice none 0 0]] w λe w'=>ZR w (QFD s s') e w':=by
 have hn:=λw=>Lib.run_eql_slice_nil (P:=prog) w 73 201 none 0 0 0 0 underlying73;have hm:(s != -9223372036854775808)=true:=tA;have hz:(s'==0)=false:=tA;have hT:=IG (a:=s) hb0;have HT:=Lib.hid hT;have hbd : -9223372036854775807<=s.tdiv s'/\s.tdiv s'<=9223372036854775807:=by
  have h:=Int.natAbs_tdiv_le_natAbs s s';omega
 have hrd : -9223372036854775807<=s.tmod s'/\s.tmod s'<=9223372036854775807:=by
  have:=Int.tmod_lt_of_pos s hb0;have h:=Int.tmod_lt_of_pos (-s) hb0;rw[Int.neg_tmod]at h;omega
 clear hT;have hqr:Hid (-9223372036854775808<=s/s'/\s/s'<=9223372036854775807/\0<=s%s'/\s%s'<=9223372036854775807):=by
  have r0:=Int.emod_nonneg s (by omega:s'≠0);have r1:=Int.emod_lt_of_pos s hb0;by_cases hr:0<=s.tmod s'
  ·have:=HT.out.1 hr;exact⟨O,O,r0,O⟩
  have:=HT.out.2 O;exact⟨O,O,r0,O⟩
 by_cases hr:0<=s.tmod s'
 ·have HR:=Lib.hid (HT.out.1 hr);go_enter func168,ntmps168
  go_wp2_with fail
  go_quiet (fail)
  go_wp2
  refine bodyPost_ret (v:=.tuple #[.agg #[.int .i64 (s.tdiv s'),.slice none 0 0],.agg #[.int .i64 (s.tmod s'),.slice none 0 0]]) (by simp[results,results168,go_sem]) I ⟨_,rfl,⟨_,_,rfl,?_,?_⟩,?_⟩
  ·rw[HR.out.1];exact XU.small _ hqr.out.1 hqr.out.2.1
  ·rw[HR.out.2];exact XU.small _ (wm hqr.out) hqr.out.2.2.2
  repeat (first | (with_reducible exact Ext.refl _) | (with_reducible refine Ext.drewN ?_ _) | (with_reducible refine Ext.drew ?_) | (with_reducible refine Ext.alloc ?_ _) | (with_reducible refine Ext.Xv ?_ (by dsimp only;omega) _))
 have HR:=Lib.hid (HT.out.2 O);have hw1:IntKind.i64.wrap (s.tdiv s'-1)=s.tdiv s'-1:=IntWalk.i64_in _ (by have:=HR.out;have:=hqr.out;omega);have hw2:IntKind.i64.wrap (s.tmod s'+s')=s.tmod s'+s':=IntWalk.i64_in _ O;have hr:s.tmod s'<0:=O;go_enter func168,ntmps168
 go_wp2_with fail
 go_quiet (fail)
 go_wp2
 go_quiet (fail)
 go_wp2
 refine bodyPost_ret (v:=.tuple #[.agg #[.int .i64 (s.tdiv s'-1),.slice none 0 0],.agg #[.int .i64 (s.tmod s'+s'),.slice none 0 0]]) (by simp[results,results168,go_sem]) I ⟨_,rfl,⟨_,_,rfl,?_,?_⟩,?_⟩
 ·rw[HR.out.1];exact XU.small _ hqr.out.1 hqr.out.2.1
 ·rw[HR.out.2];exact XU.small _ (wm hqr.out) hqr.out.2.2.2
 repeat (first | (with_reducible exact Ext.refl _) | (with_reducible refine Ext.drewN ?_ _) | (with_reducible refine Ext.drew ?_) | (with_reducible refine Ext.alloc ?_ _) | (with_reducible refine Ext.Xv ?_ (by dsimp only;omega) _))
def P6(F:Gs)(w:World):Prop:=∀b c T,F b=some (c,T)->∃fr,w.heap[b]?=some (.cells c T fr)
def Fits.r(h:Fits F w):P6 F w:=h.row
theorem P6.le(h:P6 F' w)(k:Gs.le F F'):P6 F w:=λb c T e=>h b c T (k b _ e)
def FO(w w':World):Prop:=∀(b:Nat) (c:Array Value) (fr:Nat×Nat),w.heap[b]?=some (.cells c 201 fr)->∃fr',w'.heap[b]?=some (.cells c 201 fr')
theorem Kg.GO(h:FO w w'){b:Nat}(hb:Kg w b 201):Kg w' b 201:=by
 obtain⟨c,fr,e⟩:=hb;obtain⟨fr',e'⟩:=h b c fr e;exact⟨c,fr',e'⟩
theorem Cells.GO(h:FO w w'){q:Option Addr}{l:List Int}(hc:Cells w q Ja l):Cells w' q Ja l:=by
 intro i hi;obtain⟨b,off,e,ht,hcell⟩:=hc i hi;refine⟨b,off,e,Kg.GO h ht,?_⟩;obtain⟨c,fr,hb⟩:=ht;obtain⟨fr',hb'⟩:=h b c fr hb;have e1:w.cell? ⟨b,off+i,none⟩=c[off+i]?:=by simp[World.cell?,hb]
 have e2:w'.cell? ⟨b,off+i,none⟩=c[off+i]?:=by simp[World.cell?,hb']
 simp_all
theorem SL.GO(h:FO w w'){v:Value}{l:List Int}(hs:SL w v Ja l):SL w' v Ja l:=by
 obtain⟨q,cap,h1,h2,h3,h4⟩:=hs;exact⟨q,cap,h1,h2,h3,h4.GO h⟩
theorem Yo.GO(h:FO w w'){s:Int}{q:Option Addr}{n cap:Nat}{z:Int}(hv:Yo w s q n cap z):Yo w' s q n cap z:=by
 rcases hv with hv | ⟨b,off,l,h1,h2,h3,h4,h5,h6⟩
 ·exact .inl hv
 exact .inr ⟨b,off,l,h1,h2,h3,h4,h5.GO h,h6⟩
theorem QQ.lift{val:γ->Value}{R:γ->World->Prop}(pr:γ->Prop)(he:Enters P f)(hF:Fits F w)
  (h:Calls P f args.toArray w λe w'=>∃c,e = .returned (val c)/\R c w'/\pr c/\Ext w w') (hR:∀c w' w'',FO w' w''->R c w'->R c w''):QQ P f args w F val (λc F=>(∀w,P6 F w->R c w)/\pr c):=by
 refine⟨he,h.mono ?_⟩;rintro e w' ⟨c,rfl,hr,hpr,hx⟩;refine⟨c,λb=>if b<w.heap.size then F b else match w'.heap[b]? with | some (.cells c T _)=>if T=201 then some (c,201)else none | _=>none,rfl,.of hx,?_,?_,⟨?_,?_⟩,?_⟩
 ·intro b x hb;show(if b<w.heap.size then _ else _)=_;rw[if_pos (hF.lt hb)];exact hb
 ·simp_all
 ·intro b c T hb;by_cases hlt:b<w.heap.size
  ·rw[if_pos hlt]at hb;obtain⟨fr,e⟩:=hF.row b c T hb;exact⟨fr,by rw[hx.block b hlt];exact e⟩
  grind
 ·intro b c fr hb;by_cases hlt:b<w.heap.size
  ·rw[if_pos hlt];rw[hx.block b hlt]at hb;exact hF.all b c fr hb
  grind
 intro F'' hle;refine⟨λw'' hw''=>?_,hpr⟩;refine hR c w' w'' (λb c fr hb=>?_) hr;refine hw'' b c _ (hle b _ ?_);show(if b<w.heap.size then _ else _)=_;by_cases hlt:b<w.heap.size
 ·rw[if_pos hlt];rw[hx.block b hlt]at hb;exact hF.all b c fr hb
 grind
structure Bg where
 s:Int
 q:Option Addr
 n:Nat
 cap:Nat
variable{g g':Bg}
@[reducible] def Bg.v (g:Bg):Value:=.agg #[.int .i64 g.s,.slice g.q g.n g.cap]
def Jt(F:Gs)(g:Bg)(z:Int):Prop:=∀w,P6 F w->Yo w g.s g.q g.n g.cap z
theorem Jt.le(h:Jt F g z)(k:Gs.le F F'):Jt F' g z:=λw hw=>h w (hw.le k)
instance{g:Bg}{z:Int}: Up (λF=>Jt F g z):=⟨λk h=>Jt.le h k⟩
def Jt.at(h:Jt F g z){w:World}(hw:Fits F w):XU w g.v z:=⟨_,_,_,_,rfl,h w hw.r⟩
def Jt.small(F:Gs){z:Int}(h0 : -9223372036854775808<=z)(h1:z<=9223372036854775807):Jt F ⟨z,none,0,0⟩ z:=λ_ _=>.inl ⟨rfl,rfl,rfl,rfl,h0,h1⟩
abbrev Zc(P:Program)(f:FuncId)(args:List Value)(w:World)(F:Gs)(z:Int):Prop:=QQ P f args w F Bg.v λg F=>Jt F g z
theorem Zc.of(he:Enters P f)(hF:Fits F w)(h:Calls P f args.toArray w λe w'=>ZR w (λv w'=>XU w' v z) e w'):Zc P f args w F z:=by
 refine(QQ.lift (λ_=>True) he hF (h.mono ?_) λc w' w'' hs hr=>hr.GO hs).imp λc F' hf=>⟨c,rfl,λF'' hle=>Jt.le hf.1 hle⟩;rintro e w' ⟨v,rfl,⟨s,q,n,cap,rfl,hp⟩,hx⟩;exact⟨⟨s,q,n,cap⟩,rfl,hp,trivial,hx⟩
abbrev QY[Dr](P:Program)(f:FuncId)(args:List Value)(w:World)(F:Gs)(v:Value):Prop:=QQ P f args w F (λ(_:Unit)=>v) λ_ _=>True
theorem QY.of{v:Value}(he:Enters P f)(hF:Fits F w)(h:Calls P f args.toArray w λe w'=>e = .returned v/\Ext w w'):QY P f args w F v:=by
 have:=QQ.lift (val:=λ_=>v) (R:=λ_ _=>True) (λ_=>True) he hF (h.mono λe w' ⟨h1,h2⟩=>⟨(),h1,trivial,trivial,h2⟩) (λ_ _ _ _ h=>h);simp_all
section
variable{w:World}{F:Gs}{g g':Bg}{a b:Int}
theorem Nz(hF:Fits F w)(h:Jt F g a):QY prog 63 [g.v] w F (.int .i64 (Rt a)) :=
 .of (enters_of func63 w8 rfl) hF (Ug _ a w (h.at hF))
theorem SN(hF:Fits F w)(h:Jt F g a):Zc prog 64 [g.v] w F (-a) :=
 .of (enters_of func64 w8 rfl) hF (TU _ a w (h.at hF))
theorem cm(hF:Fits F w)(h:Jt F g a):Zc prog 167 [g.v] w F (Jd a) :=
 .of (enters_of func167 w8 rfl) hF (pP _ a w (h.at hF))
theorem OU(hF:Fits F w)(h:Jt F g a)(h':Jt F g' b)(ha:sz a<=1000000000)(hb:sz b<=1000000000):Zc prog 130 [g.v,g'.v] w F (a+b) :=
 .of (enters_of func130 w8 rfl) hF (OV _ _ a b w (h.at hF) (h'.at hF) ha hb)
theorem QDo(hF:Fits F w)(h:Jt F g a)(h':Jt F g' b)(ha:sz a<=1000000000)(hb:sz b<=1000000000):Zc prog 231 [g.v,g'.v] w F (a-b) :=
 .of (enters_of func231 w8 rfl) hF (Lj _ _ a b w (h.at hF) (h'.at hF) ha hb)
theorem BJ(hF:Fits F w)(h:Jt F g a)(h':Jt F g' b)(ha:sz a<=1000000000)(hb:sz b<=1000000000):Zc prog 71 [g.v,g'.v] w F (a*b) :=
 .of (enters_of func71 w8 rfl) hF (gT _ _ a b w (h.at hF) (h'.at hF) ha hb)
theorem QEn(hF:Fits F w)(h:Jt F g a)(h':Jt F g' b)(ha:sz a<=1000000000)(hb:sz b<=1000000000):QY prog 220 [g.v,g'.v] w F (.int .i64 (Zb a b)) :=
 .of (enters_of func220 w8 rfl) hF (pF _ _ a b w (h.at hF) (h'.at hF) ha hb)
theorem Fv{n:Int}(hF:Fits F w)(h0 : -9223372036854775808<=n)(h1:n<=9223372036854775807):Zc prog 59 [.int .i64 n] w F n :=
 .of (enters_of func59 w8 rfl) hF (QAt n w h0 h1)
end
structure Sr where
 q:Option Addr
 n:Nat
 cap:Nat
variable{ra rb:Sr}
@[reducible] def Sr.v (r:Sr):Value:=.slice r.q r.n r.cap
def Kh(F:Gs)(r:Sr)(l:List Int):Prop:=(∀w,P6 F w->SL w r.v Ja l)/\DG W l/\NZ l
theorem Kh.le{r:Sr}(h:Kh F r l)(k:Gs.le F F'):Kh F' r l:=⟨λw hw=>h.1 w (hw.le k),h.2⟩
section
variable{w:World}{F:Gs}{g g':Bg}{a b:Int}
theorem Mj(hF:Fits F w)(h:Jt F g a):QQ prog 131 [g.v] w F (λ(c:Sr×List Int)=>.tuple #[.bool (decide (a<0)),.slice c.1.q c.1.n c.1.cap]) (λc F=>Kh F c.1 c.2/\dv W c.2=Jd a):=by
 refine(QQ.lift (λc=>DG W c.2/\NZ c.2/\dv W c.2=Jd a)
  (enters_of func131 w8 rfl) hF ((Yf _ a w (h.at hF)).mono ?_) λc w' w'' hs hr=>hr.GO hs).imp λc F' hf=>⟨c,rfl,λF'' hle=>⟨Kh.le ⟨hf.1,hf.2.1,hf.2.2.1⟩ hle,hf.2.2.2⟩⟩
 rintro e w' ⟨_,rfl,⟨p,l,rfl,hs,h1,h2,h3⟩,hx⟩;obtain⟨q,cap,rfl,hq⟩:=hs;exact⟨(⟨q,l.length,cap⟩,l),rfl,⟨q,cap,rfl,hq⟩,⟨h1,h2,h3⟩,hx⟩
theorem zC{neg:Bool}{r:Sr}(hF:Fits F w)(h:Kh F r l):Zc prog 132 [.bool neg,r.v] w F (sg neg (dv W l)) :=
 .of (enters_of func132 w8 rfl) hF (Vg neg _ l w (h.1 w hF.r) h.2.1 h.2.2)
theorem Ay{r r':Sr}(hF:Fits F w)(h:Kh F r la)(h':Kh F r' lb)(hb0:lb≠[])(h1:la.length<=10000000000)(h2:lb.length<=10000000000):
  QQ prog 134 [r.v,r'.v] w F (λ(c:(Sr×List Int)×(Sr×List Int))=>.tuple #[.slice c.1.1.q c.1.1.n c.1.1.cap,.slice c.2.1.q c.2.1.n c.2.1.cap])
   (λc F=>(Kh F c.1.1 c.1.2/\Kh F c.2.1 c.2.2)/\dv W c.1.2=dv W la/dv W lb/\dv W c.2.2=dv W la%dv W lb):=by
 refine(QQ.lift (val:=λ(c:(Sr×List Int)×(Sr×List Int))=>.tuple #[.slice c.1.1.q c.1.1.n c.1.1.cap,.slice c.2.1.q c.2.1.n c.2.1.cap]) (R:=λc w=>SL w c.1.1.v Ja c.1.2/\SL w c.2.1.v Ja c.2.2)
  (λc=>(DG W c.1.2/\NZ c.1.2)/\(DG W c.2.2/\NZ c.2.2)/\dv W c.1.2=dv W la/dv W lb/\dv W c.2.2=dv W la%dv W lb)
  (enters_of func134 w8 rfl) hF ((LD _ _ la lb w h.2.1 h'.2.1 h.2.2 h'.2.2 (h.1 w hF.r) (h'.1 w hF.r) hb0 h1 h2).mono ?_) λc w' w'' hs hr=>⟨hr.1.GO hs,hr.2.GO hs⟩).imp
  λc F' hf=>⟨c,rfl,λF'' hle=>⟨⟨Kh.le ⟨λw hw=>(hf.1 w hw).1,hf.2.1⟩ hle,Kh.le ⟨λw hw=>(hf.1 w hw).2,hf.2.2.1⟩ hle⟩,hf.2.2.2⟩⟩
 rintro e w' ⟨_,rfl,⟨pq,pr,lq,lr,rfl,hsq,hsr,hdq,hdr,hvq,hvr⟩,hx⟩;obtain⟨q,cap,rfl,hq⟩:=hsq;obtain⟨q',cap',rfl,hq'⟩:=hsr;exact⟨((⟨q,lq.length,cap⟩,lq),(⟨q',lr.length,cap'⟩,lr)),rfl,⟨⟨q,cap,rfl,hq⟩,⟨q',cap',rfl,hq'⟩⟩,⟨hdq,hdr,hvq,hvr⟩,hx⟩
end
theorem Dh{a b:Int}(hb:0<b):
  (0<=sg (decide (a<0)) (Jd a%b)->sg (decide (a<0)) (Jd a/b)=a/b/\sg (decide (a<0)) (Jd a%b)=a%b) /\
  (sg (decide (a<0)) (Jd a%b)<0->sg (decide (a<0)) (Jd a/b)-1=a/b/\sg (decide (a<0)) (Jd a%b)+b=a%b):=by
 have q1:=Int.mul_ediv_add_emod (Jd a) b;have q2:=Int.emod_nonneg (Jd a) (by omega:b≠0);have q3:=Int.emod_lt_of_pos (Jd a) hb;generalize Jd a/b=q at *
 generalize hr:Jd a%b=r at *
 by_cases h:a<0
 ·rw[DX h]at q1;have e1:sg (decide (a<0)) r = -r:=by simp[sg,h]
  have e2:sg (decide (a<0)) q = -q:=by simp[sg,h]
  rw[e1,e2];constructor
  ·intro h0;have:r=0:=O;have g1 : -q*b<=a:=by rw[Int.neg_mul,Int.mul_comm];omega
   have g2:a<(-q+1)*b:=by rw[Int.add_mul,Int.neg_mul,Int.mul_comm q];omega
   exact⟨(ZX hb g1 g2).symm,by rw[Zy g1 g2,Int.neg_mul,Int.mul_comm q];omega⟩
  intro h0;have g1:(-q-1)*b<=a:=by rw[Int.sub_mul,Int.neg_mul,Int.mul_comm q];omega
  have g2:a<(-q-1+1)*b:=by rw[show -q-1+1 = -q from by omega,Int.neg_mul,Int.mul_comm];omega
  exact⟨(ZX hb g1 g2).symm,by rw[Zy g1 g2,Int.sub_mul,Int.neg_mul,Int.mul_comm q];omega⟩
 rw[Wo O]at q1 hr;have e1:sg (decide (a<0)) r=r:=by simp[sg,h]
 have e2:sg (decide (a<0)) q=q:=by simp[sg,h]
 rw[e1,e2];constructor
 ·intro _;have g1:q*b<=a:=by rw[Int.mul_comm];omega
  have g2:a<(q+1)*b:=by rw[Int.add_mul,Int.mul_comm q];omega
  exact⟨(ZX hb g1 g2).symm,by rw[Zy g1 g2,Int.mul_comm q];omega⟩
 intro h0;omega
def Yd(x:Int):Rt x<0↔x<0:=by unfold Rt;split<;>(try split)<;>omega
def Ub(a b:Int):sz (Jd a/b)<=sz a:=by
 rw[<-Md a];apply KA;exact Int.natAbs_ediv_le_natAbs _ _
def uD(n:Bool)(x:Int):sz (sg n x)=sz x:=by unfold sg;split<;>simp[Kq]
def Li{a b:Int}(hb:0<b):sz (a%b)<=sz b:=by
 apply KA;have:=Int.emod_nonneg a (by omega:b≠0);have:=Int.emod_lt_of_pos a hb;omega
abbrev Sy(P:Program)(f:FuncId)(args:List Value)(w:World)(F:Gs)(y z:Int):Prop:=QQ P f args w F (λ(c:Bg×Bg)=>.tuple #[c.1.v,c.2.v]) λc F=>Jt F c.1 y/\Jt F c.2 z
theorem LB{a b:Int}(hF:Fits F w)(h:Jt F g a)(h':Jt F g' b)(hb0:0<b)(hza:sz a<=1000000000)(hzb:sz b<=1000000000)(hcase:g.q.isNone=true->g'.q.isNone=true->(g.s != -9223372036854775808)=false):
  Sy prog 168 [g.v,g'.v] w F (a/b) (a%b):=by
 refine QQ.go (G:=λF=>Jt F g a/\Jt F g' b) func168 hF ⟨h,h'⟩ ?_;refine QG<|QB ?_
 refine Q8 I (vs:=[_,_]) I (λb2=>?_);refine Q8 I (vs:=[_,_]) I (λb3=>?_);refine Qe GZ (λb4=>?_);refine Qe GZ (λb5=>?_);refine QJi<|QG ?_
 refine B0 28 (.bool false) ?_ ?_
 ·refine QB<|QA (QH I EM GL)<|QA (Qf I GL .u3 (.skip .h1))<|QA (Wk I I VZ)<|QJj I ?_
  refine Qn (t:=19) rfl (λhb19=>?_) λhb19=>?_
  ·refine QP I I<|QA (QH I EM GL)<|QP I I<|QA (Qf I GL .u2 (.skip .h1))<|QP I I<|QA (Wk I I VZ)<|wB 2 I ?_
   refine Qn (t:=24) rfl (λhb24=>?_) λhb24=>?_
   ·refine QP I I<|QA (QH I Pa QZ)<|QP I I<|QA (Qf I QZ .u3 .h1)<|wB 4 I ?_
    exact X3 (exd 15 rfl rfl) (congrArg (λb=>some (Value.bool b)) (hcase hb19 hb24)) QJ3 tC
   refine wB 5 I ?_;exact X3 (exd 15 rfl rfl) rfl QJ3 tC
  refine wB 10 I ?_;exact X3 (exd 14 rfl rfl) rfl QJ3 tC
 refine ZP I ?_
 ·refine QLj 4 I<|QA (wH I Qm .u3) ?_
  refine QJ I (λw F hF ⟨ha,hb⟩=>Mj hF (by assumption)) (λc53=>?_);rcases c53 with ⟨v53,l53⟩;dsimp only;refine JM _ (λw F hF ⟨⟨ha,hb⟩,⟨h53,h53p⟩⟩=>And.intro h53.2 h53p) (λp53=>?_);have hl53:=X5 p53.1.1 p53.1.2 p53.2 hza;refine QLi 9 I<|QA (wH I Qm .u2) ?_
  refine QJ I (λw F hF ⟨⟨ha,hb⟩,⟨h53,h53p⟩⟩=>Mj hF (by assumption)) (λc58=>?_);rcases c58 with ⟨v58,l58⟩;dsimp only;refine JM _ (λw F hF ⟨⟨⟨ha,hb⟩,⟨h53,h53p⟩⟩,⟨h58,h58p⟩⟩=>And.intro h58.2 h58p) (λp58=>?_);have hl58:=X5 p58.1.1 p58.1.2 p58.2 hzb;have hb58:l58≠[]:=by rintro rfl;have:=p58.2;rw[Wo O]at this;simp at this;omega
  refine QLi 11 I ?_;refine QJ I (λw F hF ⟨⟨⟨ha,hb⟩,⟨h53,h53p⟩⟩,⟨h58,h58p⟩⟩=>Ay hF (by assumption) (by assumption) hb58 O O) (λc64=>?_);rcases c64 with ⟨⟨v64,l64⟩,v64_,l64_⟩;dsimp only;refine JM _ (λw F hF ⟨⟨⟨⟨ha,hb⟩,⟨h53,h53p⟩⟩,⟨h58,h58p⟩⟩,⟨⟨h64,h64_⟩,h64p⟩⟩=>And.intro h64.2 (And.intro h64_.2 h64p)) (λp64=>?_);rw[p53.2,p58.2,Wo (show 0<=b by omega)]at p64;refine QLi 11 I ?_;refine QJ I (λw F hF ⟨⟨⟨⟨ha,hb⟩,⟨h53,h53p⟩⟩,⟨h58,h58p⟩⟩,⟨⟨h64,h64_⟩,h64p⟩⟩=>zC hF (by assumption)) (λg69=>?_);refine wB 2 I ?_;refine QJ I (λw F hF ⟨⟨⟨⟨⟨ha,hb⟩,⟨h53,h53p⟩⟩,⟨h58,h58p⟩⟩,⟨⟨h64,h64_⟩,h64p⟩⟩,h69⟩=>zC hF (by assumption)) (λg72=>?_);refine Qe GZ (λb14=>?_);refine Qe GZ (λb15=>?_);refine QS (vs:=[_,_]) I I I Qm I .u1 .h2 wU<|QS (vs:=[_,_]) I I I Qm I .here .h2 wU<|QLi 5 I<|QA (wH I Qm .here) ?_
  refine QJ I (λw F hF ⟨⟨⟨⟨⟨⟨ha,hb⟩,⟨h53,h53p⟩⟩,⟨h58,h58p⟩⟩,⟨⟨h64,h64_⟩,h64p⟩⟩,h69⟩,h72⟩=>Nz hF (by assumption)) (λ_=>?_);refine QLi 3 I ?_;have hsz72:sz (sg (decide (a<0)) (dv W l64_))<=1000000000:=by rw[uD,p64.2.2.2];exact Nat.le_trans (Li hb0) hzb
  have hsz69:sz (sg (decide (a<0)) (dv W l64))<=1000000000:=by rw[uD,p64.2.2.1];exact Nat.le_trans (Ub a b) hza
  refine QL I (λhc=>?_) λhc=>?_
  ·refine JY 6 QJ3 mixed wu wu ?_;simp only[List.take_succ_cons,List.take_zero,List.drop_succ_cons,List.drop_zero];refine QI (wH I Qm .u1) ?_;refine QV I (λ_ _ f k=>Fv f O O) (λg77=>?_);refine QV I (λw F hF ⟨⟨⟨⟨⟨⟨⟨⟨ha,hb⟩,⟨h53,h53p⟩⟩,⟨h58,h58p⟩⟩,⟨⟨h64,h64_⟩,h64p⟩⟩,h69⟩,h72⟩,_⟩,h77⟩=>QDo hF (by assumption) (by assumption) hsz69 wv) (λg78=>?_);refine QI (wH I Qm .here)<|QI (wH I Qm .u4) ?_
   refine QV I (λw F hF ⟨⟨⟨⟨⟨⟨⟨⟨⟨ha,hb⟩,⟨h53,h53p⟩⟩,⟨h58,h58p⟩⟩,⟨⟨h64,h64_⟩,h64p⟩⟩,h69⟩,h72⟩,_⟩,h77⟩,h78⟩=>OU hF (by assumption) hb hsz72 hzb) (λg81=>?_);refine X1<|QS (vs:=[_,_]) I I I Qm I .u1 .h2 wU<|QS (vs:=[_,_]) I I I Qm I .here .h2 wU<|QJi<|QG<|JC (.cons_cons _ (.cons_cons _ (.cons _ (.cons _ tF)))) mixed wu<|QI (wH I Qm .u1)<|QI (wH I Qm .here)<|Ju (vs:=[_,_]) I I I Qm I .u3 (.cons_cons _ (.cons_cons _ (.cons _ tF))) tC .h2 wU<|Ju (vs:=[_,_]) I I I Qm I .u2 (.cons_cons _ (.cons_cons _ (.cons _ tF))) tC .h2 wU<|Qv<|QC<|QT ?_
   exact J7 (⟨g78,g81⟩) I (.J4 (c:=[_,_]) I Qm .u3 (.J4 (c:=[_,_]) I Qm .u2 .nil)) I λF ⟨⟨⟨⟨⟨⟨⟨⟨⟨⟨ha,hb⟩,⟨h53,h53p⟩⟩,⟨h58,h58p⟩⟩,⟨⟨h64,h64_⟩,h64p⟩⟩,h69⟩,h72⟩,_⟩,h77⟩,h78⟩,h81⟩=>(by have hd:=(Dh hb0).2 (by rw[<-p64.2.2.2];exact(Yd _).1 (by simpa using hc));rw[p64.2.2.1]at h78;rw[p64.2.2.2]at h81;rw[hd.1]at h78;rw[hd.2]at h81;exact⟨h78,h81⟩)
  refine QLj 3 I<|JC (.cons_cons _ (.cons_cons _ (.cons _ (.cons _ tF)))) mixed wu<|QI (wH I Qm .u1)<|QI (wH I Qm .here)<|Ju (vs:=[_,_]) I I I Qm I .u3 (.cons_cons _ (.cons_cons _ (.cons _ tF))) tC .h2 wU<|Ju (vs:=[_,_]) I I I Qm I .u2 (.cons_cons _ (.cons_cons _ (.cons _ tF))) tC .h2 wU<|Qv<|QC<|QT ?_
  exact J7 (⟨g69,g72⟩) I (.J4 (c:=[_,_]) I Qm .u3 (.J4 (c:=[_,_]) I Qm .u2 .nil)) I λF ⟨⟨⟨⟨⟨⟨⟨ha,hb⟩,⟨h53,h53p⟩⟩,⟨h58,h58p⟩⟩,⟨⟨h64,h64_⟩,h64p⟩⟩,h69⟩,h72⟩,_⟩=>(by have hd:=(Dh hb0).1 (by rw[<-p64.2.2.2];have:=mt (Yd _).2 (by simpa using hc);omega);rw[p64.2.2.1]at h69;rw[p64.2.2.2]at h72;rw[hd.1]at h69;rw[hd.2]at h72;exact⟨h69,h72⟩)
theorem Pk{a b:Int}(hF:Fits F w)(h:Jt F g a)(h':Jt F g' b)(hb0:0<b)(hza:sz a<=1000000000)(hzb:sz b<=1000000000):
  Sy prog 168 [g.v,g'.v] w F (a/b) (a%b):=by
 by_cases hs:g.q.isNone=true/\g'.q.isNone=true/\(g.s != -9223372036854775808)=true
 ·obtain⟨s,q,n,cap⟩:=g;obtain⟨s',q',n',cap'⟩:=g';have hp:=h w hF.r;have hp':=h' w hF.r;obtain⟨h1,h2,h3⟩:=hs;dsimp only at *
  rcases hp.isNone with ⟨rfl,rfl,rfl,rfl,k0,k1⟩ | ⟨_,_,rfl⟩
  ·rcases hp'.isNone with ⟨rfl,rfl,rfl,rfl,k0',k1'⟩ | ⟨_,_,rfl⟩
   ·have hm:s≠-9223372036854775808:=by simpa using h3
    refine(QQ.lift (val:=λ(c:Bg×Bg)=>.tuple #[c.1.v,c.2.v]) (R:=λc w=>Yo w c.1.s c.1.q c.1.n c.1.cap (s/s')/\Yo w c.2.s c.2.q c.2.n c.2.cap (s%s')) (λ_=>True) (enters_of func168 w8 rfl) hF
     ((Tn s s' w O k1 hb0 k1').mono ?_) λc w' w'' hs hr=>⟨hr.1.GO hs,hr.2.GO hs⟩).imp λc F' hf=>⟨c,rfl,λF'' hle=>⟨Jt.le (λw hw=>(hf.1 w hw).1) hle,Jt.le (λw hw=>(hf.1 w hw).2) hle⟩⟩
    rintro e w' ⟨_,rfl,⟨v,v',rfl,⟨s1,q1,n1,cap1,rfl,hp1⟩,⟨s2,q2,n2,cap2,rfl,hp2⟩⟩,hx⟩;exact⟨(⟨s1,q1,n1,cap1⟩,⟨s2,q2,n2,cap2⟩),rfl,⟨hp1,hp2⟩,trivial,hx⟩
   cases h2
  cases h1
 refine LB hF h h' hb0 hza hzb λh1 h2=>?_;cases hv:(g.s != -9223372036854775808)with
 |false=>rfl
 |true=>exact absurd ⟨h1,h2,hv⟩ hs
theorem EH{a b:Int}(h:b ∣ a): -a / -b=a/b:=by
 obtain⟨c,rfl⟩:=h;by_cases hb:b=0
 ·subst hb;simp
 rw[Int.ediv_neg,<-Int.mul_neg,Int.mul_ediv_cancel_left _ hb,Int.mul_ediv_cancel_left _ hb];omega
theorem uY{a b:Int}(hF:Fits F w)(h:Jt F g a)(h':Jt F g' b)(hb0:b≠0)(hd:b ∣ a)(hza:sz a<=1000000000)(hzb:sz b<=1000000000):
  Zc prog 124 [g.v,g'.v] w F (a/b):=by
 refine QQ.go (G:=λF=>Jt F g a/\Jt F g' b) func124 hF ⟨h,h'⟩ ?_;refine QG<|QB ?_
 refine Q8 I (vs:=[_,_]) I (λb2=>?_);refine Q8 I (vs:=[_,_]) I (λb3=>?_);refine Qe GZ (λb4=>?_);refine QLi 5 I<|QA (wH I Qm .u1) ?_
 refine QJ I (λw F hF ⟨ha,hb⟩=>Nz hF (by assumption)) (λ_=>?_);refine QLi 3 I ?_;refine QL I (λhc=>?_) λhc=>?_
 ·refine JY 4 QJ3 mixed wu wu ?_;simp only[List.take_succ_cons,List.take_zero,List.drop_succ_cons,List.drop_zero];refine QI (wH I Qm .u2) ?_;refine QV I (λw F hF ⟨⟨ha,hb⟩,_⟩=>SN hF (by assumption)) (λg11=>?_);refine QI (wH I Qm .u1) ?_;refine QV I (λw F hF ⟨⟨⟨ha,hb⟩,_⟩,h11⟩=>SN hF (by assumption)) (λg13=>?_);refine X1<|QS (vs:=[_,_]) I I I Qm I .u2 .h2 wU<|QS (vs:=[_,_]) I I I Qm I .u1 .h2 wU<|QJi<|QKt<|QA (wH I Qm .u2)<|QA (wH I Qm .u1) ?_
  refine QJ I (λ_ _ f k=>Pk f k.1.2 k.2 (by have:=(Yd b).1 (by simpa using hc);omega) (by rw[Kq];exact hza) (by rw[Kq];exact hzb)) (λc17=>?_);rcases c17 with ⟨g17,g17_⟩;dsimp only;refine wB 3 I ?_;refine Qe GZ (λb5=>?_);refine Qe GZ (λb6=>?_);refine QS (vs:=[_,_]) I I I Qm I .u1 .h2 wU<|QS (vs:=[_,_]) I I I Qm I .here .h2 wU<|QJi<|QKt<|QA (wH I Qm .u1)<|QS (vs:=[_,_]) I I I Qm I .u2 .h2 wU<|QJi<|QT ?_
  exact QM (_) rfl (.J4 (c:=[_,_]) I Qm .u2 .nil) rfl λF ⟨⟨⟨⟨⟨ha,hb⟩,_⟩,h11⟩,h13⟩,⟨h17,h17_⟩⟩=>(by rw[show -a / -b=a/b from EH hd]at h17;exact h17)
 refine QLj 4 I<|QA (wH I Qm .u2)<|QA (wH I Qm .u1) ?_
 refine QJ I (λ_ _ f k=>Pk f k.1.1 k.1.2 (by have:=mt (Yd b).2 (by simpa using hc);omega) hza hzb) (λc17=>?_);rcases c17 with ⟨g17,g17_⟩;dsimp only;refine wB 3 I ?_;refine Qe GZ (λb5=>?_);refine Qe GZ (λb6=>?_);refine QS (vs:=[_,_]) I I I Qm I .u1 .h2 wU<|QS (vs:=[_,_]) I I I Qm I .here .h2 wU<|QJi<|QKt<|QA (wH I Qm .u1)<|QS (vs:=[_,_]) I I I Qm I .u2 .h2 wU<|QJi<|QT ?_
 exact QM (_) rfl (.J4 (c:=[_,_]) I Qm .u2 .nil) rfl λF h9=>h9.2.1
def jh(x:Int)(h:Rt x≠0):x≠0:=by rintro rfl;exact h rfl
def QAZ(x:Int)(h:Rt x=0):x=0:=by unfold Rt at h;split at h<;>(try split at h)<;>omega
structure QE8(a b:Int) where
 x:Int
 y:Int
 gx:Bg
 gy:Bg
 hx:0<=x
 hy:0<=y
 hg:Int.gcd x y=Int.gcd a b
 sx:sz x<=1000000000
 sy:sz y<=1000000000
theorem cM{a b:Int}(hF:Fits F w)(h:Jt F g a)(h':Jt F g' b)(hza:sz a<=1000000000)(hzb:sz b<=1000000000):
  Zc prog 100 [g.v,g'.v] w F (Int.gcd a b):=by
 refine QQ.go (G:=λF=>Jt F g a/\Jt F g' b) func100 hF ⟨h,h'⟩ ?_;refine QG<|QB ?_
 refine Q8 I (vs:=[_,_]) I (λb2=>?_);refine Q8 I (vs:=[_,_]) I (λb3=>?_);refine Qe GZ (λb4=>?_);refine QJi<|QG<|JY 4 QJ3 mixed wu wu ?_
 simp only[List.take_succ_cons,List.take_zero,List.drop_succ_cons,List.drop_zero];refine QI (wH I Qm .u2) ?_;refine QV I (λw F hF ⟨ha,hb⟩=>cm hF (by assumption)) (λg8=>?_);refine QI (wH I Qm .u1) ?_;refine QV I (λw F hF ⟨⟨ha,hb⟩,h8⟩=>cm hF (by assumption)) (λg10=>?_);refine X1<|QS (vs:=[_,_]) I I I Qm I .u2 .h2 wU<|QS (vs:=[_,_]) I I I Qm I .u1 .h2 wU<|QLi 4 I ?_
 refine KK (ι:=QE8 a b) (λi=>[(2,.pointer (some ⟨b2,0,none⟩)),(3,.pointer (some ⟨b3,0,none⟩)),(4,.pointer (some ⟨b4,0,none⟩))]) (λi=>[(b4,.cells #[.int .i64 0,.slice none 0 0] 75 (0,0)),(b3,.cells #[.int .i64 i.gy.s,.slice i.gy.q i.gy.n i.gy.cap] 75 (0,0)),(b2,.cells #[.int .i64 i.gx.s,.slice i.gx.q i.gx.n i.gx.cap] 75 (0,0))])
  (λi F=>Jt F i.gx i.x/\Jt F i.gy i.y) (λi=>i.y.toNat) ⟨Jd a,Jd b,g8,g10,by rw[K7];omega,by rw[K7];omega,by rw[K7,K7];rfl,by rw[Md];exact hza,by rw[Md];exact hzb⟩ wV QJ3 (λ_ ⟨⟨_,h8⟩,h10⟩=>⟨h8,h10⟩) λi=>?_
 refine QG<|QKt<|QA (wH I Qm .u1) ?_
 refine QJ I (λw F hF ⟨hX,hY⟩=>Nz hF (by assumption)) (λ_=>?_);refine QLi 3 I ?_;refine QL I (λhc=>?_) λhc=>?_
 ·refine QLj 5 I<|QA (wH I Qm .u2)<|QA (wH I Qm .u1) ?_
  refine QJ I (λ_ _ f k=>Pk f k.1.1 k.1.2 (by have:=i.hy;have:=jh i.y (by simpa using hc);omega) i.sx i.sy) (λc17=>?_);rcases c17 with ⟨g17,g17_⟩;dsimp only;refine wB 3 I ?_;refine Qe GZ (λb5=>?_);refine Qe GZ (λb6=>?_);refine QS (vs:=[_,_]) I I I Qm I .u1 .h2 wU<|QS (vs:=[_,_]) I I I Qm I .here .h2 wU<|QJi<|JY 3 (.cons_cons _ (.cons_cons _ (.cons_cons _ (.cons_cons _ (.cons _ .slnil))))) mixed wu wu ?_
  simp only[List.take_succ_cons,List.take_zero,List.drop_succ_cons,List.drop_zero];refine QI (wH I Qm .u3)<|QI (wH I Qm .here)<|Ju (vs:=[_,_]) I I I Qm I .u4 tF tC .h2 wU<|X1<|QS (vs:=[_,_]) I I I Qm I .u3 .h2 wU<|QF<|Qa ?_
  have hy0:0<i.y:=by have:=i.hy;have:=jh i.y (by simpa using hc);omega
  have hm0:=Int.emod_nonneg i.x (by omega:i.y≠0);have hm1:=Int.emod_lt_of_pos i.x hy0;refine Qb (⟨i.y,i.x%i.y,i.gy,g17_,i.hy,hm0,by rw[<-i.hg,Int.gcd_comm,Int.emod_def];first | rw[Int.gcd_sub_mul_left_left] | rw[Int.gcd_sub_mul_right_left] | rw[Int.gcd_sub_mul_left_right],i.sy,Nat.le_trans (Li hy0) i.sy⟩:QE8 a b) (hg:=λ_ ⟨⟨⟨_,hY⟩,_⟩,⟨_,h17⟩⟩=>⟨hY,h17⟩)
 refine Q7 ?_;refine QKt<|QA (wH I Qm .u2)<|QS (vs:=[_,_]) I I I Qm I .here .h2 wU<|QJi<|QT ?_
 exact QM (_) rfl (.J4 (c:=[_,_]) I Qm .here .nil) rfl λF h9=>(by have h0:i.y=0:=QAZ i.y (by simpa using hc);have e:=i.hg;rw[h0,Int.gcd_zero_right]at e;rw[<-e,Int.natAbs_of_nonneg i.hx];exact h9.1.1)
def Ua(a:Int):∀e:Nat,sz (a^e)<=e*sz a+1
 |0=>by simp;decide
 |e+1=>by
  rw[Int.pow_succ];have:=Zi (a^e) a;have:=Ua a e;rw[Nat.add_mul];omega
structure QBg(K:Nat) where
 k:Int
 e:Nat
 p:Nat
 go:Bg
 gx:Bg
 hk:0<=k
 hK:k<=9223372036854775807
 hp:1<=p
 h:e+p*k.toNat=K
structure QBf(K p:Nat)(k:Int) where
 e:Nat
 go:Bg
 h:e+p*(2*(k.toNat/2))=K
def TQ{a:Int}{K e:Nat}(he:e<=K)(h:K*sz a<=500000000):sz (a^e)<=1000000000:=by
 have h1:=Ua a e;have h2:=Nat.mul_le_mul_right (sz a) he;omega
theorem QD5{a k:Int}(hF:Fits F w)(h:Jt F g a)(hk:0<=k)(hK:k<=9223372036854775807)(hz:k.toNat*sz a<=500000000):
  Zc prog 129 [g.v,.int .i64 k] w F (a^k.toNat):=by
 refine QQ.go (G:=λF=>Jt F g a) func129 hF h ?_;refine QKt<|Q8 I (vs:=[_,_]) I λb2=>Qe GZ λb4=>QJi<|QKt<|QJ I (λ_ _ f k=>Fv f O O) λg6=>Qe GZ λb5=>QS (vs:=[_,_]) I I I Qm I .here .h2 wU<|QLi 4 I ?_
 refine KK (ι:=QBg k.toNat) (λi=>[(1,.int .i64 i.k),(2,.pointer (some ⟨b2,0,none⟩)),(4,.pointer (some ⟨b4,0,none⟩)),(5,.pointer (some ⟨b5,0,none⟩))]) (λi=>[(b5,.cells #[.int .i64 i.go.s,.slice i.go.q i.go.n i.go.cap] 75 (0,0)),(b4,.cells #[.int .i64 0,.slice none 0 0] 75 (0,0)),(b2,.cells #[.int .i64 i.gx.s,.slice i.gx.q i.gx.n i.gx.cap] 75 (0,0))])
  (λi F=>Jt F i.go (a^i.e)/\Jt F i.gx (a^i.p)) (λi=>i.k.toNat) ⟨k,0,1,g6,g,hk,hK,Nat.le_refl _,w9⟩ wW QJ3 (λ_ ⟨h1,h6⟩=>⟨by simpa using h6,by show Jt _ _ (a^1);rw[Int.pow_succ,Int.pow_zero,Int.one_mul];exact h1⟩) λi=>?_
 refine wA 7 I ?_;refine QL I (λhc=>?_) λhc=>?_
 ·refine QLj 4 I ?_;have hk0:0<i.k:=by simpa using hc
  have hpk:i.p<=k.toNat:=by have:=i.h;have:=Nat.mul_le_mul_left i.p (show 1<=i.k.toNat by omega);omega
  have hik:=i.hk;have hiK:=i.hK;refine Hg (ι:=QBf k.toNat i.p i.k) (λj=>[(1,.int .i64 i.k),(2,.pointer (some ⟨b2,0,none⟩)),(4,.pointer (some ⟨b4,0,none⟩)),(5,.pointer (some ⟨b5,0,none⟩))]) (λj=>[(b5,.cells #[.int .i64 j.go.s,.slice j.go.q j.go.n j.go.cap] 75 (0,0)),(b4,.cells #[.int .i64 0,.slice none 0 0] 75 (0,0)),(b2,.cells #[.int .i64 i.gx.s,.slice i.gx.q i.gx.n i.gx.cap] 75 (0,0))])
   (λj F=>Jt F j.go (a^j.e)/\Jt F i.gx (a^i.p)) ?_ ?_
  ·refine wS I<|QA (QAk I I O)<|QLi 3 I ?_
   refine QL I (λhc=>?_) λhc=>?_
   ·refine QB<|QA (wH I Qm .here)<|QA (wH I Qm .u2)<|QJ I (λ_ _ f k=>BJ f k.1 k.2 (TQ (wm i.h) hz) (TQ hpk hz)) λg16=>QS (vs:=[_,_]) I I I Qm I .here .h2 wU<|QF ?_
    have hodd:i.k%2=1:=by simpa using hc
    refine XG (⟨i.e+i.p,g16,by have:=i.h;have e:i.k.toNat=2*(i.k.toNat/2)+1:=O;rw[e,Nat.mul_add]at this;omega⟩:QBf k.toNat i.p i.k) (hg:=λ_ ⟨⟨_,hX⟩,h16⟩=>⟨by show Jt _ _ (a^(i.e+i.p));rw[Int.pow_add];exact h16,hX⟩)
   refine QK ?_;have hev:i.k%2=0:=by have:i.k%2≠1:=(by simpa using hc);omega
   refine XG (⟨i.e,i.go,by have:=i.h;have e:i.k.toNat=2*(i.k.toNat/2):=O;rw[<-e];exact this⟩:QBf k.toNat i.p i.k)
  intro j;refine wA 6 I ?_;refine QL I (λhc=>?_) λhc=>?_
  ·refine QB<|QA (wH I Qm .u2)<|QA (wH I Qm .u2)<|QJ I (λ_ _ f k=>BJ f k.2 k.2 (TQ hpk hz) (TQ hpk hz)) λg21=>QS (vs:=[_,_]) I I I Qm I .u2 .h2 wU<|QF<|Qa<|QLk 3 I<|QA (xC I I)<|wB 2 I ?_
   have hk2:(i.k/2).toNat=i.k.toNat/2:=O;refine Qb (⟨i.k/2,j.e,i.p+i.p,j.go,g21,O,O,wm i.hp,by rw[hk2];have:=j.h;rw[Nat.mul_left_comm]at this;rw[Nat.add_mul];omega⟩:QBg k.toNat) (hg:=λ_ ⟨⟨hO,_⟩,h21⟩=>⟨hO,by show Jt _ _ (a^(i.p+i.p));rw[Int.pow_add];exact h21⟩)
  refine QK<|Qa<|QLk 3 I<|QA (xC I I)<|wB 2 I ?_
  have hk1:i.k=1:=by have:¬1<i.k:=(by simpa using hc);omega
  have hk2:(i.k/2).toNat=i.k.toNat/2:=O;refine Qb (⟨i.k/2,j.e,i.p,j.go,i.gx,O,O,i.hp,by rw[hk2];have:=j.h;have h0:i.k.toNat/2=0:=O;rw[h0]at this ⊢;simpa using this⟩:QBg k.toNat)
 refine Q7 ?_;refine QKt<|QA (wH I Qm .here)<|QS (vs:=[_,_]) I I I Qm I .u1 .h2 wU<|QJi<|QT ?_
 exact QM (_) rfl (.J4 (c:=[_,_]) I Qm .u1 .nil) rfl λF h9=>(by have h0:i.k.toNat=0:=(by have:¬0<i.k:=(by simpa using hc);omega);have e:=i.h;rw[h0]at e;have e2:i.e=k.toNat:=(by simpa using e);have e3:=congrArg (λn=>Jt F i.go (a^n)) e2;exact cast e3 h9.1)
structure Fr where
 n:Bg
 d:Bg
@[reducible] def Fr.v (x:Fr):Value:=.agg #[.int .i64 x.n.s,.slice x.n.q x.n.n x.n.cap,.int .i64 x.d.s,.slice x.d.q x.d.n x.d.cap]
def Jl(F:Gs)(x:Fr)(r:Rat):Prop:=Jt F x.n r.num/\Jt F x.d r.den
def Jl.le{x:Fr}{r:Rat}(h:Jl F x r)(k:Gs.le F F'):Jl F' x r:=⟨h.1.le k,h.2.le k⟩
instance{x:Fr}{r:Rat}: Up (λF=>Jl F x r):=⟨λk h=>Jl.le h k⟩
abbrev ZQ(P:Program)(f:FuncId)(args:List Value)(w:World)(F:Gs)(r:Rat):Prop:=QQ P f args w F Fr.v λx F=>Jl F x r
def XH(r:Rat):Nat:=max (sz r.num) (sz (r.den:Int))
def JU(r:Rat):sz r.num<=XH r:=Nat.le_max_left _ _
def JQ(r:Rat):sz (r.den:Int)<=XH r:=Nat.le_max_right _ _
def den_pos(r:Rat):(0:Int)<r.den:=wm r.den_pos
theorem Yo.one{s:Int}{n:Nat}(h:Yo w s q n cap z):(q.isNone=true->(s==1)=decide (z=1))/\(q.isNone=false->decide (z=1)=false):=by
 rcases h with ⟨rfl,rfl,rfl,rfl,_⟩ | ⟨b,off,l,rfl,_,_,_,_,_,_,_,h,hz,hb⟩
 ·exact⟨λ_=>by rw[Bool.eq_iff_iff];simp,λh=>(by cases h)⟩
 refine⟨λh=>(by cases h),λ_=>?_⟩;rcases h with rfl | rfl<;>simp<;>omega
structure MkI(a b:Int) where
 x:Int
 y:Int
 gx:Bg
 gy:Bg
 hy:0<y
 e:Rat.divInt x y=Rat.divInt a b
 sx:sz x<=1000000000
 sy:sz y<=1000000000
def LG(x:Int):(Rat.divInt x 1).num=x/\(Rat.divInt x 1).den=1:=by
 rw[Rat.num_divInt,Rat.den_divInt];simp
def K8{x y:Int}(h:0<y):(Int.gcd x y:Int)≠0:=by
 have:Int.gcd x y≠0:=by rw[Ne,Int.gcd_eq_zero_iff];omega
 omega
def Ap{x y:Int}(h:0<y):sz (Int.gcd x y:Int)<=sz y:=by
 apply KA;have:=Int.gcd_le_right x h;omega
def YH{x y:Int}(h:0<y):(Rat.divInt x y).num=x/(Int.gcd x y:Int)/\((Rat.divInt x y).den:Int)=y/(Int.gcd x y:Int):=by
 rw[Rat.num_divInt,Rat.den_divInt,if_neg O,Int.sign_eq_one_of_pos h,Int.one_mul,Int.gcd_comm y x];refine⟨rfl,?_⟩;rw[Int.natCast_ediv,Int.natAbs_of_nonneg O]
theorem AJ{a b:Int}(hF:Fits F w)(h:Jt F g a)(h':Jt F g' b)(hb0:b≠0)(hza:sz a<=1000000000)(hzb:sz b<=1000000000):
  ZQ prog 60 [g.v,g'.v] w F (Rat.divInt a b):=by
 refine QQ.go (G:=λF=>Jt F g a/\Jt F g' b) func60 hF ⟨h,h'⟩ ?_;refine QG<|QB ?_
 refine Q8 I (vs:=[_,_]) I (λb2=>?_);refine Q8 I (vs:=[_,_]) I (λb3=>?_);refine Qe VU (λb4=>?_);refine QF<|QC ?_
 refine Hg (ι:=MkI a b) (λi=>[(2,.pointer (some ⟨b2,0,none⟩)),(3,.pointer (some ⟨b3,0,none⟩)),(4,.pointer (some ⟨b4,0,none⟩))]) (λi=>[(b4,.cells #[.int .i64 0,.slice none 0 0,.int .i64 0,.slice none 0 0] 77 (0,0)),(b3,.cells #[.int .i64 i.gy.s,.slice i.gy.q i.gy.n i.gy.cap] 75 (0,0)),(b2,.cells #[.int .i64 i.gx.s,.slice i.gx.q i.gx.n i.gx.cap] 75 (0,0))]) (λi F=>Jt F i.gx i.x/\Jt F i.gy i.y) ?_ ?_
 ·refine QKt<|QA (wH I Qm .u1) ?_
  refine QJ I (λw F hF ⟨ha,hb⟩=>Nz hF (by assumption)) (λ_=>?_);refine QLi 3 I ?_;refine QL I (λhc=>?_) λhc=>?_
  ·refine JY 4 QJ3 mixed wu wu ?_;simp only[List.take_succ_cons,List.take_zero,List.drop_succ_cons,List.drop_zero];refine QI (wH I Qm .u2) ?_;refine QV I (λw F hF ⟨⟨ha,hb⟩,_⟩=>SN hF (by assumption)) (λg10=>?_);refine QI (wH I Qm .u1) ?_;refine QV I (λw F hF ⟨⟨⟨ha,hb⟩,_⟩,h10⟩=>SN hF (by assumption)) (λg12=>?_);refine X1<|QS (vs:=[_,_]) I I I Qm I .u2 .h2 wU<|QS (vs:=[_,_]) I I I Qm I .u1 .h2 wU<|QF ?_
   have hb1:b<0:=(Yd b).1 (by simpa using hc);exact XG (⟨-a,-b,g10,g12,O,Rat.neg_divInt_neg a b,by rw[Kq];exact hza,by rw[Kq];exact hzb⟩:MkI a b)
  refine QK ?_;have hb1:¬b<0:=mt (Yd b).2 (by simpa using hc);exact XG (⟨a,b,g,g',O,rfl,hza,hzb⟩:MkI a b)
 intro i;refine QG ?_;refine Xy _ (λw _ f k=>(k.2 w f.r).one) (λp1=>?_);refine B0 20 (.bool (decide (i.y=1))) ?_ ?_
 ·refine QB<|QA (QH I EM GL)<|QA (Qf I GL .u1 (.skip .h1))<|QA (Wk I I VZ)<|QJj I ?_
  refine Qn (t:=16) rfl (λhb16=>?_) λhb16=>?_
  ·refine QP I I<|QA (QH I Pa QZ)<|QP I I<|QA (Qf I QZ .u1 .h1)<|wB 4 I ?_
   exact X3 (exd 9 rfl rfl) (congrArg (λb=>some (Value.bool b)) (p1.1 hb16)) QJ3 tC
  refine wB 5 I ?_;exact X3 (exd 9 rfl rfl) (congrArg (λb=>some (Value.bool b)) (p1.2 hb16).symm) QJ3 tC
 refine QL I (λhc=>?_) λhc=>?_
 ·refine QKt<|QA (wH I Qm .u2)<|QA (wH I Qm .u1)<|QA (Jr I Uy VU (.cons (vs:=[_,_]) I I I .h2 (.cons (vs:=[_,_]) I I I (.skip (.skip .h2)) .nil)))<|QS (vs:=[_,_,_,_]) I I I JA I .here .h4 wW<|QJi<|QT ?_
  exact QM (⟨i.gx,i.gy⟩) I (.J4 (c:=[_,_,_,_]) I JA .here .nil) rfl λF ⟨ha,hb⟩=>(by have h1:i.y=1:=(by simpa using hc);have e:=LG i.x;rw[<-i.e,h1];exact⟨by rw[e.1];exact ha,by rw[e.2];have hb1:=hb;rw[h1]at hb1;exact hb1⟩)
 refine QLj 4 I<|QA (wH I Qm .u2)<|QA (wH I Qm .u1) ?_
 refine QJ I (λ_ _ f k=>cM f k.1 k.2 i.sx i.sy) (λg26=>?_);refine Qe GZ (λb5=>?_);refine QS (vs:=[_,_]) I I I Qm I .here .h2 wU<|QJi<|QG<|JC (.cons_cons _ (.cons _ tF)) mixed wu<|QI (wH I Qm .u2)<|QI (wH I Qm .here) ?_
 refine QV I (λ_ _ f k=>uY f k.1.1 k.2 (K8 i.hy) (Int.gcd_dvd_left ..) i.sx (Nat.le_trans (Ap i.hy) i.sy)) (λg29=>?_);refine QI (wH I Qm .u1)<|QI (wH I Qm .here) ?_
 refine QV I (λ_ _ f k=>uY f k.1.1.2 k.1.2 (K8 i.hy) (Int.gcd_dvd_right ..) i.sy (Nat.le_trans (Ap i.hy) i.sy)) (λg32=>?_);refine QI (Jr I Uy VU (.cons (vs:=[_,_]) I I I .h2 (.cons (vs:=[_,_]) I I I (.skip (.skip .h2)) .nil)))<|Ju (vs:=[_,_,_,_]) I I I JA I .u1 tF (λ_ h=>h.1.1) .h4 wW<|Qv<|QC<|QT ?_
 exact QM (⟨g29,g32⟩) I (.J4 (c:=[_,_,_,_]) I JA .u1 .nil) rfl λF h9=>(by have e:=YH (x:=i.x) i.hy;rw[<-i.e];exact⟨by rw[e.1];exact h9.1.2,by rw[e.2];exact h9.2⟩)
theorem S5{a:Int}(hF:Fits F w)(h:Jt F g a):ZQ prog 58 [g.v] w F (a:Rat):=by
 refine QQ.go (G:=λF=>Jt F g a) func58 hF h ?_;refine QG<|QB ?_
 refine Q8 I (vs:=[_,_]) I (λb1=>?_);refine Qe VU (λb2=>?_);refine QJi<|QG<|JC (.cons _ tF) mixed wu<|QI (wH I Qm .here) ?_
 refine QV I (λ_ _ f k=>Fv f O O) (λg4=>?_);refine QI (Jr I Uy VU (.cons (vs:=[_,_]) I I I .h2 (.cons (vs:=[_,_]) I I I (.skip (.skip .h2)) .nil)))<|Ju (vs:=[_,_,_,_]) I I I JA I .here tF tD .h4 wW<|Qv<|QC<|QT ?_
 exact QM (⟨g,g4⟩) I (.J4 (c:=[_,_,_,_]) I JA .here .nil) rfl λF h9=>⟨h9.1,h9.2⟩
theorem f_g{n:Int}(hF:Fits F w)(h0 : -9223372036854775808<=n)(h1:n<=9223372036854775807):ZQ prog 21 [.int .i64 n] w F (n:Rat):=by
 refine QQ.go (G:=λF=>True) func21 hF trivial ?_;refine QG<|QB ?_
 refine Qe VU (λb2=>?_);refine QLi 5 I ?_;refine QJ I (λ_ _ f _=>Fv f O O) (λg4=>?_);refine QJ I (λw F hF ⟨_,h4⟩=>S5 hF (by assumption)) (λx5=>?_);refine QS (vs:=[_,_,_,_]) I I I JA I .here .h4 wW<|QJi<|QT ?_
 exact QM (_) rfl (.J4 (c:=[_,_,_,_]) I JA .here .nil) rfl λF ⟨⟨_,h4⟩,⟨h5,h5_⟩⟩=>⟨‹_›,‹_›⟩
theorem Tg{x:Fr}{r:Rat}(hF:Fits F w)(h:Jl F x r):QY prog 26 [x.v] w F (.int .i64 (Rt r.num)):=by
 refine QQ.go (G:=λF=>Jl F x r) func26 hF h ?_;refine QG<|QB ?_
 refine Q8 I (vs:=[_,_,_,_]) I (λb1=>?_);refine QLi 5 I<|QA (QH I Yw Qm)<|QA (wH I Qm .here) ?_
 refine QJ I (λ_ _ f k=>Nz (g:=x.n) f k.1) (λ_=>?_);refine wR I<|QT ?_
 exact QL3 I I I tB
theorem EJ{x:Fr}{r:Rat}(hF:Fits F w)(h:Jl F x r):QY prog 65 [x.v] w F (.bool (decide ((r.den:Int)=1))):=by
 refine QQ.go (G:=λF=>Jl F x r) func65 hF h ?_;refine Xy _ (λw _ f h=>(h.2 w f.r).one) (λp1=>?_);refine QG<|QB ?_
 refine Q8 I (vs:=[_,_,_,_]) I (λb1=>?_);refine QLi 5 I<|QA (QH I Yv Qm)<|QA (QH I EM GL)<|QA (Qf I GL .here (.skip (.skip (.skip .h1))))<|QA (Wk I I VZ)<|QJj I ?_
 refine Qn (t:=7) rfl (λhb7=>?_) λhb7=>?_
 ·refine QP I I<|QA (QH I Yv Qm)<|QP I I<|QA (QH I Pa QZ)<|QP I I<|QA (Qf I QZ .here (.skip (.skip .h1)))<|QLi 7 I ?_
  exact QL3 I I (by show Value.bool _=Value.bool _;rw[<-p1.1 hb7];first | rfl | skip) tB
 refine QLi 9 I ?_;exact QL3 I I (congrArg Value.bool (p1.2 hb7)) tB
theorem QBF{x:Fr}{r:Rat}(hF:Fits F w)(h:Jl F x r):ZQ prog 27 [x.v] w F (-r):=by
 refine QQ.go (G:=λF=>Jl F x r) func27 hF h ?_;refine QG<|QB ?_
 refine Q8 I (vs:=[_,_,_,_]) I (λb1=>?_);refine Qe VU (λb2=>?_);refine QJi<|QG<|JC (.cons _ tF) mixed wu<|QI (QH I Yw Qm)<|QI (wH I Qm .here) ?_
 refine QV I (λ_ _ f k=>SN (g:=x.n) f k.1) (λg5=>?_);refine QI (QH I Yv Qm)<|QI (QX (vs:=[_,_]) I Qm .here (.skip (.skip .h2)) I)<|QI (Jr I Uy VU (.cons (vs:=[_,_]) I I I .h2 (.cons (vs:=[_,_]) I I I (.skip (.skip .h2)) .nil)))<|Ju (vs:=[_,_,_,_]) I I I JA I .here tF tD .h4 wW<|Qv<|QC<|QT ?_
 exact QM (⟨g5,x.d⟩) I (.J4 (c:=[_,_,_,_]) I JA .here .nil) rfl λF h9=>⟨h9.2,h9.1.2⟩
@[reducible] def tx (l:List UInt8):Value:=.string ⟨l.toArray⟩
theorem S7(l:List UInt8):(⟨l.toArray⟩:ByteArray).size=l.length:=by rfl
theorem IC(l:List UInt8)(i j:Nat):(⟨l.toArray⟩:ByteArray).extract i j=⟨((l.take j).drop i).toArray⟩:=by
 apply ByteArray.ext;simp[ByteArray.data_extract,List.extract_toArray,List.extract_eq_take_drop,Array.mk.injEq,List.drop_take]
section
variable{P:Program}{N:Nat}{m:Sl}{Y:World->Prop}{ty:TypeId}
theorem XP{b:List UInt8}(hx:ev m x=some (tx a))(hy:ev m y=some (tx b))(h:a.length+b.length<=9223372036854775807):Qt P N m Y (.binOp .add T x y yT) ty (tx (a++b)):=by
 have:=xK (P:=P) (N:=N) (S:=Y) (ty:=ty) (T:=T) (yT:=yT) hx hy (by grind[S7]);trivial
def ZD{b:List UInt8}(hx:ev m x=some (tx a))(hy:ev m y=some (tx b)):Qt P N m Y (.binOp .eql T x y yT) ty (.bool (a==b)) :=
 QR hx hy (by show some _=_;simp)
def PA{b:List UInt8}(hx:ev m x=some (tx a))(hy:ev m y=some (tx b)):Qt P N m Y (.binOp .neq T x y yT) ty (.bool (!(a==b))) :=
 QR hx hy (by show some _=_;simp)
theorem Jx(hx:ev m x=some (tx a))(hT:Bj P T=true):Qt P N m Y (.call ⟨.builtin .len,#[x],#[T]⟩) ty (.int .i64 a.length):=by
 grind[xI,S7]
def KG{i:Nat}(hx:ev m x=some (tx a))(hy:ev m y=some (.int .i64 (i:Int)))(hT:Bj P T=true)(hi:i<a.length):Qt P N m Y (.index T x y) ty (.int .u8 (a[i].toNat:Int)):=by
 have:=xJ (N:=N) (S:=Y) (ty:=ty) hx hy hT (by trivial);trivial
theorem DR{lo hi:Option _}{vl:Option Value}(l h:Nat)(hx:ev m x=some (tx a))(el:Fw m lo=some vl)(eh:Fw m hi=some vh)(hT:Bj P T=true)
  (hlo:(vl=none/\l=0)\/vl=some (.int .i64 (l:Int))) (hhi:(vh=none/\h=a.length)\/vh=some (.int .i64 (h:Int))) (h1:l<=h) (h2:h<=a.length):Qt P N m Y (.slice T x lo hi none) ty (tx ((a.take h).drop l)):=by
 have:=IX (N:=N) (S:=Y) (ty:=ty) hx el eh hT hlo (by trivial) h1 (by trivial)
 grind[IC]
def V8{hi:Option _}(h:Nat)(hx:ev m x=some (tx a))(eh:Fw m hi=some vh)(hT:Bj P T=true)(hhi:vh=some (.int .i64 (h:Int)))(h2:h<=a.length):Qt P N m Y (.slice T x none hi none) ty (tx (a.take h)) :=
 DR 0 h hx rfl eh hT (.inl ⟨rfl,rfl⟩) (.inr hhi) (Nat.zero_le _) h2
theorem Z2{lo:Option _}{vl:Option Value}(l:Nat)(hx:ev m x=some (tx a))(el:Fw m lo=some vl)(hT:Bj P T=true)(hlo:vl=some (.int .i64 (l:Int)))(h1:l<=a.length):Qt P N m Y (.slice T x lo none none) ty (tx (a.drop l)):=by
 have:=DR (N:=N) (Y:=Y) (ty:=ty) (hi:=none) l _ hx el I hT (.inr hlo) (.inl ⟨rfl,rfl⟩) h1 (Nat.le_refl _);simp_all
end
def JZ(F:Gs):Prop:=(∃m T,F 0=some (#[.int .i64 m],T))/\∃T,F 5=some ((Lib.pow10Tab.map λz=>Value.int .u64 z).toArray,T)
theorem JZ.le(h:JZ F)(k:Gs.le F F'):JZ F':=by
 obtain⟨⟨m,T,h1⟩,T',h2⟩:=h;exact⟨⟨m,T,k _ _ h1⟩,T',k _ _ h2⟩
instance :Up (λF=>JZ F):=⟨λk h=>JZ.le h k⟩
theorem JZ.max(hF:Fits F w)(h:JZ F):∃m,w.cell? ⟨0,0,none⟩=some (.int .i64 m):=by
 obtain⟨⟨m,T,h1⟩,_⟩:=h;obtain⟨fr,e⟩:=hF.row _ _ _ h1;exact⟨m,by simp[World.cell?,e]⟩
theorem JZ.vN(hF:Fits F w)(h:JZ F):Lib.TabIs prog w "internal/strconv.uint64pow10" .u64 Lib.pow10Tab:=by
 obtain⟨_,T,h2⟩:=h;obtain⟨fr,e⟩:=hF.row _ _ _ h2;have hg:prog.globalNamed "internal/strconv.uint64pow10" = some 5:=by rfl
 unfold Lib.TabIs World.var?;simp_all
theorem Px(w:World)(e:TypeId)(s:ByteArray):Ext w (Lib.bytesWorld w e s) :=
 ⟨rfl,rfl,rfl,by simp[Lib.bytesWorld_size],λk hk=>Lib.bytesWorld_at_old w e s k hk⟩
theorem Am(w:World)(os:Array Obj):Ext w (Sort.grow w os) :=
 ⟨rfl,rfl,rfl,w9,λk hk=>by
  show(w.heap++os)[k]?=_
  grind⟩
section
variable{w:World}{F:Gs}
theorem cU(hF:Fits F w)(hG:JZ F){s p:List UInt8}(hs:s.length<4294967281):QY prog 61 [tx s,tx p] w F (.tuple #[tx (Lib.cut s p).1,tx (Lib.cut s p).2.1,.bool (Lib.cut s p).2.2]):=by
 obtain⟨m,hm⟩:=hG.max hF;refine .of (enters_of func61 w8 rfl) hF ((strings_Cut ⟨s.toArray⟩ ⟨p.toArray⟩ m w (by trivial) hm).mono ?_);rintro e w' ⟨h1,n,rfl⟩;exact⟨h1,(Ext.refl w).drewN n⟩
theorem FD(hF:Fits F w){s p:List UInt8}:QY prog 98 [tx s,tx p] w F (.tuple #[tx (Lib.trimPrefix s p),.bool (Lib.hasPrefix s p)]):=by
 refine .of (enters_of func98 w8 rfl) hF ((strings_CutPrefix ⟨s.toArray⟩ ⟨p.toArray⟩ w).mono ?_)
 grind[Ext.refl]
theorem Aj(hF:Fits F w){s p:List UInt8}:QY prog 126 [tx s,tx p] w F (.bool (Lib.hasPrefix s p)):=by
 refine .of (enters_of func126 w8 rfl) hF ((strings_HasPrefix ⟨s.toArray⟩ ⟨p.toArray⟩ w).mono ?_)
 grind[Ext.refl]
theorem DC(hF:Fits F w){s p:List UInt8}:QY prog 127 [tx s,tx p] w F (tx (Lib.trimPrefix s p)):=by
 refine .of (enters_of func127 w8 rfl) hF ((strings_TrimPrefix ⟨s.toArray⟩ ⟨p.toArray⟩ w).mono ?_)
 grind[Ext.refl]
theorem jz(hF:Fits F w){s:List UInt8}{c:Nat}(hc:s.length*c<=140737488355328)(hc':c<=140737488355328):QY prog 136 [tx s,.int .i64 c] w F (tx (Lib.repeatL s c)):=by
 refine .of (enters_of func136 w8 rfl) hF ((strings_Repeat ⟨s.toArray⟩ c w O (by trivial)).mono ?_);simp
theorem QBV(hF:Fits F w){s:List UInt8}{n:Int}(hl:s.length<=18)(h:Lib.atoi s=some n):QY prog 128 [tx s] w F (.tuple #[.int .i64 n,.nilIface]):=by
 refine .of (enters_of func128 w8 rfl) hF ((strconv_Atoi ⟨s.toArray⟩ n (by trivial) h w).mono ?_)
 grind[Px]
theorem zP(hF:Fits F w)(hG:JZ F){n:Int}(h0 : -9223372036854775808<=n)(h1:n<=9223372036854775807):QY prog 133 [.int .i64 n] w F (tx (Lib.itoa n)):=by
 refine .of (enters_of func133 w8 rfl) hF ((strconv_Itoa n h0 h1 w (hG.vN hF)).mono ?_);rintro e w' ⟨h1,k,os,rfl⟩;exact⟨h1,((Ext.refl w).drewN k).trans (Am _ _)⟩
theorem gh(hF:Fits F w){x:Int}(h0:0<=x)(h1:x<=18446744073709551615):QY prog 219 [.int .u64 x] w F (.int .i64 (Lib.bitLen x.toNat)):=by
 refine .of (enters_of func219 w8 rfl) hF ((bits_Len64 x w h0 h1).mono ?_)
 grind[Ext.refl]
theorem Dk[Dr](hF:Fits F w){x y:Int}:QY prog 170 [.int .i64 x,.int .i64 y] w F (.int .i64 (Lib.compareInt x y)):=by
 refine QQ.same (enters_of func170 w8 rfl) hF (cmp_Compare_int x y w)
end
section
variable[Dr][df:Df]
section
variable{P:Program}{Q:Exit->Act->World->Prop}{N:Nat}{m:Sl}{E E0:Env}{ops:Array Oper}{l:List Oper}{w0:World}{F0:Gs}{bs:List (Nat×Obj)}{G:Gs->Prop}
theorem St.perm(h:St ⟨w0,F0,bs,G⟩ w)(hp:bs.Perm bs'):St ⟨w0,F0,bs',G⟩ w:=by
 obtain⟨F,h⟩:=h;exact⟨F,h.le,h.old,h.fits,h.ext,λk hk=>h.bx k (hp.mem_iff.2 hk),(hp.map _).nodup_iff.1 h.nd,h.g⟩
def Jn(P:Program)(f:FuncId)(args:List Value)(E:Env){γ:Type}(val:γ->Value)(E':γ->Env):Prop :=
 Enters P f/\∀w,St E w->Calls P f args.toArray w λe w'=>∃c,e = .returned (val c)/\St (E' c) w'
def EPost{γ:Type}(val:γ->Value)(E':γ->Env)(e:Ending)(w':World):Prop:=∃c,e = .returned (val c)/\St (E' c) w'
section
variable{d:Nat}{ty:TypeId}{pos:String}{aft:Array Edge}{f:FuncId}{args:Array Operand}{tys:Array TypeId}{vs:List Value}{γ:Type}{val:γ->Value}{E':γ->Env}{bs1:List (Nat×Obj)}
theorem C6{c1 c2:List Value}(hx:ev m x=some (.func (.func f) c1.toArray c2.toArray))(hv:D2 m args.toList=some vs)(hp:bs.Perm bs1)(hc:Jn P f (c1++vs++c2) ⟨w0,F0,bs1,G⟩ val E')
  (k:∀c,JS P ops Q l N ((d,val c)::m) (E' c)) (hd:Jq N (some d)=true:=by rfl):JS P ops Q (⟨some d,.call ⟨.value x,args,tys⟩,ty,pos,aft,none⟩::l) N m ⟨w0,F0,bs,G⟩:=by
 intro a w ha hw;refine wpList_plain rfl λK hK=>?_;unfold Oper.wp;rw[WM hc.1 (ha.ev hx)];have e:c1.toArray++args.map a.eval++c2.toArray=(c1++vs++c2).toArray:=by
  have:=ha.D2 hv;have e2:args.map a.eval=vs.toArray:=by rw[<-this];apply Array.ext' ;simp
  rw[e2];apply Array.ext';simp
 simp only[Oper.upon];rw[e];refine(hc.2 w (hw.perm hp)).mono ?_;rintro e w' ⟨c,rfl,h⟩;exact hK _ _ (k c _ w' (ha.put hd (val c)) h)
theorem Xj(hv:D2 m args.toList=some vs)(hp:bs.Perm bs1)(hc:Jn P f vs ⟨w0,F0,bs1,G⟩ val E')
  (k:∀c,JS P ops Q l N ((d,val c)::m) (E' c)) (hd:Jq N (some d)=true:=by rfl):JS P ops Q (⟨some d,.call ⟨.value (.func f),args,tys⟩,ty,pos,aft,none⟩::l) N m ⟨w0,F0,bs,G⟩ :=
 C6 (x:=.func f) (c1:=[]) (c2:=[]) I hv hp (by simpa using hc) k hd
theorem Wt{bs0:List (Nat×Obj)}(hv:D2 m args.toList=some vs)(hp:bs.Perm bs1)(hc:Jn P f vs ⟨w0,F0,bs1,G⟩ val E')(h0:∀c w,St (E' c) w->St ⟨w0,F0,bs0,G0⟩ w)
  (k:∀c,JD P ops Q ⟨w0,F0,bs0,G0⟩ l N ((d,val c)::m) (E' c)) (hd:Jq N (some d)=true:=by rfl):JD P ops Q ⟨w0,F0,bs0,G0⟩ (⟨some d,.call ⟨.value (.func f),args,tys⟩,ty,pos,aft,none⟩::l) N m ⟨w0,F0,bs,G⟩:=by
 intro hE a w ha hw;refine .inr ⟨rfl,?_⟩;rw[if_pos (by simp[Region.wanted])];unfold Oper.wp;rw[WM (c1:=#[]) (c2:=#[]) hc.1 (ha.ev (x:=.func f) rfl)];have e:#[]++args.map a.eval++#[]=vs.toArray:=by
  have:=ha.D2 hv;have e2:args.map a.eval=vs.toArray:=by rw[<-this];apply Array.ext' ;simp
  rw[e2];apply Array.ext';simp
 simp only[Oper.upon];rw[e];refine(hc.2 w (hw.perm hp)).mono ?_;rintro e w' ⟨c,rfl,h⟩;exact⟨h0 c w' h,k c (h0 c) _ w' (ha.put hd (val c)) h⟩
theorem St.last(hF:Fits F0 w0)(h:St ⟨w0,F0,bs,G⟩ w)(hb:Below w0.heap.size w w')(hd:Dr.on->w.drawn<=w'.drawn):St ⟨w0,F0,[],λF=>Gs.le F0 F⟩ w':=by
 obtain⟨F,h⟩:=h;have hx:Ext w0 w':=⟨hb.os.trans h.ext.os,hb.tape.trans h.ext.tape,hb.output.trans h.ext.output,Nat.le_trans h.ext.size hb.size,λk hk=>(hb.block k hk).trans (h.ext.block k hk)⟩;have hle:Gs.le F0 (λb=>if b<w0.heap.size then F0 b else match w'.heap[b]? with | some (.cells c T _)=>if T=201 then some (c,201)else none | _=>none):=by
  intro b x hb;show(if b<w0.heap.size then _ else _)=_;rw[if_pos (hF.lt hb)];exact hb
 refine⟨_,hle,?_,⟨?_,?_⟩,⟨hx,λd=>Nat.le_trans (h.ext.dr d) (hd d)⟩,λ_ h=>(by cases h),List.nodup_nil,λF' h'=>Gs.le_trans hle h'⟩
 ·intro b hb;show(if b<w0.heap.size then _ else _)=_;rw[if_pos hb]
 ·intro b c T hb;by_cases hlt:b<w0.heap.size
  ·rw[if_pos hlt]at hb;obtain⟨fr,e⟩:=hF.row b c T hb;exact⟨fr,by rw[hx.block b hlt];exact e⟩
  rw[if_neg hlt]at hb;split at hb
  ·rename_i c' T' fr heq;split at hb
   ·rename_i hT;cases hb;exact⟨fr,by rw[heq,hT]⟩
   cases hb
  cases hb
 intro b c fr hb;show(if b<w0.heap.size then _ else _)=_;by_cases hlt:b<w0.heap.size
 ·rw[if_pos hlt];rw[hx.block b hlt]at hb;exact hF.all b c fr hb
 rw[if_neg hlt,hb];simp
theorem ME{v:Value}(hF:Fits F0 w0)(hv:D2 m args.toList=some vs)(he:Enters P f)(hc:∀w,St ⟨w0,F0,bs,G⟩ w->Calls P f vs.toArray w λe w'=>e = .returned v/\Below w0.heap.size w w')
  (k:JS P ops Q l N ((d,v)::m) ⟨w0,F0,[],λF=>Gs.le F0 F⟩) (hd:Jq N (some d)=true:=by rfl) (hn:¬Dr.on:=by exact id):JS P ops Q (⟨some d,.call ⟨.value (.func f),args,tys⟩,ty,pos,aft,none⟩::l) N m ⟨w0,F0,bs,G⟩ :=
 Xj (γ:=Unit) (val:=λ_=>v) (E':=λ_=>⟨w0,F0,[],λF=>Gs.le F0 F⟩) hv (List.Perm.refl _) ⟨he,λw hw=>(hc w hw).mono λ_ _ ⟨h1,h2⟩=>⟨(),h1,hw.last hF h2 λd=>absurd d hn⟩⟩ (λ_=>k) hd
end
omit [Df] in
theorem Jn.intro{c:Code}{val:γ->Value}{E':γ->Env}(hf:P.funcs[f]?=some fn)(hb:fn.body=some c)(hn:(fn.name == "runtime.NumGoroutine")=false)(hN:fn.ntmps=N)(hl:Nat.ble args.length N=true)
  (h:J (df:=KB) P c (bodyPost P fn (EPost val E')) N (E5 0 args) E):Jn P f args E val E':=by
 refine⟨enters_of hf hn (by rw[hb];rfl),λw hw=>calls_of_wp hf hb (h _ w ⟨?_,rfl,λt v ht=>?_⟩ hw)⟩
 ·have:=Nat.le_of_ble_eq_true hl
  simp[hN];omega
 obtain⟨_,h2⟩:=W9 args 0 t v ht
 have hlt:t<args.length:=by rcases Nat.lt_or_ge t args.length with g | g;exact g;rw[Nat.sub_zero,List.getElem?_eq_none g]at h2;cases h2
 simp only[Nat.sub_zero]at h2
 rw[Array.getElem?_append,if_pos (by simpa using hlt)]
 simpa using h2
omit [Df] in
theorem ZN{val:γ->Value}{E':γ->Env}{rs:List ResultVar}{vs:List Value}(c:γ)(hrs:fn.results=rs.toArray)(h:Dq P m bs rs vs)(hv:val c=(match vs with | [v]=>v | vs=>.tuple vs.toArray))(hg:∀w,St ⟨w0,F0,bs,G⟩ w->St (E' c) w):Fin (df:=KB) (bodyPost P fn (EPost val E')) .ret N m ⟨w0,F0,bs,G⟩:=λa w ha hw =>
 ⟨ha.df,val c,by rw[hv];exact Gz hrs h ha hw,c,rfl,hg w hw⟩
omit [Df] in
theorem Dv{val:γ->Value}{E':γ->Env}(h:Fin (df:=KB) (bodyPost P fn (EPost val E')) .ret N m E):Fin (df:=KB) (bodyPost P fn (EPost val E')) .normal N m E:=h
theorem Xu(hp:bs.Perm bs')(k:JS P ops Q l N m ⟨w0,F0,bs',G⟩):JS P ops Q l N m ⟨w0,F0,bs,G⟩:=λa w ha hw=>k a w ha (hw.perm hp)
theorem QE4{c:Code}(hp:bs.Perm bs')(k:J P c Q N m ⟨w0,F0,bs',G⟩):J P c Q N m ⟨w0,F0,bs,G⟩:=λa w ha hw=>k a w ha (hw.perm hp)
theorem LR{e:Exit}(hp:bs.Perm bs')(k:Fin Q e N m ⟨w0,F0,bs',G⟩):Fin Q e N m ⟨w0,F0,bs,G⟩:=λa w ha hw=>k a w ha (hw.perm hp)
theorem Src.jr{sz c:Nat}{news:List Value}{fr:Nat×Nat}(hm:(b,Obj.cells news.toArray T fr)∈bs)(hl:news.length=k*sz):Src ⟨w0,F0,bs,G⟩ sz (.slice (.some ⟨b,0,none⟩) k c) k news :=
 ⟨hl,.inr ⟨_,_,rfl,λw hw j v hv=>by
  obtain⟨F,hw⟩:=hw;rw[V1,ZC (hw.bx _ hm).1,Nat.zero_add];exact hv⟩⟩
theorem pW{d:Nat}{o:Op}{pos:String}{v:Value}(h:∀a w,JO N m a->St E w->∃w',(execOp a.eval ⟨some d,o,ty,pos,aft,none⟩).run P w = .ok (.value v) w'/\St E' w')(k:JS P ops Q l N ((d,v)::m) E')(hd:Jq N (some d)=true:=by rfl):
  JS P ops Q (⟨some d,o,ty,pos,aft,none⟩::l) N m E:=λa w ha hw=>wpList_plain rfl λK hK=>by
 obtain⟨w',h1,h2⟩:=h a w ha hw;exact upon_value h1 (hK _ _ (k _ w' (ha.put hd v) h2))
theorem xF{p:Option Addr}{Y:World->Prop}(hx:ev m x=some (.pointer p))(hy:ev m y=some (.pointer none))(hT:P.underlying T=some (.pointer (P.pointee T))):Qt P N m Y (.binOp .eql T x y yT) ty (.bool p.isNone):=λa w _ _ _ _ ha _=>by
 have:=run_eql_pointer_nil (P:=P) (w:=w) T p hT;simp[execOp,ha.ev hx,ha.ev hy,eqGuard,this]
theorem Ra{t u:TypeId}{i:TypeInfo}{n:Nat}{x:Value}(ht:Ga P t=some e)(hu:P.underlying u=some .string)(hi:P.info? e=some i)(hz:i.zero=some (.int .u8 0))(hsz:i.size=1)(hby:i.bytes=1)
  (hr:Qp e 1 x n olds ob) (hw:St ⟨w0,F0,ob++bs,G⟩ w) (h47:n+s.length<=140737488355328) (hU:Vy e=true) :
  ∃v' ob' w',(Builtin.append_ #[t,u] ty #[x,tx s]).run P w = .ok v' w'/\Qp e 1 v' (n+s.length) (olds++Lib.byteCells s) ob'/\St ⟨w0,F0,ob'++bs,G⟩ w':=by
 have hu':∀c fr c' fr',Obj.cells c e fr≠.cells c' 201 fr':=λc fr=>XR hU;have hsl:(⟨s.toArray⟩:ByteArray).size=s.length:=S7 s;have hbl:(Lib.byteCells s).length=s.length:=Lib.byteCells_length s;have hzc:∀q,(Builtin.zeroCells (Value.int .u8 0).cells q).toList.length=q:=λq=>by simp[Builtin.zeroCells,Value.cells]
 have new:∀ {w':World} (l rest:List Value) (cap:Nat) (bs':List (Nat×Obj)),St ⟨w0,F0,bs',G⟩ w'->bs.Sublist bs'->l.length=n+s.length->l.length+rest.length=cap->n+s.length<=cap->cap<=maxLen ->
   ∃ob',Qp e 1 (.slice (some ⟨w'.heap.size,0,none⟩) (n+s.length) cap) (n+s.length) l ob'/\St ⟨w0,F0,ob'++bs,G⟩ (w'.alloc (.cells (l++rest).toArray e)):=by
  intro w' l rest cap bs' hw' hsub h2 h3 h4 h5;exact⟨_,.some O O h4 h5,(hw'.imp hsub λ_ h=>h).alloc _ (hu' _ _)⟩
 cases hr with
 |nil =>
  simp only[Nat.zero_add,List.nil_append]at *
  by_cases hm:s.length=0
  ·have hs0:s=[]:=List.eq_nil_of_length_eq_zero hm;subst hs0;refine⟨.slice none 0 0,[],w,?_,.nil,hw⟩;have hf:=Lib.run_firstCells_string (P:=P) w 1 ⟨#[]⟩;have hf':(Builtin.firstCells 1 0 (tx [])).run P w = .ok #[] w:=by simpa[ByteArray.size,Lib.strCells]using hf
   simp[Builtin.append_,run_underlying (JR ht),run_underlying hu,sizeOf,typeInfo,hi,hsz,Builtin.lenOf,ByteArray.size,hf']
  have hrun:=run_append_nil_string (P:=P) (w:=w) t u ty e i (.int .u8 0) (JR ht) hu hi hz ⟨s.toArray⟩ O O (by rw[hby];omega);rw[hsl]at hrun;have hge:=grownCap_ge w s.length 0 e;obtain⟨ob',h2,h3⟩:=new (Lib.byteCells s) (Builtin.zeroCells (Value.int .u8 0).cells (grownCap w s.length 0 e-s.length)).toList (grownCap w s.length 0 e) bs hw.drew QJ3 hbl (by rw[hzc,hbl];omega) hge (grownCap_le_maxLen w s.length 0 e (by simp only[maxLen];omega));refine⟨_,ob',_,hrun,h2,?_⟩;have e1:(Lib.byteCells s++(Builtin.zeroCells (Value.int .u8 0).cells (grownCap w s.length 0 e-s.length)).toList).toArray=((⟨s.toArray⟩:ByteArray).data.map λb=>Value.int .u8 b.toNat)++Builtin.zeroCells (Value.int .u8 0).cells (grownCap w s.length 0 e-s.length):=by apply Array.ext';simp[Lib.byteCells]
  rw[e1]at h3;exact h3
 |some g1 g2 g3 g4 =>
  rename_i b cap rest;have hbw:w.heap[b]?=some (.cells (olds++rest).toArray e (0,0)):=hw.own (f:=λo'=>(b,o')::bs) .here;have hol:olds.length=n:=O;by_cases hroom:n+s.length<=cap
  ·have hrun:=Lib.run_append_room_string (P:=P) w t u ty e i (JR ht) hu hi hsz b n cap _ hbw ⟨s.toArray⟩ O tA;rw[hsl]at hrun;have e1:((olds++rest).toArray.toList.take n++Lib.strCells ⟨s.toArray⟩++(olds++rest).toArray.toList.drop (n+s.length))=olds++Lib.byteCells s++rest.drop s.length:=by
    rw[Lib.strCells_eq];simp only[List.append_assoc];rw[<-hol];simp[List.drop_append]
   rw[e1]at hrun;refine⟨_,[(b,.cells (olds++Lib.byteCells s++rest.drop s.length).toArray e (0,0))],_,hrun,.some ?_ ?_ hroom g4,?_⟩
   ·rw[List.length_append,hbl];omega
   ·rw[List.length_append,List.length_drop,hbl];omega
   have hlt:b<w.heap.size:=(Array.getElem?_eq_some_iff.1 hbw).1;refine St.write (o:=.cells (olds++rest).toArray e (0,0)) [] hw ⟨?_,rfl,rfl,rfl,rfl⟩ (hu' _ _);apply Array.ext_getElem?;intro j;rw[Array.getElem?_setIfInBounds];by_cases hj:b=j
   ·subst hj;rw[if_pos rfl,if_pos hlt,setRow_heap w b _ _ e _ hbw]
   rw[if_neg hj,setRow_other w b j _ (λe=>hj e.symm)]
  have hold:∀j v,olds[j]?=some v->w.cell? ((⟨b,0,none⟩:Addr).add j)=some v:=λj v hv=>by
   rw[V1,Nat.zero_add,ZC hbw,List.getElem?_append];have:j<olds.length:=by rcases Nat.lt_or_ge j olds.length with q | q;exact q;rw[List.getElem?_eq_none q]at hv;cases hv
   rw[if_pos this];exact hv
  have hrun:=Lib.run_append_grow_string (P:=P) w t u ty e i (.int .u8 0) (JR ht) hu hi hz ⟨b,0,none⟩ n cap olds (by rw[hsz];omega) hold ⟨s.toArray⟩ O O (by rw[hby];exact growslice_fits O O);rw[hsl]at hrun;have hge:=grownCap_ge w (n+s.length) cap e;obtain⟨ob',h2,h3⟩:=new (olds++Lib.byteCells s) (Builtin.zeroCells (Value.int .u8 0).cells (grownCap w (n+s.length) cap e-(n+s.length))).toList (grownCap w (n+s.length) cap e) _ hw.drew (List.sublist_cons_self _ _) (by rw[List.length_append,hbl];omega) (by rw[hzc,List.length_append,hbl];omega) hge (grownCap_le_maxLen w (n+s.length) cap e (by simp only[maxLen];omega));refine⟨_,ob',_,hrun,h2,?_⟩;have e1:(olds++Lib.byteCells s++(Builtin.zeroCells (Value.int .u8 0).cells (grownCap w (n+s.length) cap e-(n+s.length))).toList).toArray=olds.toArray++(Lib.strCells ⟨s.toArray⟩).toArray++Builtin.zeroCells (Value.int .u8 0).cells (grownCap w (n+s.length) cap e-(n+s.length)):=by
   rw[Lib.strCells_eq];apply Array.ext';simp
  rw[e1]at h3;exact h3
theorem Tz{d:Nat}{pos:String}{t u:TypeId}{i:TypeInfo}{n:Nat}{X Y:Operand}{x:Value}{bs1:List (Nat×Obj)}(hx:ev m X=some x)(hy:ev m Y=some (tx s))(ht:Ga P t=some e)(hu:P.underlying u=some .string)(hi:P.info? e=some i)(hz:i.zero=some (.int .u8 0))(hsz:i.size=1)(hby:i.bytes=1)
  (hr:Qp e 1 x n olds ob) (hp:bs.Perm (ob++bs1)) (h47:n+s.length<=140737488355328)
  (kk:∀v' ob',Qp e 1 v' (n+s.length) (olds++Lib.byteCells s) ob'->JS P ops Q l N ((d,v')::m) ⟨w0,F0,ob'++bs1,G⟩) (hU:Vy e=true:=by rfl) (hd:Jq N (some d)=true:=by rfl) :
  JS P ops Q (⟨some d,.call ⟨.builtin .append,#[X,Y],#[t,u]⟩,ty,pos,aft,none⟩::l) N m ⟨w0,F0,bs,G⟩:=λa w ha hw =>
 wpList_plain rfl λK hK=>by
  obtain⟨v',ob',w',h2,h3,h4⟩:=Ra (ty:=ty) ht hu hi hz hsz hby hr (hw.perm hp) h47 hU;refine upon_value (w':=w') (v:=v') ?_ (hK _ _ (kk v' ob' h3 _ w' (ha.put hd v') h4));simp only[execOp,resolve,invoke,builtin,Sem.run_bind,Sem.run_pure,Result.andThen_ok,List.map_toArray,List.map_cons,List.map_nil,ha.ev hx,ha.ev hy,h2]
end
end
section
variable[Dr][df:Df]{P:Program}{Q:Exit->Act->World->Prop}{N:Nat}{m:Sl}{E E0:Env}{ops:Array Oper}{l:List Oper}{w0:World}{F0:Gs}{bs:List (Nat×Obj)}{G:Gs->Prop}
theorem DL{c:List Value}{fr:Nat×Nat}(h:w.heap[b]?=some (.cells c.toArray T fr)):w.shape? b=some (T,c.length):=by
 simp[World.shape?,h]
theorem IW{src dst t T':TypeId}{c:List Value}{fr:Nat×Nat}{f:Obj->List (Nat×Obj)}(hx:ev m x=some (.pointer (some ⟨b,off,none⟩)))(hs:P.underlying src=some (.pointer t))(hd:P.underlying dst=some .unsafePointer)(ht:(P.info? t).any (λj=>j.size != 0)=true)
  (ho:Own bs b (.cells c.toArray T' fr) f) (hoff:off<c.length):Qt P N m (St ⟨w0,F0,bs,G⟩) (.convert src dst x) ty (.pointer (some ⟨b,off,none⟩)):=λa w _ _ _ _ ha hw=>by
 obtain⟨j,hj,hjs⟩:=Option.any_eq_true .. |>.1 ht;have:=Lib.run_to_unsafe (P:=P) w ⟨b,off,none⟩ hs hd hj (by simpa using hjs) (DL (hw.own ho)) hoff;simp[execOp,ha.ev hx,this]
theorem TO{src dst t T':TypeId}{c:List Value}{fr:Nat×Nat}{f:Obj->List (Nat×Obj)}(hx:ev m x=some (.pointer (some ⟨b,off,none⟩)))(hs:P.underlying src=some .unsafePointer)(hd:P.underlying dst=some (.pointer t))(ht:(P.info? t).isSome=true)
  (ho:Own bs b (.cells c.toArray T' fr) f) (hl:liesAt P P.depth T' (c.length/P.cellsOf T') off t 1=true):Qt P N m (St ⟨w0,F0,bs,G⟩) (.convert src dst x) ty (.pointer (some ⟨b,off,none⟩)):=λa w _ _ _ _ ha hw=>by
 obtain⟨j,hj⟩:=Option.isSome_iff_exists.1 ht;have:=Lib.run_from_unsafe (P:=P) w ⟨b,off,none⟩ hs hd hj (DL (hw.own ho)) hl;simp[execOp,ha.ev hx,this]
theorem O8{t:TypeId}{p:Addr}{Y:World->Prop}(hx:ev m x=some (.pointer (some p)))(hy:ev m y=some (.pointer (some p)))(hT:P.underlying T=some (.pointer t))(ht:(P.info? t).isSome=true):Qt P N m Y (.binOp .neq T x y yT) ty (.bool false):=λa w _ _ _ _ ha _=>by
 obtain⟨j,hj⟩:=Option.isSome_iff_exists.1 ht;have:=Lib.run_neq_ptr_same (P:=P) w p hT hj;simp[execOp,ha.ev hx,ha.ev hy,eqGuard,this]
theorem C5{d:Nat}{pos:String}{e:Array Value->Sem Value}{args:Array Operand}{tys:Array TypeId}{v:Value}(hf:P.funcs[f]?=some fn)(hname:(fn.name == "runtime.NumGoroutine")=false)
  (hb:fn.body.isNone=true) (hn:Extern.findNext fn=none) (he:Extern.find fn=some e) (hv:D2 m args.toList=some vs) (hr:∀w,(e vs.toArray).run P w = .ok v w) (k:JS P ops Q l N ((d,v)::m) E) (hd:Jq N (some d)=true:=by rfl) :
  JS P ops Q (⟨some d,.call ⟨.value (.func f),args,tys⟩,ty,pos,aft,none⟩::l) N m E :=
 pW (λa w ha hw=>⟨w,by
  have h1:a.eval (.func f) = .func (.func f) #[] #[]:=ha.ev (x:=.func f) rfl;have e2:args.map a.eval=vs.toArray:=by rw[<-ha.D2 hv];apply Array.ext';simp
  simp only[execOp,resolve,h1,Deferred.ofValue,Sem.run_bind,Sem.run_pure,Result.andThen_ok,invoke,e2];simp[run_callFunc_extern hf hname hb hn he,hr],hw⟩) k hd
end
inductive Fz(b:Nat):List UInt8->List (Nat×Obj)->Prop
 |fresh:Fz b [] [(b,.cells [Value.pointer none,.slice none 0 0].toArray 209 (0,0))]
 |used {l:List UInt8} {v:Value} {ob:List (Nat×Obj)} (hr:Qp 5 1 v l.length (Lib.byteCells l) ob):Fz b l ((b,.cells [Value.pointer (some ⟨b,0,none⟩),v].toArray 209 (0,0))::ob)
section
variable{w0:World}{F0:Gs}{bs:List (Nat×Obj)}{G:Gs->Prop}
theorem E2{p:Option Addr}{v:Value}(hp:p=none\/p=some ⟨b,0,none⟩):Jn prog 215 [.pointer (some ⟨b,0,none⟩)] ⟨w0,F0,(b,.cells [Value.pointer p,v].toArray 209 (0,0))::bs,G⟩ (λ(_:Unit)=>.tuple #[]) (λ_=>⟨w0,F0,(b,.cells [Value.pointer (some ⟨b,0,none⟩),v].toArray 209 (0,0))::bs,G⟩):=by
 refine Jn.intro func215 rfl w8 rfl rfl<|wS rfl<|QA (Xl rfl)<|QA (QH rfl Ti D8)<|QA (Qf rfl D8 .here .h1)<|QA (xF rfl rfl wu)<|QF<|QC ?_
 refine QL I (λhc=>?_) λhc=>?_
 ·have hp':p=none:=by rcases hp with rfl | rfl;rfl;cases hc
  subst hp';refine wA 3 I<|QA (IW I underlying206 underlying301 wu .here (Nat.zero_lt_succ _))<|C5 func259 wu wu wu (e:=Extern.AbiNoEscape.same) wu rfl (λw=>Lib.run_noEscape w _)<|QA (TO I underlying301 underlying206 wu .here wu)<|QA (Xl I)<|QA (QH I Ti D8)<|QS (vs:=[_]) I I I D8 I .here .h1 wT<|QF<|Dv ?_
  exact ZN () I .nil rfl tC
 have hp':p=some ⟨b,0,none⟩:=by rcases hp with rfl | rfl;cases hc;rfl
 subst hp';refine wS I<|QA (Xl I)<|QA (QH I Ti D8)<|QA (Qf I D8 .here .h1)<|QJj I<|QA (O8 I I underlying206 wu)<|QJi<|ZP I<|QK<|Dv ?_
 exact ZN () I .nil rfl tC
theorem QA9:∃i,prog.info? 5=some i/\i.zero=some (.int .u8 0)/\i.size=1/\i.bytes=1:=by
 have h:((prog.info? 5).map λi=>(i.zero,i.size,i.bytes))=some (some (.int .u8 0),1,1):=wu;obtain⟨i,h1,h2⟩:=Option.map_eq_some_iff.1 h;simp only[Prod.mk.injEq]at h2;exact⟨i,h1,h2⟩
theorem GK{p:Option Addr}{v:Value}{l:List UInt8}(hp:p=none\/p=some ⟨b,0,none⟩)(hr:Qp 5 1 v l.length (Lib.byteCells l) ob)(hn:l.length+s.length<=140737488355328):
  Jn prog 137 [.pointer (some ⟨b,0,none⟩),tx s] ⟨w0,F0,(b,.cells [Value.pointer p,v].toArray 209 (0,0))::(ob++bs),G⟩ (λ(_:List (Nat×Obj))=>.tuple #[.int .i64 s.length,.nilIface])
   (λob'=>⟨w0,F0,ob'++bs,λF=>G F/\Fz b (l++s) ob'⟩):=by
 obtain⟨i8,hi1,hi2,hi3,hi4⟩:=QA9;refine Jn.intro func137 rfl w8 rfl rfl<|QKt<|QJk rfl<|wR rfl<|wS rfl<|Xj rfl (List.Perm.refl _) (E2 hp) λ_=>QJi<|wS rfl<|QJj rfl<|QA (Xl rfl)<|QA (QH rfl Mx Gw)<|QA (Qf rfl Gw .here (.skip .h1))<|QJj rfl<|Tz (bs1:=(b,.cells [Value.pointer (some ⟨b,0,none⟩),v].toArray 209 (0,0))::bs) rfl rfl IM underlying9 hi1 hi2 hi3 hi4 hr (by rw[<-List.singleton_append];exact(List.perm_append_comm_assoc _ _ _)) hn λv' ob' hr'=>QA (Xl I)<|QA (QH I Mx Gw)<|Xu (bs':=(b,.cells [Value.pointer (some ⟨b,0,none⟩),v].toArray 209 (0,0))::(ob'++bs)) (by rw[<-List.singleton_append (l:=bs),<-List.singleton_append];exact(List.perm_append_comm_assoc _ _ _)) ?_
 obtain⟨h1,h2⟩:=hr'.one;refine QS (vs:=[v']) I I h2 Gw I .here (.skip .h1) ⟨h1,trivial⟩<|QLi 5 I<|QA (Jx I XO)<|QLi 5 I ?_
 have hb:Fz b (l++s) ((b,.cells [Value.pointer (some ⟨b,0,none⟩),v'].toArray 209 (0,0))::ob'):=.used (by rw[List.length_append,Lib.byteCells_append];exact hr');exact ZN _ I (wP I I) rfl λw h=>St.Bs (bs:=(_::ob')++bs) h λF hG=>⟨hG,hb⟩
theorem WJ{l:List UInt8}(h:Fz b l ob)(hn:l.length+s.length<=140737488355328):
  Jn prog 137 [.pointer (some ⟨b,0,none⟩),tx s] ⟨w0,F0,ob++bs,G⟩ (λ(_:List (Nat×Obj))=>.tuple #[.int .i64 s.length,.nilIface])
   (λob'=>⟨w0,F0,ob'++bs,λF=>G F/\Fz b (l++s) ob'⟩):=by
 cases h with
 |fresh=>exact GK (l:=[]) (ob:=[]) (.inl rfl) .nil hn
 |used hr=>exact GK (.inr rfl) hr hn
theorem BE{p:Option Addr}{v:Value}{l:List UInt8}(hp:p=none\/p=some ⟨b,0,none⟩)(hr:Qp 5 1 v l.length (Lib.byteCells l) ob)(hn:l.length+1<=140737488355328):
  Jn prog 233 [.pointer (some ⟨b,0,none⟩),.int .u8 c.toNat] ⟨w0,F0,(b,.cells [Value.pointer p,v].toArray 209 (0,0))::(ob++bs),G⟩ (λ(_:List (Nat×Obj))=>.nilIface)
   (λob'=>⟨w0,F0,ob'++bs,λF=>G F/\Fz b (l++[c]) ob'⟩):=by
 refine Jn.intro func233 rfl w8 rfl rfl<|QKt<|wR rfl<|wS rfl<|Xj rfl (List.Perm.refl _) (E2 hp) λ_=>QJi<|wS rfl<|QJj rfl<|QA (Xl rfl)<|QA (QH rfl Mx Gw)<|QA (Qf rfl Gw .here (.skip .h1))<|QJj rfl<|BS rfl (JR IM) QDe z_5 rfl rfl λbx=>?_
 refine Xu (bs':=ob++((bx,.cells [Value.int .u8 c.toNat].toArray 5 (0,0))::(b,.cells [Value.pointer (some ⟨b,0,none⟩),v].toArray 209 (0,0))::bs)) (by
  have:=List.perm_append_comm_assoc [(bx,Obj.cells [Value.int .u8 c.toNat].toArray 5 (0,0)),(b,Obj.cells [Value.pointer (some ⟨b,0,none⟩),v].toArray 209 (0,0))] ob bs;exact this) ?_
 refine DA (news:=[Value.int .u8 c.toNat]) (k:=1) (sz:=1) rfl rfl IM QDe z_5 I QIE hr (Src.jr (b:=bx) (T:=5) (fr:=(0,0)) (c:=1) w9 rfl) O O (λu hu=>by rw[List.mem_singleton.1 hu];rfl) (λv' ob' hr'=>QA (Xl I)<|QA (QH I Mx Gw) ?_);refine Xu (bs':=(b,.cells [Value.pointer (some ⟨b,0,none⟩),v].toArray 209 (0,0))::((bx,.cells [Value.int .u8 c.toNat].toArray 5 (0,0))::(ob'++bs))) (by
  have:=List.perm_append_comm_assoc ob' [(b,Obj.cells [Value.pointer (some ⟨b,0,none⟩),v].toArray 209 (0,0)),(bx,Obj.cells [Value.int .u8 c.toNat].toArray 5 (0,0))] bs;exact((List.Perm.append_left ob' (List.Perm.swap _ _ _))).trans this) ?_
 obtain⟨h1,h2⟩:=hr'.one;refine QS (vs:=[v']) I I h2 Gw I .here (.skip .h1) ⟨h1,trivial⟩<|QLi 8 I ?_
 have hb:Fz b (l++[c]) ((b,.cells [Value.pointer (some ⟨b,0,none⟩),v'].toArray 209 (0,0))::ob'):=.used (by rw[List.length_append,Lib.byteCells_append];exact hr');exact ZN _ I (wO I) rfl λw h=>St.imp (bs':=(_::ob')++bs) h (List.Sublist.cons_cons _ (List.Sublist.cons _ QJ3)) λF hG=>⟨hG,hb⟩
theorem UL{l:List UInt8}(h:Fz b l ob)(hn:l.length+1<=140737488355328):
  Jn prog 233 [.pointer (some ⟨b,0,none⟩),.int .u8 c.toNat] ⟨w0,F0,ob++bs,G⟩ (λ(_:List (Nat×Obj))=>.nilIface)
   (λob'=>⟨w0,F0,ob'++bs,λF=>G F/\Fz b (l++[c]) ob'⟩):=by
 cases h with
 |fresh=>exact BE (l:=[]) (ob:=[]) (.inl rfl) .nil hn
 |used hr=>exact BE (.inr rfl) hr hn
theorem Fz.is{l:List UInt8}(h:Fz b l ob){w:World}(hw:St ⟨w0,F0,ob++bs,G⟩ w):Lib.IsBuilder 209 5 w0.heap.size b (Lib.byteCells l) w:=by
 obtain⟨F,hw⟩:=hw;cases h with
 |fresh =>
  have:=hw.bx (b,.cells [Value.pointer none,.slice none 0 0].toArray 209 (0,0)) w9;exact .inl ⟨this.2.1,_,this.1,World.ownsRow_nil w _ _ 1,by simp[Value.ownBlock]⟩
 |used hr =>
  rename_i v ob;have h1:=hw.bx (b,.cells [Value.pointer (some ⟨b,0,none⟩),v].toArray 209 (0,0)) w9;refine .inr ⟨h1.2.1,v,h1.1,?_,?_⟩
  ·rw[Lib.byteCells_length];generalize hq:Lib.byteCells l=q at hr;generalize hn:l.length=n at hr;cases hr with
   |nil=>exact World.ownsRow_nil w _ _ 1
   |some g1 g2 g3 g4 =>
    rename_i r cap rest;have h2:=hw.bx (r,.cells (q++rest).toArray 5 (0,0)) w9;refine⟨O,.inr ⟨r,cap,_,rfl,h2.2.1,h2.1,g3,g4,?_,?_⟩⟩
    ·show(q++rest).toArray.size=_;simp;omega
    show(q++rest).take (n*1)=q;rw[<-g1];exact List.take_left
  generalize hq:Lib.byteCells l=q at hr;generalize hn:l.length=n at hr;cases hr with
  |nil=>simp[Value.ownBlock]
  |some g1 g2 g3 g4 =>
   have hnd:=hw.nd;simp only[List.cons_append,List.map_cons,List.nodup_cons]at hnd;intro e;simp only[Value.ownBlock,Option.some.injEq]at e;exact hnd.1 (by simp[e])
end
section
open Go.RowKit Go.Sort Go.Lib
theorem Ic(w:World)(o:Obj)(dk:Array UInt8)(k off:Nat):∃os,(putRow (λ(b:UInt8)=>Value.int .u8 (b.toNat:Int)) (w.alloc o) w.heap.size off dk).drewN k=Sort.grow (w.drewN k) os:=by
 rw[alloc_eq_grow];obtain⟨os',_,e⟩:=putRow_grow_new (λ(b:UInt8)=>Value.int .u8 (b.toNat:Int)) w #[o] w.heap.size off dk (Nat.le_refl _);exact⟨os',by rw[e];rfl⟩
theorem Ah(w:World)(T:TypeId)(nd:Nat)(hs:nd<=24):Holds (λ(b:UInt8)=>Value.int .u8 (b.toNat:Int)) (w.alloc (.cells zeros24 T)) w.heap.size 0 (Array.replicate nd (0:UInt8)):=λj hj=>by
 have hj':j<nd:=by simpa using hj
 refine⟨?_,World.frozen?_alloc_new _ _ _ _⟩;rw[World.cell?_alloc_new,zeros24_at _ O,getElem!_pos _ j hj];simp
set_option maxRecDepth 100000 in
theorem Rh(u:Nat)(hu64:u<18446744073709551616)(w:World)(htab:Lib.TabIs prog w "internal/strconv.uint64pow10" .u64 Lib.pow10Tab):
  Calls prog 211 #[.int .u64 u,.int .i64 10] w λe w'=>e = .returned (tx (Lib.decDigits u))/\∃k os,w'=Sort.grow (w.drewN k) os:=by
 have e283:∀args w,(callFunc 253 args).run prog w = .ok (.enter 253 args) w:=Go.Proofs.enters_of func253 wu rfl;have e284:∀args w,(callFunc 254 args).run prog w = .ok (.enter 254 args) w:=Go.Proofs.enters_of func254 wu rfl;have e285:∀args w,(callFunc 255 args).run prog w = .ok (.enter 255 args) w:=Go.Proofs.enters_of func255 wu rfl;by_cases hs:u<100
 ·go_enter func211,ntmps211
  go_wp2_with (go_at_fn 253;refine(internal_strconv_small u hs _).mono ?_;rintro e w' ⟨rfl,rfl⟩)
  go_ret
  exact⟨rfl,0,#[],by simp[World.drewN_zero]⟩
 have hu1:1<=u:=O;have hnd20:Lib.nDigits u<=20:=by have:=Lib.numDigits_eq u hu1 hu64;split at this<;>omega
 have hb3:Lib.nDigits u<=24:=O;have hal:prog.arrayLen 294=24:=by simp[Program.arrayLen,underlying294]
 have hsl1:∀W,(Instr.sliceAt 294 (.pointer (some ⟨w.heap.size,0,none⟩)) none (some (.int .i64 (Lib.nDigits u:Int))) none).run prog W = .ok (.slice (some ⟨w.heap.size,0,none⟩) (Lib.nDigits u) 24) W:=λW=>by
  rw[run_sliceAt_array_h W 294 ⟨w.heap.size,0,none⟩ (by simp[Program.arrayLen,Program.elem,underlying294]) .i64 (Lib.nDigits u:Int) O (by rw[hal];omega)];go_simp
 have hH0:=Ah w 294 (Lib.nDigits u) O;have hfmt:=internal_strconv_formatBase10 w.heap.size 0 24 u (Array.replicate (Lib.nDigits u) 0) (w.alloc (.cells Lib.zeros24 294)) hH0 (by rw[Array.size_replicate];exact Lib.lt_pow_nDigits u) hu64 (by rw[Array.size_replicate];omega);rw[Array.size_replicate]at hfmt;have HH0:=Lib.hid hH0;clear hH0 hal;go_enter func211,ntmps211
 go_wp2_with (first
  |(go_at_fn 254;refine(internal_strconv_numDigits u hu1 hu64 _ (Lib.tabIs_alloc htab _)).mono ?_;rintro e w' ⟨rfl,rfl⟩))
 go_at_fn 255
 refine hfmt.mono ?_;rintro e w' ⟨rfl,k,v',dk,rfl,hF⟩;have hcv:(convert 207 9 (.slice (some ⟨w.heap.size,0,none⟩) (Lib.nDigits u) 24)).run prog ((putRow (λ(b:UInt8)=>Value.int .u8 (b.toNat:Int)) (w.alloc (.cells Lib.zeros24 294)) w.heap.size 0 dk).drewN k) = .ok (.string ⟨(Lib.decDigits u).toArray⟩) ((putRow (λ(b:UInt8)=>Value.int .u8 (b.toNat:Int)) (w.alloc (.cells Lib.zeros24 294)) w.heap.size 0 dk).drewN k):=by
  have h:=run_convert_bytes_back (P:=prog) ((putRow (λ(b:UInt8)=>Value.int .u8 (b.toNat:Int)) (w.alloc (.cells Lib.zeros24 294)) w.heap.size 0 dk).drewN k) 207 9 5 ⟨w.heap.size,0,none⟩ 24 (Lib.decDigits u) underlying207 underlying5 underlying9 (λj hj=>by
   rw[Lib.row_is_numeral hF j hj,Lib.add_plain,World.cell?_drewN];exact cell?_putRow (λ(b:UInt8)=>Value.int .u8 (b.toNat:Int)) _ w.heap.size 0 _ dk HH0.out (by rw[hF.size,Array.size_replicate]) j (by rw[hF.size];rw[Lib.decDigits_length]at hj;exact hj))
  rw[Lib.decDigits_length]at h;exact h
 go_wp2
 go_ret
 obtain⟨os,eo⟩:=Ic w (.cells Lib.zeros24 294) dk k 0;exact⟨rfl,k,os,eo⟩
theorem Th(hF:Fits F w)(hG:JZ F){u:Nat}(hu:u<18446744073709551616):QY prog 135 [.int .u64 u,.int .i64 10] w F (tx (Lib.decDigits u)):=by
 refine QQ.go (G:=λF=>JZ F) func135 hF hG ?_;refine wA 9 I ?_;refine QJ I (λw F hF hG=>QY.of (v:=tx (Lib.decDigits u)) (enters_of func211 w8 rfl) hF ((Rh u hu w (hG.vN hF)).mono (by
  rintro e w' ⟨h1,k,os,rfl⟩;exact⟨h1,((Ext.refl w).drewN k).trans (Am _ _)⟩))) λc=>?_
 refine wR I<|QT ?_
 exact QM () I (wO I) rfl tB
end
open Go
def UF(c:UInt8):Bool:=decide (48<=c.toNat)&&decide (c.toNat<=57)
def XT(l:List UInt8):Bool:=l.all UF
def YG:UF c=true↔48<=c.toNat/\c.toNat<=57:=by simp[UF]
def JF(l:List UInt8):Nat:=l.foldl (λa c=>a*10+(c.toNat-48)) 0
def QEc(l:List UInt8):∀a:Nat,l.foldl (λa c=>a*10+(c.toNat-48)) a=a*10^l.length+JF l:=by
 induction l with
 |nil=>intro a;simp[JF]
 |cons c l ih =>
  intro a;simp only[List.foldl_cons,List.length_cons,JF];rw[ih,ih (0*10+_)];rw[Nat.zero_mul,Nat.zero_add,Nat.add_mul,Nat.pow_succ,Nat.mul_assoc,Nat.mul_comm 10,Nat.add_assoc]
def YF(a b:List UInt8):JF (a++b)=JF a*10^b.length+JF b:=by
 unfold JF;rw[List.foldl_append,QEc];rfl
def O5:JF []=0:=rfl
def VS(c:UInt8):JF [c]=c.toNat-48:=by simp[JF]
def N7(c:UInt8)(l:List UInt8):JF (c::l)=(c.toNat-48)*10^l.length+JF l:=by
 rw[<-VS,<-YF];rfl
def Kc(a b:List UInt8):XT (a++b)=(XT a&&XT b):=by simp[XT]
def Hz(c:UInt8)(l:List UInt8):XT (c::l)=(UF c&&XT l):=by simp[XT]
def Hy{l:List UInt8}(h:XT l=true)(n:Nat):XT (l.take n)=true:=by
 rw[<-List.take_append_drop n l,Kc,Bool.and_eq_true]at h;exact h.1
def EU{l:List UInt8}(h:XT l=true)(n:Nat):XT (l.drop n)=true:=by
 rw[<-List.take_append_drop n l,Kc,Bool.and_eq_true]at h;exact h.2
theorem K1{l:List UInt8}(h:XT l=true):JF l<10^l.length:=by
 induction l with
 |nil=>simp[JF]
 |cons c l ih =>
  rw[Hz,Bool.and_eq_true]at h;have:=ih h.2;have hc:=YG.1 h.1;rw[N7,List.length_cons,Nat.pow_succ];have:(c.toNat-48)*10^l.length<=9*10^l.length:=Nat.mul_le_mul_right _ O;omega
def Yi{d:Nat}(h:d<10):(UInt8.ofNat (48+d)).toNat=48+d:=by
 rw[UInt8.toNat_ofNat'];omega
theorem JN(n:Nat):XT (Lib.decDigits n)=true:=by
 induction n using Nat.strongRecOn with
 |_ n ih =>
  rw[Lib.decDigits];split
  ·rename_i h;simp[XT,UF,Yi h];omega
  rw[Kc,ih (n/10) O];have:n%10<10:=O;simp[XT,UF,Yi this];omega
def Jg(n:Nat):JF (Lib.decDigits n)=n:=by
 induction n using Nat.strongRecOn with
 |_ n ih =>
  rw[Lib.decDigits];split
  ·rename_i h;rw[VS,Yi h];omega
  rw[YF,ih (n/10) O,VS,Yi O];simp;omega
def YW(n:Nat):Lib.decDigits n≠[]:=by
 rw[Lib.decDigits];split<;>simp
def X8:Lib.decDigits 0=[48]:=by rw[Lib.decDigits];rfl
theorem Pr{n:Nat}(h:0<n):∃c l,Lib.decDigits n=c::l/\c≠48:=by
 induction n using Nat.strongRecOn with
 |_ n ih =>
  rw[Lib.decDigits];split
  ·rename_i h10;refine⟨_,[],rfl,λe=>?_⟩;have:=Yi h10;rw[e]at this;simp at this;omega
  obtain⟨c,l,e,hc⟩:=ih (n/10) O O;exact⟨c,l++[UInt8.ofNat (48+n%10)],by rw[e];rfl,hc⟩
def Jw(l:List UInt8):Bool:=XT l&&!l.isEmpty&&(l==[48]||!(l.head?==some 48))
theorem Bb(n:Nat):Jw (Lib.decDigits n)=true:=by
 rcases Nat.eq_zero_or_pos n with h | h
 ·subst h;rw[X8];decide
 obtain⟨c,l,e,hc⟩:=Pr h;have:=JN n;rw[e]at this ⊢;simp[Jw,this,hc]
def Vm{n d:Nat}(hn:0<n)(hd:d<10):Lib.decDigits (n*10+d)=Lib.decDigits n++[UInt8.ofNat (48+d)]:=by
 rw[Lib.decDigits,dif_neg O];congr 2
 ·congr 1;omega
 congr 2;omega
def FB(h:UF c=true):UInt8.ofNat (48+(c.toNat-48))=c:=by
 have:=YG.1 h;apply UInt8.toNat.inj;rw[Yi O];omega
theorem Di:∀ {l:List UInt8},XT l=true->l≠[]->l.head?≠some 48->Lib.decDigits (JF l)=l/\0<JF l:=by
 intro l
 induction hn:l.length generalizing l with
 |zero=>intro _ h _;exact absurd (List.eq_nil_of_length_eq_zero hn) h
 |succ n ih =>
  intro ha hne hh;rcases List.eq_nil_or_concat l with h | ⟨a,c,rfl⟩
  ·exact absurd h hne
  simp only[List.concat_eq_append]at *
  rw[Kc,Bool.and_eq_true]at ha;have hc:UF c=true:=by simpa[XT]using ha.2
  have hc':=YG.1 hc;rw[YF,VS];cases a with
  |nil =>
   have h48:c≠48:=by simpa using hh
   have:c.toNat≠48:=λe=>h48 (UInt8.toNat.inj (by rw[e];rfl));simp only[O5,Nat.zero_mul,Nat.zero_add,List.nil_append];refine⟨?_,O⟩;rw[Lib.decDigits,dif_pos O,FB hc]
  |cons x a =>
   obtain⟨h1,h2⟩:=ih (l:=x::a) (by simp at hn ⊢;omega) ha.1 w9 (by simpa using hh);refine⟨?_,tA⟩;simp only[List.length_singleton,Nat.pow_one];rw[Vm h2 O,h1,FB hc]
theorem Dj{l:List UInt8}(h:Jw l=true):Lib.decDigits (JF l)=l:=by
 simp only[Jw,Bool.and_eq_true,Bool.or_eq_true,beq_iff_eq,Bool.not_eq_true',List.isEmpty_eq_false_iff]at h;rcases h.2 with h1 | h1
 ·subst h1;rw[VS];exact X8
 exact(Di h.1.1 h.1.2 (by simpa using h1)).1
theorem yO{l:List UInt8}(h:XT l=true):∀a,Lib.decFrom a l=some (a*10^l.length+JF l):=by
 induction l with
 |nil=>intro a;simp[Lib.decFrom,JF]
 |cons c l ih =>
  intro a;rw[Hz,Bool.and_eq_true]at h;have hc:=YG.1 h.1;simp only[Lib.decFrom,Lib.digitVal,if_pos hc];rw[ih h.2,N7,List.length_cons,Nat.pow_succ,Nat.add_mul,Nat.mul_assoc,Nat.mul_comm 10,Nat.add_assoc]
theorem Cw{l:List UInt8}(h:XT l=true)(hne:l≠[]):Lib.atoi l=some (JF l:Int):=by
 cases l with
 |nil=>exact absurd rfl hne
 |cons c l =>
  have hc:=YG.1 (by rw[Hz,Bool.and_eq_true]at h;exact h.1);have h1:(c==45)=false:=by
   apply beq_eq_false_iff_ne.2;rintro rfl;simp at hc
  have h2:(c==43)=false:=by
   apply beq_eq_false_iff_ne.2;rintro rfl;simp at hc
  simp only[Lib.atoi,h1,h2,Bool.false_eq_true,if_false,Lib.decNat,List.isEmpty_cons];rw[yO h];simp
def Vd(k:Nat)(l:List UInt8):List UInt8:=Lib.repeatL [48] (k-l.length)++l
def KZ(k:Nat):Lib.repeatL [48] k=List.replicate k 48:=by
 induction k with
 |zero=>rfl
 |succ k ih=>rw[Lib.repeatL,ih];rfl
def Zo{u:Nat}(h:u<10^k)(hk:0<k):Lib.nDigits u<=k:=by
 induction k generalizing u with
 |zero=>omega
 |succ k ih =>
  by_cases h10:u<10
  ·rw[Lib.nDigits_small h10];omega
  rw[Lib.nDigits_big h10];rcases Nat.eq_zero_or_pos k with h0 | h0
  ·subst h0;simp at h;omega
  have:=ih (u:=u/10) (by rw[Nat.pow_succ]at h;omega) h0;omega
theorem Il{u:Nat}(hk:0<k):k<Lib.nDigits u↔10^k<=u:=by
 constructor
 ·intro h;rcases Nat.lt_or_ge u (10^k)with g | g
  ·have:=Zo g hk;omega
  exact g
 intro h;rcases Nat.lt_or_ge k (Lib.nDigits u)with g | g
 ·exact g
 have h1:=Lib.lt_pow_nDigits u;have h2:10^Lib.nDigits u<=10^k:=Nat.pow_le_pow_right wv g;omega
def U6{l:List UInt8}(h:l.length<=k):(Vd k l).length=k:=by
 unfold Vd;rw[KZ];simp;omega
def xU(k:Nat)(l:List UInt8)(c:UInt8):Vd (k+1) (l++[c])=Vd k l++[c]:=by
 unfold Vd;simp
theorem Kt{q:Nat}(hq:0<q):∀(k r:Nat),0<k->r<10^k->Lib.decDigits (q*10^k+r)=Lib.decDigits q++Vd k (Lib.decDigits r)
 |0,_,h,_=>O
 |1,r,_,hr=>by
  simp only[Nat.pow_one]at *
  rw[Vm hq hr,Lib.decDigits_one hr];rfl
 |k+2,r,_,hr=>by
  have e:q*10^(k+2)+r=(q*10^(k+1)+r/10)*10+r%10:=by
   rw[Nat.pow_succ,<-Nat.mul_assoc];omega
  have hr1:r/10<10^(k+1):=by rw[Nat.pow_succ]at hr;omega
  have hpos:0<q*10^(k+1)+r/10:=by
   have:=Nat.mul_pos hq (Nat.pow_pos (n:=k+1) (show 0<10 by decide));omega
  rw[e,Vm hpos O,Kt hq (k+1) (r/10) O hr1,List.append_assoc];congr 1;by_cases h10:r<10
  ·rw[Lib.decDigits_one (show r/10<10 by omega),Lib.decDigits_one h10];have h0:r/10=0:=O;rw[h0];unfold Vd;rw[KZ,KZ];simp only[List.length_singleton,Nat.add_sub_cancel];rw[show k+2-1=k+1 by omega,List.replicate_succ',Nat.mod_eq_of_lt h10];rfl
  rw[<-xU];congr 1;rw[Lib.decDigits.eq_1 r,dif_neg h10]
def XZ(z:Int):List UInt8:=Lib.itoa z
def Q6(r:Rat):List UInt8:=if r.den=1 then XZ r.num else XZ r.num++47::Lib.decDigits r.den
theorem Zq(h:z<0):XZ z=45::Lib.decDigits z.natAbs:=by unfold XZ Lib.itoa;rw[if_pos h]
theorem Je(h:0<=z):XZ z=Lib.decDigits z.natAbs:=by
 unfold XZ Lib.itoa;rw[if_neg O];congr 1;omega
def YQ(l:List UInt8):Int:=if Lib.hasPrefix l [45]then -(JF (l.drop 1):Int)else(JF l:Int)
theorem Yb{l:List UInt8}(h:XT l=true):Lib.hasPrefix l [45]=false:=by
 cases l with
 |nil=>rfl
 |cons c l =>
  have hc:=YG.1 (by rw[Hz,Bool.and_eq_true]at h;exact h.1);have:(45==c)=false:=by
   apply beq_eq_false_iff_ne.2;rintro rfl;simp at hc
  simp[Lib.hasPrefix,List.isPrefixOf,this]
def ZT(z:Int):YQ (XZ z)=z:=by
 unfold YQ;by_cases h:z<0
 ·rw[Zq h];simp[Lib.hasPrefix,List.isPrefixOf,Jg];omega
 rw[Je O,Yb (JN _)];simp[Jg];omega
def Xc{a b:Int}{m n:Nat}(h:sz a<=m)(k:sz b<=n):sz (a*b)<=m+n:=Nat.le_trans (Zi a b) (Nat.add_le_add h k)
def R5{a b:Int}{m n:Nat}(h:sz a<=m)(k:sz b<=n):sz (a+b)<=max m n+1:=wm<|Nw a b
theorem Ko{a b:Int}(hb:b≠0):XH (Rat.divInt a b)<=max (sz a) (sz b):=by
 have key:∀(x y:Int),0<y->XH (Rat.divInt x y)<=max (sz x) (sz y):=by
  intro x y hy;have h:=YH (x:=x) hy;unfold XH;rw[h.1,h.2];have h1:sz (x/(Int.gcd x y:Int))<=sz x:=KA (Int.natAbs_ediv_le_natAbs _ _);have h2:sz (y/(Int.gcd x y:Int))<=sz y:=KA (Int.natAbs_ediv_le_natAbs _ _);omega
 rcases Int.lt_or_gt_of_ne hb with h | h
 ·rw[<-Rat.neg_divInt_neg];have:=key (-a) (-b) O;rw[Kq,Kq]at this;exact this
 exact key a b h
def ZZ(r:Rat):(r.den:Int)≠0:=wm<|den_pos r
def Vn(r s:Rat):r+s=Rat.divInt (r.num*s.den+s.num*r.den) ((r.den:Int)*s.den):=by
 rw[Rat.add_def',<-Rat.divInt_ofNat,Int.natCast_mul]
def Vf(r s:Rat):r*s=Rat.divInt (r.num*s.num) ((r.den:Int)*s.den):=by
 rw[Rat.mul_def',<-Rat.divInt_ofNat,Int.natCast_mul]
def RJ(r:Rat):XH (-r)=XH r:=by unfold XH;rw[Rat.neg_num,Rat.neg_den,Kq]
theorem qY(r s:Rat):XH (r+s)<=XH r+XH s+1:=by
 rw[Vn];refine Nat.le_trans (Ko (Int.mul_ne_zero (ZZ r) (ZZ s))) ?_;have h1:=R5 (Xc (JU r) (JQ s)) (Xc (JU s) (JQ r));have h2:=Xc (JQ r) (JQ s);omega
theorem Zg(r s:Rat):XH (r*s)<=XH r+XH s:=by
 rw[Vf];refine Nat.le_trans (Ko (Int.mul_ne_zero (ZZ r) (ZZ s))) ?_;have h1:=Xc (JU r) (JU s);have h2:=Xc (JQ r) (JQ s);omega
theorem Lf{r:Rat}(h:r.num≠0):XH r⁻¹<=XH r:=by
 rw[Rat.inv_def];have:=Ko (a:=(r.den:Int)) h;unfold XH at this ⊢;omega
theorem RL(n:Int):XH (n:Rat)<=max (sz n) 1:=by
 unfold XH;rw[Rat.num_intCast,Rat.den_intCast];have:sz ((1:Nat):Int)=1:=wv;omega
theorem HH{x y:Fr}{r s:Rat}(hF:Fits F w)(h:Jl F x r)(h':Jl F y s)(hr:XH r<=100000000)(hs:XH s<=100000000):ZQ prog 31 [x.v,y.v] w F (r*s):=by
 refine QQ.go (G:=λF=>Jl F x r/\Jl F y s) func31 hF ⟨h,h'⟩ ?_;refine QKt<|Q8 I (vs:=[_,_,_,_]) I λb2=>Q8 I (vs:=[_,_,_,_]) I λb3=>Qe VU λb4=>QJi<|QG<|JC (.cons _ tF) mixed wu<|QI (QH I Yw Qm)<|QI (wH I Qm .u1)<|QI (QH I Yw Qm)<|QI (wH I Qm .here)<|QV I (λ_ _ f k=>BJ f k.1.1 k.2.1 (Nat.le_trans (JU r) O) (Nat.le_trans (JU s) O)) λg9=>QI (QH I Yv Qm)<|QI (QX (vs:=[_,_]) I Qm .u1 (.skip (.skip .h2)) I)<|QI (QH I Yv Qm)<|QI (QX (vs:=[_,_]) I Qm .here (.skip (.skip .h2)) I)<|QV I (λ_ _ f k=>BJ f k.1.1.2 k.1.2.2 (Nat.le_trans (JQ r) O) (Nat.le_trans (JQ s) O)) λg14=>QV I (λw F hF ⟨⟨⟨⟨hn,hd⟩,⟨kn,kd⟩⟩,h9⟩,h14⟩=>AJ hF h9 h14 (Int.mul_ne_zero (ZZ r) (ZZ s)) (Nat.le_trans (Xc (JU r) (JU s)) O) (Nat.le_trans (Xc (JQ r) (JQ s)) O)) λx15=>Ju (vs:=[_,_,_,_]) I I I JA I .here tF (λ_ h=>h.1.1.1) .h4 wW<|Qv<|QC<|QT ?_
 exact QM (_) rfl (.J4 (c:=[_,_,_,_]) I JA .here .nil) rfl λF h9=>(by rw[Vf];exact⟨h9.2.1,h9.2.2⟩)
def Cz{r s:Rat}(h:(r.den:Int)=1)(k:(s.den:Int)=1):r+s=((r.num+s.num:Int):Rat):=by
 have h1:r.den=1:=O;have k1:s.den=1:=O;rw[Rat.add_def',h1,k1];apply Rat.ext
 ·rw[Rat.num_mkRat,Rat.num_intCast];simp
 rw[Rat.den_mkRat,Rat.den_intCast];simp
theorem de{x y:Fr}{r s:Rat}(hF:Fits F w)(h:Jl F x r)(h':Jl F y s)(hr:XH r<=100000000)(hs:XH s<=100000000):ZQ prog 70 [x.v,y.v] w F (r+s):=by
 refine QQ.go (G:=λF=>Jl F x r/\Jl F y s) func70 hF ⟨h,h'⟩ ?_;refine QKt<|Q8 I (vs:=[_,_,_,_]) I λb2=>Q8 I (vs:=[_,_,_,_]) I λb3=>Qe VU λb4=>QJi<|QG ?_
 refine B0 10 (.bool (decide ((r.den:Int)=1)&&decide ((s.den:Int)=1))) ?_ ?_
 ·refine QB<|QA (wJ I JA .u2)<|QJ I (λw F hF ⟨⟨hn,hd⟩,⟨kn,kd⟩⟩=>EJ hF ⟨by assumption,by assumption⟩) λ_=>QJj I ?_
  refine Qn (t:=7) rfl (λhb7=>?_) λhb7=>?_
  ·refine QP I I<|QA (wJ I JA .u1)<|QP I I<|QJ I (λw F hF ⟨⟨⟨hn,hd⟩,⟨kn,kd⟩⟩,_⟩=>EJ hF ⟨by assumption,by assumption⟩) λ_=>wB 2 I ?_
   exact X3 (exd 7 rfl rfl) (by show some (Value.bool _)=some (Value.bool _);rw[hb7];rfl) QJ3 λ_ h=>h.1.1
  refine wB 4 I ?_;exact X3 (exd 7 rfl rfl) (by show some (Value.bool false)=some (Value.bool _);rw[hb7];rfl) QJ3 tD
 refine QL I (λhc=>?_) λhc=>?_
 ·refine QKt<|QA (QH I Yw Qm)<|QA (wH I Qm .u2)<|QA (QH I Yw Qm)<|QA (wH I Qm .u1)<|QJ I (λ_ _ f k=>OU f k.1.1 k.2.1 (Nat.le_trans (JU r) O) (Nat.le_trans (JU s) O)) λg15=>QJ I (λw F hF ⟨⟨⟨hn,hd⟩,⟨kn,kd⟩⟩,h15⟩=>S5 hF (by assumption)) λx16=>QS (vs:=[_,_,_,_]) I I I JA I .here .h4 wW<|QJi<|QT ?_
  exact QM (_) rfl (.J4 (c:=[_,_,_,_]) I JA .here .nil) rfl λF h9=>(by have hc2:(r.den:Int)=1/\(s.den:Int)=1:=(by simpa using hc);have e:(r+s:Rat)=((r.num+s.num:Int):Rat):=Cz hc2.1 hc2.2;rw[e];exact⟨h9.2.1,h9.2.2⟩)
 refine QLj 3 I<|JC (.cons _ tF) mixed wu<|QI (QH I Yw Qm)<|QI (wH I Qm .u1)<|QI (QH I Yv Qm)<|QI (QX (vs:=[_,_]) I Qm .here (.skip (.skip .h2)) I)<|QV I (λ_ _ f k=>BJ f k.1.1 k.2.2 (Nat.le_trans (JU r) O) (Nat.le_trans (JQ s) O)) λg21=>QI (QH I Yw Qm)<|QI (wH I Qm .here)<|QI (QH I Yv Qm)<|QI (QX (vs:=[_,_]) I Qm .u1 (.skip (.skip .h2)) I)<|QV I (λ_ _ f k=>BJ f k.1.2.1 k.1.1.2 (Nat.le_trans (JU s) O) (Nat.le_trans (JQ r) O)) λg26=>QV I (λ_ _ f k=>OU f k.1.2 k.2 (Nat.le_trans (Xc (JU r) (JQ s)) O) (Nat.le_trans (Xc (JU s) (JQ r)) O)) λg27=>QI (QH I Yv Qm)<|QI (QX (vs:=[_,_]) I Qm .u1 (.skip (.skip .h2)) I)<|QI (QH I Yv Qm)<|QI (QX (vs:=[_,_]) I Qm .here (.skip (.skip .h2)) I)<|QV I (λ_ _ f k=>BJ f k.1.1.1.1.2 k.1.1.1.2.2 (Nat.le_trans (JQ r) O) (Nat.le_trans (JQ s) O)) λg32=>QV I (λ_ _ f k=>AJ f k.1.2 k.2 (Int.mul_ne_zero (ZZ r) (ZZ s)) (Nat.le_trans (R5 (Xc (JU r) (JQ s)) (Xc (JU s) (JQ r))) O) (Nat.le_trans (Xc (JQ r) (JQ s)) O)) λx33=>Ju (vs:=[_,_,_,_]) I I I JA I .here tF (λ_ h=>h.1.1.1.1.1) .h4 wW<|Qv<|QC<|QT ?_
 exact QM (_) rfl (.J4 (c:=[_,_,_,_]) I JA .here .nil) rfl λF h9=>(by rw[Vn];exact⟨h9.2.1,h9.2.2⟩)
theorem QBG{x:Fr}{r:Rat}(hF:Fits F w)(h:Jl F x r)(h0:r.num≠0)(hr:XH r<=100000000):ZQ prog 74 [x.v] w F r⁻¹:=by
 refine QQ.go (G:=λF=>Jl F x r) func74 hF h ?_;refine QKt<|Q8 I (vs:=[_,_,_,_]) I λb1=>Qe VU λb2=>QJi<|QKt<|QA (QH I Yv Qm)<|QA (QX (vs:=[_,_]) I Qm .u1 (.skip (.skip .h2)) I)<|QA (QH I Yw Qm)<|QA (wH I Qm .u1)<|QJ I (λ_ _ f k=>AJ f k.2 k.1 h0 (Nat.le_trans (JQ r) O) (Nat.le_trans (JU r) O)) λx7=>QS (vs:=[_,_,_,_]) I I I JA I .here .h4 wW<|QJi<|QT ?_
 exact QM (_) rfl (.J4 (c:=[_,_,_,_]) I JA .here .nil) rfl λF h9=>(by rw[Rat.inv_def];exact⟨h9.2.1,h9.2.2⟩)
theorem QEe{x y:Fr}{r s:Rat}(hF:Fits F w)(h:Jl F x r)(h':Jl F y s)(h0:s.num≠0)(hr:XH r<=100000000)(hs:XH s<=100000000):ZQ prog 34 [x.v,y.v] w F (r/s):=by
 refine QQ.go (G:=λF=>Jl F x r/\Jl F y s) func34 hF ⟨h,h'⟩ ?_;refine QKt<|Q8 I (vs:=[_,_,_,_]) I λb2=>Q8 I (vs:=[_,_,_,_]) I λb3=>Qe VU λb4=>QJi<|QG<|JC (.cons _ tF) mixed wu<|QI (wJ I JA .u1)<|QI (wJ I JA .here)<|QV I (λ_ _ f k=>QBG f ⟨k.2.1,k.2.2⟩ h0 hs) λx7=>QV I (λ_ _ f k=>HH f ⟨k.1.1.1,k.1.1.2⟩ ⟨k.2.1,k.2.2⟩ hr (Nat.le_trans (Lf h0) hs)) λx8=>Ju (vs:=[_,_,_,_]) I I I JA I .here tF (λ_ h=>h.1.1) .h4 wW<|Qv<|QC<|QT ?_
 exact QM (_) rfl (.J4 (c:=[_,_,_,_]) I JA .here .nil) rfl λF h9=>(by rw[Rat.div_def];exact⟨h9.2.1,h9.2.2⟩)
def yF(r s:Rat):Int:=if r<s then -1 else if r=s then 0 else 1
def pE(r s:Rat):Zb (r.num*s.den) (s.num*r.den)=yF r s:=by
 unfold yF;rcases Int.lt_trichotomy (r.num*s.den) (s.num*r.den)with h | h | h
 ·rw[WD h,if_pos ((Rat.lt_iff r s).2 h)]
 ·rw[h,Mz,if_neg (by rw[Rat.lt_iff];omega),if_pos (Rat.eq_iff_mul_eq_mul.2 h)]
 rw[Hw h,if_neg (by rw[Rat.lt_iff];omega),if_neg (by rw[Rat.eq_iff_mul_eq_mul];omega)]
theorem QEf{x y:Fr}{r s:Rat}(hF:Fits F w)(h:Jl F x r)(h':Jl F y s)(hr:XH r<=100000000)(hs:XH s<=100000000):QY prog 150 [x.v,y.v] w F (.int .i64 (yF r s)):=by
 rw[<-pE];refine QQ.go (G:=λF=>Jl F x r/\Jl F y s) func150 hF ⟨h,h'⟩ ?_;refine QKt<|Q8 I (vs:=[_,_,_,_]) I λb2=>Q8 I (vs:=[_,_,_,_]) I λb3=>wR I<|QG<|JC QJ3 mixed wu<|QI (QH I Yw Qm)<|QI (wH I Qm .u1)<|QI (QH I Yv Qm)<|QI (QX (vs:=[_,_]) I Qm .here (.skip (.skip .h2)) I)<|QV I (λ_ _ f k=>BJ f k.1.1 k.2.2 (Nat.le_trans (JU r) O) (Nat.le_trans (JQ s) O)) λg9=>QI (QH I Yw Qm)<|QI (wH I Qm .here)<|QI (QH I Yv Qm)<|QI (QX (vs:=[_,_]) I Qm .u1 (.skip (.skip .h2)) I)<|QV I (λ_ _ f k=>BJ f k.1.2.1 k.1.1.2 (Nat.le_trans (JU s) O) (Nat.le_trans (JQ r) O)) λg14=>QV I (λw F hF ⟨⟨⟨⟨hn,hd⟩,⟨kn,kd⟩⟩,h9⟩,h14⟩=>QEn hF h9 h14 (Nat.le_trans (Xc (JU r) (JQ s)) O) (Nat.le_trans (Xc (JU s) (JQ r)) O)) λ_=>QI (QE I)<|Qv<|QC<|QT ?_
 exact QL3 I I I tB
theorem Yo.kind{s:Int}{n:Nat}(h:Yo w s q n cap z):(q.isNone=true/\s=z/\-9223372036854775808<=z/\z<=9223372036854775807)\/(q.isNone=false/\¬(-9223372036854775808<=z/\z<=9223372036854775807/\z≠-9223372036854775808)):=by
 rcases h with ⟨rfl,_,_,h1,h2,h3⟩ | ⟨b,off,l,rfl,_,_,_,_,_,_,_,hs,hz,hd⟩
 ·exact .inl ⟨rfl,h1,h2,h3⟩
 refine .inr ⟨rfl,?_⟩;rcases hs with rfl | rfl<;>omega
theorem vV{a:Int}(hF:Fits F w)(h:Jt F g a):QQ prog 101 [g.v] w F (λ(c:Int×Bool)=>.tuple #[.int .i64 c.1,.bool c.2])
  (λc _=>(c.2=true/\c.1=a/\-9223372036854775808<=a/\a<=9223372036854775807)\/(c.2=false/\¬(-9223372036854775808<=a/\a<=9223372036854775807/\a≠-9223372036854775808))):=by
 have hk:=Yo.kind (h w hF.r);refine QQ.go (G:=λF=>Jt F g a) func101 hF h ?_;refine QKt<|Q8 I (vs:=[_,_]) I λb1=>QLi 5 I<|JC QJ3 mixed wu<|QI (QH I Pa QZ)<|QI (Qf I QZ .here .h1)<|QI (QH I EM GL)<|QI (Qf I GL .here (.skip .h1))<|QI (Wk I I VZ)<|QI (QE I)<|QI (QE I)<|Qv<|QC<|QT ?_
 exact J7 ((g.s,g.q.isNone)) I (wP I I) rfl λF _=>hk
theorem Lx{w0:World}{F0:Gs}{bs:List (Nat×Obj)}{G:Gs->Prop}{n:Nat}(hx:ev m x=some (.pointer (some ⟨b,off+i*1,none⟩)))(ht:Zd P T=some (false,n))(hr:∀F,G F->Kh F ⟨some ⟨b,off,none⟩,k,cap⟩ l)(hi:i<l.length):
  Qt P N m (St ⟨w0,F0,bs,G⟩) (.load T x) ty (.int .u64 (l.getD i 0)):=λa w _ _ _ _ ha hw=>by
 obtain⟨F,hw⟩:=hw;obtain⟨q,cap',e,_,_,hc⟩:=(hr F hw.hG).1 w hw.fits.r;obtain⟨b',off',e1,_,e2⟩:=hc i hi;simp only[Sr.v,Value.slice.injEq]at e;have e3:=e.1.trans e1;simp only[Option.some.injEq,Addr.mk.injEq]at e3;obtain⟨rfl,rfl,_⟩:=e3;have hc':w.cell? ⟨b,off+i*1,none⟩=some (.int .u64 (l.getD i 0)):=by rw[Nat.mul_one];exact e2
 have hrun:=Zm (P:=P) ht hc';simp at hrun;simp[execOp,ha.ev hx,Instr.loadAt,Instr.sureAddr,hrun]
theorem Kh.at{r:Sr}(h:Kh F r l){w:World}(hw:Fits F w)(hl:l≠[]):r.n=l.length/\∃b off,r.q=some ⟨b,off,none⟩:=by
 obtain⟨q,cap,e,_,_,hc⟩:=h.1 w hw.r;have hlen:0<l.length:=by cases l with | nil=>exact absurd rfl hl | cons=>simp
 obtain⟨b,off,e1,_,_⟩:=hc 0 hlen;simp only[Sr.v,Value.slice.injEq]at e;exact⟨e.2.1,b,off,e.1.trans e1⟩
theorem Kh.len{r:Sr}(h:Kh F r l){w:World}(hw:Fits F w):r.n=l.length:=by
 obtain⟨q,cap,e,_,_,hc⟩:=h.1 w hw.r;simp only[Sr.v,Value.slice.injEq]at e;exact e.2.1
theorem jY(h1:2^k<=z.natAbs)(h2:z.natAbs<2^(k+1)):sz z=k+1:=by
 have a:=(XA z (k+1)).2 h2;have b:¬sz z<=k:=λh=>wm<|(XA z k).1 h
 omega
theorem Ct(hd:DG W l)(hn:NZ l)(hl:l≠[]){a:Int}(ha:dv W l=Jd a):sz a=64*(l.length-1)+Lib.bitLen (l.getD (l.length-1) 0).toNat/\Lib.bitLen (l.getD (l.length-1) 0).toNat<=64:=by
 rcases IL l with h | ⟨m,x,rfl⟩
 ·exact absurd h hl
 have hx:=hd x w9;have hx0:x≠0:=by intro e;subst e;simp[NZ]at hn
 have hm:DG W m:=hd.left;have e1:((m++[x]).getD ((m++[x]).length-1) 0)=x:=w9;rw[e1];have e2:(m++[x]).length-1=m.length:=w9;rw[e2];have hW:W=18446744073709551616:=rfl;obtain⟨y,rfl⟩:=Int.eq_ofNat_of_zero_le hx.1;rw[Int.toNat_natCast];have hy1:y<2^64:=by have:=hx.2;rw[hW]at this;omega
 obtain⟨g1,g2,g3⟩:=Lib.bitLenAux_bounds 64 y hy1 O;change 1<=Lib.bitLen y at g1;change 2^(Lib.bitLen y-1)<=y at g2;change y<2^Lib.bitLen y at g3;have g4:Lib.bitLen y<=64:=Lib.bitLen_le y 64 O hy1;refine⟨?_,g4⟩;rw[XW]at ha;have h0:=Qx (by decide:(0:Int)<W) hm;have h1:=Z9 (by decide:(0:Int)<W) hm;obtain⟨d,hd'⟩:=Int.eq_ofNat_of_zero_le h0;have hWp:W^m.length=((2^(64*m.length):Nat):Int):=by
  rw[hW,Nat.pow_mul];simp
 rw[hWp]at ha h1;rw[hd']at ha h1;have hna:a.natAbs=d+2^(64*m.length)*y:=by
  have:((a.natAbs:Nat):Int)=((d+2^(64*m.length)*y:Nat):Int):=by
   rw[<-K7,<-ha];simp
  exact Int.ofNat.inj this
 have hlt:d<2^(64*m.length):=O;obtain⟨k,hk⟩:∃k,Lib.bitLen y=k+1:=⟨_,(Nat.sub_add_cancel g1).symm⟩;rw[hk]at g2 g3 ⊢;rw[Nat.add_sub_cancel]at g2;have hp:2^(64*m.length+k)=2^(64*m.length)*2^k:=Nat.pow_add _ _ _;have hp':2^(64*m.length+k+1)=2^(64*m.length)*2^(k+1):=by rw[Nat.add_assoc,Nat.pow_add]
 refine jY (k:=64*m.length+k) ?_ ?_
 ·rw[hna,hp];exact Nat.le_trans (Nat.mul_le_mul_left _ g2) (Nat.le_add_left _ _)
 rw[hna,hp'];have h2:2^(64*m.length)*(y+1)<=2^(64*m.length)*2^(k+1):=Nat.mul_le_mul_left _ g3;rw[Nat.mul_add]at h2;omega
theorem QBT{a:Int}(hF:Fits F w)(h:Jt F g a)(hza:sz a<=1000000000):QY prog 147 [g.v] w F (.int .i64 (sz a)):=by
 refine QQ.go (G:=λF=>Jt F g a) func147 hF h ?_;refine QKt<|Q8 I (vs:=[_,_]) I λb1=>QLi 5 I<|QA (wH I Qm .here) ?_
 refine QJ I (λ_ _ f k=>Mj f (by assumption)) (λc7=>?_);rcases c7 with ⟨v7,l7⟩;dsimp only;refine JM _ (λw F hF ⟨hG0,⟨h7,h7p⟩⟩=>And.intro h7.2 h7p) (λp7=>JM _ (λ_ _ f k=>k.2.1.len f) λhl7=>?_);have hlen7:=X5 p7.1.1 p7.1.2 p7.2 hza
 try dsimp only at hl7
 refine QLi 11 I<|QA (QW I VZ)<|QLi 3 I ?_
 refine QL I (λhc=>?_) λhc=>?_
 ·refine wA 6 I ?_;exact QM () I (wO I) (by have h0:l7=[]:=List.eq_nil_of_length_eq_zero (by simp at hc;omega);have e:=p7.2;rw[h0]at e;have:a=0:=(by have:=K7 a;simp at e;omega);subst this;rfl) tB
 refine QLj 4 I ?_;have hne:l7≠[]:=by rintro rfl;simp at hc;simp at hl7;omega
 have hpos:0<l7.length:=by cases l7 with | nil=>exact absurd rfl hne | cons=>simp
 have hsp:=Ct p7.1.1 p7.1.2 hne p7.2;refine JM _ (λ_ _ f k=>(k.2.1.at f hne).2) (λhq7=>?_);obtain⟨qb,qo,hq7⟩:=hq7;obtain⟨vq,vn,vcap⟩:=v7
 try dsimp only at hq7 hl7
 subst hq7;subst hl7;dsimp only;refine QJj I<|QA (QW I VZ)<|QA (Jk I I O)<|QA (VN I I O)<|wB 2 I<|QA (QW I VZ)<|QA (Jk I I O)<|QA (Qj (i:=l7.length-1) rfl wN VZ Ns O)<|QA (Lx I Ns (λF h9=>h9.2.1) O)<|QJ I (λ_ _ f k=>gh f (p7.1.1.getD wv _).1 (by have:=(p7.1.1.getD wv (l7.length-1)).2;have hW:W=18446744073709551616:=rfl;omega)) λ_=>QA (Qk I I O)<|wR I<|QT ?_
 exact QM () I (wO I) (congrArg (Value.int .i64) (wm hsp.1)) tB
def DE{l:List UInt8}(h:XT l=true):sz (JF l:Int)<=4*l.length:=by
 rw[XA,Int.natAbs_natCast,Nat.pow_mul];exact Nat.lt_of_lt_of_le (K1 h) (Nat.pow_le_pow_left wv _)
def QEO(n:Nat):(if(n:Int)<18 then(n:Int)else 18)=((min 18 n:Nat):Int):=by split<;>omega
def IU{l:List UInt8}{n:Nat}:JF (l.take (k+n))=JF (l.take k)*10^((l.drop k).take n).length+JF ((l.drop k).take n):=by
 rw[<-YF,List.take_add]
def UZ(k:Nat):sz ((10:Int)^k)<=4*k+1:=by have:=Ua 10 k;rw[show sz 10=4 by decide]at this;omega
structure QAA(n:Nat) where
 k:Nat
 g:Bg
 le:k<=n
theorem N6(hF:Fits F w)(hs:XT (Lib.trimPrefix s [45])=true)(hl:s.length<=10000000):Zc prog 62 [tx s] w F (YQ s):=by
 have hll:(Lib.trimPrefix s [45]).length<=s.length:=by unfold Lib.trimPrefix;split<;>simp
 have hval:YQ s=if Lib.hasPrefix s [45]then -(JF (Lib.trimPrefix s [45]):Int)else(JF (Lib.trimPrefix s [45]):Int):=by
  unfold YQ Lib.trimPrefix;split<;>simp_all
 rw[hval];refine QQ.intro (G:=λ_=>True) func62 rfl w8 rfl rfl hF tB<|QKt<|Qe GZ λb2=>QJi<|wS rfl<|QJ rfl (λ_ _ f _=>Aj f ) λ_=>wR rfl<|wS rfl<|QJ rfl (λ_ _ f k=>DC f ) λ_=>wR rfl<|QKt<|QA (Jr rfl QEB GZ .nil)<|Qe GZ λb4=>QS (vs:=[_,_]) rfl rfl rfl Qm rfl .here .h2 wU<|QLi 4 I ?_
 generalize Lib.trimPrefix s [45]=l at *
 refine KK (ι:=QAA l.length) (λi=>[(0,tx (l.drop i.k)),(2,.pointer (some ⟨b2,0,none⟩)),(4,.pointer (some ⟨b4,0,none⟩)),(3,.bool (Lib.hasPrefix s [45]))]) (λi=>[(b4,.cells #[.int .i64 i.g.s,.slice i.g.q i.g.n i.g.cap] 75 (0,0)),(b2,.cells #[.int .i64 0,.slice none 0 0] 75 (0,0))]) (λi F=>Jt F i.g (JF (l.take i.k))) (λi=>l.length-i.k)
  ⟨0,⟨0,none,0,0⟩,Nat.zero_le _⟩ wW QJ3 (λF _=>Jt.small F wv wv) λi=>?_
 refine wA 4 I<|QA (Jx I XO)<|QLi 3 I ?_
 refine QL I (λhc=>?_) λhc=>?_
 ·refine QLj 6 I<|QA (Jx I XO)<|QA (ub I I) ?_
  rw[QEO];have hk0:i.k<l.length:=by simp at hc;omega
  have hpl:((l.drop i.k).take (min 18 (l.drop i.k).length)).length=min 18 (l.drop i.k).length:=w9;have hpa:XT ((l.drop i.k).take (min 18 (l.drop i.k).length))=true:=Hy (EU hs _) _;have hp18:=K1 hpa;have hpz:(10:Nat)^((l.drop i.k).take (min 18 (l.drop i.k).length)).length<=10^18:=Nat.pow_le_pow_right wv O;have hm0:0<min 18 (l.drop i.k).length:=tA;have hsk:sz (JF (l.take i.k):Int)<=40000000:=Nat.le_trans (DE (Hy hs _)) tA;refine wR rfl<|wS rfl<|QJj rfl<|QA (V8 (min 18 (l.drop i.k).length) rfl rfl XO rfl O)<|QJ rfl (λ_ _ f k=>QBV f O (Cw hpa (by intro e;rw[e]at hpl;simp at hpl;omega))) λ_=>QLi 8 I<|JY 8 QJ3 mixed wu wu ?_
  simp only[List.take_succ_cons,List.take_zero,List.drop_succ_cons,List.drop_zero];refine QI (wH I Qm .here)<|QV I (λ_ _ f k=>Fv f O O) λg27=>QI (QD I)<|QV I (λ_ _ f k=>QD5 f k.2 O O (by rw[Int.toNat_natCast,show sz 10=4 by decide];omega)) λg29=>QV I (λ_ _ f k=>BJ f k.1.1.1 k.2 O (by rw[Int.toNat_natCast];exact Nat.le_trans (UZ _) O)) λg30=>QI (QD I)<|QV I (λ_ _ f k=>Fv f O O) λg32=>QV I (λ_ _ f k=>OU f k.1.2 k.2 (Nat.le_trans (Xc hsk (UZ _)) (by rw[Int.toNat_natCast];omega)) (Nat.le_trans (DE hpa) O)) λg33=>X1<|QS (vs:=[_,_]) I I I Qm I .here .h2 wU<|QLi 5 I<|QA (Z2 (min 18 (l.drop i.k).length) rfl rfl XO I O)<|wB 2 I<|Qa ?_
  refine Qb (⟨i.k+min 18 (l.drop i.k).length,g33,tA⟩:QAA l.length) (hm:=⟨(by show some (tx _)=some (tx _);simp),rfl,rfl,rfl,trivial⟩) (hg:=λF ⟨_,h33⟩=>by
   show Jt F g33 (JF (l.take (i.k+min 18 (l.drop i.k).length)):Int);rw[IU];rw[Int.toNat_natCast]at h33;have e:((l.drop i.k).take (min 18 (l.drop i.k).length)).length=min 18 (l.drop i.k).length:=w9;rw[e,Int.natCast_add,Int.natCast_mul,Int.natCast_pow];exact h33)
 refine Q7 ?_;refine wA 6 I ?_;have hdone:l.take i.k=l:=List.take_of_length_le (by have:=i.le;simp at hc;omega);clear hc;refine QL I (λhc=>?_) λhc=>?_
 ·refine QKt<|QA (wH I Qm .here)<|QJ I (λ_ _ f k=>SN f k) λg39=>QS (vs:=[_,_]) I I I Qm I .u1 .h2 wU<|QJi<|QT ?_
  exact QM (_) rfl (.J4 (c:=[_,_]) I Qm .u1 .nil) rfl λF ⟨hO,h39⟩=>(by rw[hdone]at h39;rw[if_pos hc];exact h39)
 refine QLj 4 I<|QA (wH I Qm .here)<|QS (vs:=[_,_]) I I I Qm I .u1 .h2 wU<|QJi<|QT ?_
 exact QM (_) rfl (.J4 (c:=[_,_]) I Qm .u1 .nil) rfl λF hO=>(by rw[hdone]at hO;rw[if_neg (by simp[hc])];exact hO)
section
variable[Dr][df:Df]{P:Program}{Q:Exit->Act->World->Prop}{N:Nat}{m:Sl}{E E0:Env}{ops:Array Oper}{l:List Oper}{w0:World}{F0:Gs}{bs:List (Nat×Obj)}{G:Gs->Prop}
theorem St.yN(h:St ⟨w0,F0,bs,G⟩ w)(c:Array Value)(T:TypeId):St ⟨w0,F0,bs,λF=>G F/\F w.heap.size=some (c,T)⟩ (w.alloc (.cells c T)):=by
 obtain⟨F,h⟩:=h;have hnone:=h.fits.none (Nat.le_refl _);have hle:Gs.le F (λi=>if i=w.heap.size then some (c,T)else F i):=λi x hx=>by
  grind
 have hnew:(w.alloc (.cells c T)).heap[w.heap.size]?=some (.cells c T):=by show(w.heap.push _)[_]?=_;simp
 refine⟨_,Gs.le_trans h.le hle,λb hb=>?_,⟨λb c' T' hb=>?_,λb c' fr hb=>?_⟩,h.ext.alloc _,λk hk=>?_,h.nd,λF' hF'=>⟨h.g F' (Gs.le_trans hle hF'),hF' _ _ (if_pos rfl)⟩⟩
 ·have hb2:=Nat.lt_of_lt_of_le hb h.ext.size;rw[if_neg O];exact h.old b hb
 ·by_cases e:b=w.heap.size
  ·simp_all
  rw[if_neg e]at hb;obtain⟨fr,e2⟩:=h.fits.row b c' T' hb
  grind[Below.heap_alloc]
 ·by_cases e:b=w.heap.size
  ·simp_all
  rw[if_neg e];have hlt:b<w.heap.size:=by
   rcases Nat.lt_or_ge b _ with g | g
   ·exact g
   have:(w.heap.push _)[b]?=some _:=hb
   grind
  rw[Below.heap_alloc _ _ _ hlt]at hb;exact h.fits.all b c' fr hb
 obtain⟨h1,h2,h3⟩:=h.bx k hk;exact⟨by grind[Below.heap_alloc],h2,by grind⟩
section
variable{d:Nat}{ty:TypeId}{pos:String}{aft:Array Edge}
theorem Qw{t:TypeId}{n sz:Nat}{z:List Value}{g:Bool}{parts:Array _}{ps:List _}(hp:WQ m parts.toList=some ps)(ht:P.underlying t=some (.slice e))(hs:Zd P e=some (g,sz))(hz:J1 P e=some z)
  (hc:Yu sz 0 ps=some cs) (hl:cs.length=n*sz) (k:∀b,JS P ops Q l N ((d,.slice (some ⟨b,0,none⟩) n n)::m) ⟨w0,F0,bs,λF=>G F/\F b=some (cs.toArray,e)⟩) (h24:Nat.ble (n*sz) 16777216=true:=by rfl) (hn:Nat.beq (n*sz) 0=false:=by rfl)
  (hd:Jq N (some d)=true:=by rfl):JS P ops Q (⟨some d,.buildSlice t n parts,ty,pos,aft,none⟩::l) N m ⟨w0,F0,bs,G⟩:=λa w ha hw =>
 wpList_plain rfl λ_ hK=>upon_value (KF ha hp ht hs hz hc hl h24 hn) (hK _ _ (k _ _ _ (ha.put hd _) (hw.yN _ _)))
theorem Zj{t:TypeId}{sz bytes n:Nat}{z:List Value}{g:Bool}{X Y:Operand}{x y:Value}{news:List Value}{ob bs1:List _}(hx:ev m X=some x)(hy:ev m Y=some y)(ht:Ga P t=some e)(hs:Zd P e=some (g,sz))(hz:J1 P e=some z)(hzl:z.length=sz)(hby:ZM P e=some bytes)
  (hr:Qp e sz x n olds ob) (hs2:Src ⟨w0,F0,bs1++ob,G⟩ sz y k news) (h63:n+k<=9223372036854775807) (h47:(n+k)*bytes<=140737488355328) (h1:∀v∈news,v.oneCell'=true)
  (kk:∀v' ob',Qp e sz v' (n+k) (olds++news) ob'->JS P ops Q l N ((d,v')::m) ⟨w0,F0,bs1++ob',G⟩) (hu:Vy e=true:=by rfl) (hd:Jq N (some d)=true:=by rfl) :
  JS P ops Q (⟨some d,.call ⟨.builtin .append,#[X,Y],#[t,t]⟩,ty,pos,aft,none⟩::l) N m ⟨w0,F0,bs1++ob,G⟩ :=
 Xu List.perm_append_comm (DA hx hy ht hs hz hzl hby hr ⟨hs2.len,hs2.rd.imp id λ⟨a,c,e1,e2⟩=>⟨a,c,e1,λw hw=>e2 w (hw.perm List.perm_append_comm)⟩⟩ h63 h47 h1
  (λv' ob' h=>Xu List.perm_append_comm (kk v' ob' h)) hu hd)
end
theorem Own.skip{l:List _}{o:Obj}{f:Obj->List _}(h:Own l b o f):∀p:List _,Own (p++l) b o (λo'=>p++f o')
 |[]=>h
 |_::p=>.there (h.skip p)
theorem O9{sz n n':Nat}{v:Value}{ob:List _}{u:Value}(hr:Qp e sz v n cs ob)(hm:∀k∈ob,k∈bs)(hb:v = .slice (some ⟨b,0,none⟩) n n')(hx:ev m x=some (.pointer (some ⟨b,0+i*1,none⟩)))(ht:Zd P T=some (false,1))(hu:cs[i]?=some u):
  Qt P N m (St ⟨w0,F0,bs,G⟩) (.load T x) ty u:=λa w _ _ _ _ ha hw=>by
 obtain⟨F,hw⟩:=hw;cases hr with
 |nil=>grind
 |some g1 g2 g3 g4 =>
  rename_i b' cap rest;simp only[Value.slice.injEq,Option.some.injEq,Addr.mk.injEq]at hb;have hbb:=hb.1.1;subst hbb;have hi:i<cs.length:=by grind
  have hc:w.cell? ⟨b',0+i*1,none⟩=some u:=by
   rw[ZC (hw.bx (b',.cells (cs++rest).toArray e (0,0)) (hm _ w9)).1,Nat.zero_add,Nat.mul_one,List.getElem?_append,if_pos hi];exact hu
  have hrun:=Zm ht hc;simp only[execOp,ha.ev hx,Instr.loadAt,Instr.sureAddr,Sem.run_bind,Sem.run_pure,Result.andThen_ok,hrun]
end
def hd(q:Nat):List UInt8:=if q=0 then[]else Lib.decDigits q
def dL{n:Nat}(h:0<n):hd n=hd (n/10^18)++(if n/10^18=0 then Lib.decDigits (n%10^18)else Vd 18 (Lib.decDigits (n%10^18))):=by
 unfold hd;rw[if_neg O];split
 ·rename_i h0;rw[List.nil_append];congr 1;omega
 rename_i h0;rw[<-Kt O 18 _ wv (Nat.mod_lt _ wv)];congr 1;rw[Nat.mul_comm];exact(Nat.div_add_mod n (10^18)).symm
theorem CI(hd:DG W l)(hn:NZ l)(h:dv W l<W):(l=[]\/l=[dv W l]):=by
 cases l with
 |nil=>exact .inl rfl
 |cons x r =>
  cases r with
  |nil=>right;simp
  |cons y r =>
   exfalso;have:=De (by decide:(0:Int)<W) hd hn w9;have h2:=YR (b:=W) wv (show 1<=(x::y::r).length-1 by simp);rw[Int.pow_one]at h2;omega
structure C1(n:Nat) where
 l:List Int
 r:Sr
 ps:List (List UInt8)
 v:Value
 ob:List (Nat×Obj)
 dg:DG W l
 nz:NZ l
 le:(dv W l).toNat<=n
 hr:Qp 9 1 v ps.length (ps.map tx) ob
 ne:∀p∈ps,p≠[]
 inv:hd (dv W l).toNat++ps.reverse.flatten=hd n
theorem Ar:∀ {ps:List (List UInt8)},(∀p∈ps,p≠[])->ps.length<=ps.flatten.length
 |[],_=>w9
 |p::ps,h=>by
  have h1:=Ar (ps:=ps) (λq hq=>h q (by simp[hq]));have h2:0<p.length:=by
   have:=h p w9;cases p with | nil=>exact absurd rfl this | cons=>simp
  simp[List.length_flatten]at h1 ⊢;omega
theorem zR{n:Nat}(h:n<2^k):(hd n).length<=k:=by
 unfold hd;split
 ·simp
 rename_i h0;rw[Lib.decDigits_length];have hk:0<k:=by rcases Nat.eq_zero_or_pos k with e | e;subst e;simp at h;omega;exact e
 exact Zo (Nat.lt_of_lt_of_le h (Nat.pow_le_pow_left wv k)) hk
def TH(ps:List (List UInt8)):ps.reverse.flatten.length=ps.flatten.length:=by
 induction ps with
 |nil=>rfl
 |cons p ps ih=>simp[List.flatten_append];simp[List.length_flatten]at ih ⊢;omega
def C1.few{n:Nat}(i:C1 n)(h:n<2^k):i.ps.length<=k:=by
 have h1:=Ar i.ne;have h2:=congrArg List.length i.inv;rw[List.length_append,TH]at h2;have h3:=zR h;omega
def QAp{l:List UInt8}(h:l≠[]):Vd 18 l≠[]:=by
 unfold Vd;simp[h]
def C1.next{n:Nat}(i:C1 n)(hl:i.l≠[])(q:List Int)(rq:Sr)(v':Value)(ob':List (Nat×Obj))(s:List UInt8)(hdq:DG W q)(hnq:NZ q)(hq:(dv W q).toNat=(dv W i.l).toNat/10^18)
  (hs:s=if(dv W q).toNat=0 then Lib.decDigits ((dv W i.l).toNat%10^18)else Vd 18 (Lib.decDigits ((dv W i.l).toNat%10^18)))
  (hr:Qp 9 1 v' (i.ps.length+1) (i.ps.map tx++[tx s]) ob'):C1 n where
 l:=q
 r:=rq
 ps:=i.ps++[s]
 v:=v'
 ob:=ob'
 dg:=hdq
 nz:=hnq
 le:=by have:=i.le;have:=Nat.div_le_self (dv W i.l).toNat (10^18);omega
 hr:=by simpa using hr
 ne:=by
  intro p hp;rcases List.mem_append.1 hp with h | h
  ·exact i.ne p h
  rw[List.mem_singleton.1 h,hs];split
  ·exact YW _
  exact QAp (YW _)
 inv:=by
  have h0:0<(dv W i.l).toNat:=by
   have h1:=Qx (by decide:(0:Int)<W) i.dg;have h2:=mt (KJ (by decide:(1:Int)<W) i.dg i.nz).1 hl;omega
  rw[<-i.inv,dL h0,<-hq,hs];simp[List.flatten_append]
def zo{q:List Int}{b:Int}(hb:b=1000000000000000000)(h:dv W q=dv W l/b)(h0:0<=dv W l):(dv W q).toNat=(dv W l).toNat/10^18:=by
 subst hb;rw[h];omega
def dp{r:List Int}{b:Int}(hb:b=1000000000000000000)(h:dv W r=dv W l%b)(h0:0<=dv W l):(dv W r).toNat=(dv W l).toNat%10^18/\dv W r<1000000000000000000/\0<=dv W r:=by
 subst hb;rw[h];omega
structure yS(b:Nat)(pre:List UInt8)(ps:List (List UInt8)) where
 k:Nat
 p5:List (Nat×Obj)
 le:k<=ps.length
 bl:Fz b (pre++(ps.drop k).reverse.flatten) p5
def gN{a:Int}(h:a≠0):(if a<0 then[45]else[])++hd a.natAbs=XZ a:=by
 have h0:a.natAbs≠0:=O;unfold hd;rw[if_neg h0];by_cases h1:a<0
 ·rw[if_pos h1,Zq h1];rfl
 rw[if_neg h1,Je O];rfl
theorem Kh.base{x:Int}(h:F b=some ([Value.int .u64 x].toArray,201))(h0:0<x)(h1:x<W):Kh F ⟨some ⟨b,0,none⟩,1,1⟩ [x]:=by
 refine⟨λw hw=>?_,?_,?_⟩
 ·obtain⟨fr,e⟩:=hw b _ _ h;refine⟨_,1,rfl,w9,wv,λi hi=>?_⟩;have hi0:i=0:=by simp at hi;omega
  subst hi0;exact⟨b,0,rfl,⟨_,_,e⟩,by simp[World.cell?,e];rfl⟩
 ·intro y hy;rw[List.mem_singleton.1 hy];omega
 simp[NZ];omega
theorem BG{a:Int}(hF:Fits F w)(hG:JZ F)(h:Jt F g a)(hza:sz a<=100000000):QY prog 66 [g.v] w F (tx (XZ a)):=by
 have hk:=Yo.kind (h w hF.r);have hn2:a.natAbs<2^sz a:=BF a;refine QQ.go (G:=λF=>JZ F/\Jt F g a) func66 hF ⟨hG,h⟩ ?_;refine QKt<|Q8 I (vs:=[_,_]) I λb1=>QLi 6 I<|QA (QH I EM GL)<|QA (Qf I GL .here (.skip .h1))<|QA (Wk I I VZ)<|QF<|QC ?_
 refine QL I (λhc=>?_) λhc=>?_
 ·refine QKt<|QA (QH rfl Pa QZ)<|QA (Qf rfl QZ .here .h1)<|QJ rfl (λw F hF ⟨hGl,hB⟩=>zP hF hGl (by rcases hk with hk | hk;omega;rw[hk.1]at hc;cases hc) (by rcases hk with hk | hk;omega;rw[hk.1]at hc;cases hc)) λ_=>wR rfl<|QT ?_
  exact QM () rfl (wO rfl) (by rcases hk with hk | hk;rw[hk.2.1];rfl;rw[hk.1]at hc;cases hc) tB
 refine QLj 4 I<|QA (wH I Qm .here) ?_
 refine QJ I (λw F hF ⟨hGl,hB⟩=>Mj hF (by assumption)) (λc20=>?_);rcases c20 with ⟨v20,l20⟩;dsimp only;refine JM _ (λw F hF ⟨⟨hGl,hB⟩,⟨h20,h20p⟩⟩=>And.intro h20.2 h20p) (λp20=>?_);have ha0:a≠0:=by rcases hk with hk | hk;rw[hk.1]at hc;cases hc;omega
 have hn20:(dv W l20).toNat=a.natAbs:=by rw[p20.2,K7];rfl
 refine QLi 9 I<|Qw I (JR VZ) Ns QDW I I λb23=>QLi 10 I ?_
 refine KK (ι:=C1 a.natAbs) (λi=>[(3,.bool (decide (a<0))),(4,.slice i.r.q i.r.n i.r.cap),(5,.slice (some ⟨b23,0,none⟩) 1 1),(6,i.v)]) (λi=>i.ob) (λi F=>JZ F/\Kh F ⟨some ⟨b23,0,none⟩,1,1⟩ [1000000000000000000]/\Kh F i.r i.l) (λi=>(dv W i.l).toNat)
  ⟨l20,v20,[],.slice none 0 0,[],p20.1.1,p20.1.2,O,.nil,w9,by rw[hn20];simp⟩ wW tG (λF h9=>⟨h9.1.1.1,Kh.base h9.2 wv wv,h9.1.2.1⟩) λi=>?_
 refine Xy _ (λ_ _ f h=>h.2.2.len f) (λhil=>wA 4 I<|QA (QW I VZ)<|QLi 3 I ?_);refine QL I (λhc=>?_) λhc=>?_
 ·have hne:i.l≠[]:=by intro e;rw[e]at hil;simp at hc;simp at hil;omega
  have h0i:=Qx (by decide:(0:Int)<W) i.dg;have hposi:0<(dv W i.l).toNat:=by
   have:=mt (KJ (by decide:(1:Int)<W) i.dg i.nz).1 hne;omega
  have hlen:i.l.length<=10000000000:=by
   have hle:=i.le;have h3:=X5 (z:=dv W i.l) i.dg i.nz (by unfold Jd;split<;>omega) (Nat.le_trans (KA (by omega:(dv W i.l).natAbs<=a.natAbs)) (Nat.le_trans hza wv));omega
  refine QLj 7 I ?_;refine QJ I (λ_ _ f k=>Ay (r:=i.r) (r':=⟨some ⟨b23,0,none⟩,1,1⟩) (la:=i.l) (lb:=[1000000000000000000]) f k.2.2 k.2.1 (List.cons_ne_nil _ _) hlen (Nat.le_of_ble_eq_true I)) (λc30=>?_);rcases c30 with ⟨⟨v30,l30⟩,v30_,l30_⟩;dsimp only;refine JM _ (λw F hF ⟨⟨hGl,⟨hbase,hL⟩⟩,⟨⟨h30,h30_⟩,h30p⟩⟩=>And.intro h30.2 (And.intro h30_.2 h30p)) (λp30=>?_);have hb1:dv W [1000000000000000000]=1000000000000000000:=w9;have hq:=zo hb1 p30.2.2.1 h0i;have hr:=dp hb1 p30.2.2.2 h0i;have h1d:=CI p30.2.1.1 p30.2.1.2 (by have hW:W=18446744073709551616:=rfl;omega);refine JM _ (λw F hF ⟨_,⟨⟨h30,h30_⟩,_⟩⟩=>And.intro (h30.len hF) (h30_.len hF)) (λpl=>QJj rfl<|QA (QU rfl rfl)<|QA (QU rfl rfl)<|QJk rfl<|wR rfl<|QKt<|QJk rfl<|QF<|QC ?_);refine Hg (ι:=Unit) (λ_=>[(3,.bool (decide (a<0))),(5,.slice (some ⟨b23,0,none⟩) 1 1),(6,i.v),(7,.slice v30.q v30.n v30.cap),(9,tx (Lib.decDigits ((dv W i.l).toNat%10^18)))]) (λ_=>i.ob) (λ_ F=>JZ F/\Kh F ⟨some ⟨b23,0,none⟩,1,1⟩ [1000000000000000000]/\Kh F v30 l30) ?_ ?_
  ·refine wS I<|QA (QW I VZ)<|QLi 3 I ?_
   refine QL I (λhc=>?_) λhc=>?_
   ·have hl1:l30_=[dv W l30_]:=by
     rcases h1d with e | e
     ·exfalso;rw[e]at pl;simp at hc;simp at pl;omega
     exact e
    have hll:l30_.length=1:=by rw[hl1];rfl
    have hg0:l30_.getD 0 0=(((dv W i.l).toNat%10^18:Nat):Int):=by
     have:l30_.getD 0 0=dv W l30_:=by rw[hl1];simp
     rw[this];omega
    refine Xy _ (λw F hF ⟨_,⟨_,h⟩,_⟩=>(h.at hF (by intro e;rw[e]at hll;simp at hll)).2) (λhqb=>wA 2 I ?_);obtain⟨qb,qo,hqb⟩:=hqb;obtain⟨vq,vn,vcap⟩:=v30_;dsimp only at hqb pl;subst hqb;refine QA (Qj (i:=0) rfl rfl VZ Ns (by dsimp only;omega))<|QA (Lx (l:=l30_) rfl Ns (λF h9=>h9.2.1.2) O) ?_
    rw[hg0];refine QJ I (λ_ _ f k=>Th f k.1.1 O) (λ_=>wB 2 I ?_);exact XG () (hg:=λF ⟨⟨⟨hGl,⟨hbase,hL⟩⟩,⟨⟨h30,h30_⟩,h30p⟩⟩,_⟩=>⟨hGl,hbase,h30⟩)
   refine QK ?_;have e0:(dv W i.l).toNat%10^18=0:=by
    rcases h1d with e | e
    ·rw[e]at hr;simp at hr;omega
    have:=congrArg List.length e;simp at this;simp at hc;omega
   exact XG () (hm:=⟨rfl,rfl,rfl,rfl,(by show some (tx _)=some (tx _);rw[e0,X8]),trivial⟩) (hg:=λF ⟨⟨hGl,⟨hbase,hL⟩⟩,⟨⟨h30,h30_⟩,h30p⟩⟩=>⟨hGl,hbase,h30⟩)
  intro xg9;refine Hg (ι:=Unit) (λ_=>[(3,.bool (decide (a<0))),(5,.slice (some ⟨b23,0,none⟩) 1 1),(6,i.v),(7,.slice v30.q v30.n v30.cap),(9,tx ((if(dv W l30).toNat=0 then Lib.decDigits ((dv W i.l).toNat%10^18)else Vd 18 (Lib.decDigits ((dv W i.l).toNat%10^18)))))]) (λ_=>i.ob) (λ_ F=>JZ F/\Kh F ⟨some ⟨b23,0,none⟩,1,1⟩ [1000000000000000000]/\Kh F v30 l30) ?_ ?_
  ·refine wS I<|QA (QW I VZ)<|QLi 3 I ?_
   refine QL I (λhc=>?_) λhc=>?_
   ·have hq0:(dv W l30).toNat≠0:=by
     have h1:=Qx (by decide:(0:Int)<W) p30.1.1;have h2:l30≠[]:=by intro e;rw[e]at pl;simp at hc;simp at pl;omega
     have:=mt (KJ (by decide:(1:Int)<W) p30.1.1 p30.1.2).1 h2;omega
    have hd18:(Lib.decDigits ((dv W i.l).toNat%10^18)).length<=18:=by rw[Lib.decDigits_length];exact Zo (Nat.mod_lt _ wv) wv
    refine wA 2 I<|QA (Jx I XO)<|QA (Jk I I O) ?_
    rw[show(18:Int)-((Lib.decDigits ((dv W i.l).toNat%10^18)).length:Int)=((18-(Lib.decDigits ((dv W i.l).toNat%10^18)).length:Nat):Int) by omega];refine QJ I (λ_ _ f _=>jz f tA O) (λ_=>QJj I<|QA (XP I I (by rw[Lib.repeatL_length];simp only[List.length_singleton];omega))<|wB 2 I ?_);exact XG () ⟨rfl,rfl,rfl,rfl,(by show some (tx _)=some (tx _);rw[if_neg hq0];rfl),trivial⟩
   refine QK ?_;have hq0:(dv W l30).toNat=0:=by
    have h2:l30=[]:=List.eq_nil_of_length_eq_zero (by simp at hc;omega);rw[h2];rfl
   exact XG () ⟨rfl,rfl,rfl,rfl,(by show some (tx _)=some (tx _);rw[if_pos hq0]),trivial⟩
  intro xg11;refine wA 4 I<|BS I (JR Ma) YZ z_9 I I λb51=>?_
  have hfew:=i.few hn2;refine Zj (bs1:=[_]) (ob:=i.ob) (k:=1) (sz:=1) (news:=[tx (if(dv W l30).toNat=0 then Lib.decDigits ((dv W i.l).toNat%10^18)else Vd 18 (Lib.decDigits ((dv W i.l).toNat%10^18)))]) I I Ma YZ z_9 I QEp i.hr (Src.jr (b:=b51) (T:=9) (fr:=(0,0)) (c:=1) List.mem_cons_self I) O O (λu hu=>by rw[List.mem_singleton.1 hu];rfl) (λv' ob' hr'=>QLi 7 I<|Qa ?_);exact Qb (i.next hne l30 v30 v' ob' (if(dv W l30).toNat=0 then Lib.decDigits ((dv W i.l).toNat%10^18)else Vd 18 (Lib.decDigits ((dv W i.l).toNat%10^18))) p30.1.1 p30.1.2 hq rfl hr') (by show(dv W l30).toNat<(dv W i.l).toNat;rw[hq];exact Nat.div_lt_self hposi wv)
 refine Q7 ?_;have hi0:i.l=[]:=List.eq_nil_of_length_eq_zero (by simp at hc;omega);have hfl:i.ps.reverse.flatten=hd a.natAbs:=by have:=i.inv;rw[hi0]at this;simpa[hd]using this
 have hfew:=i.few hn2;have hflen:i.ps.reverse.flatten.length<=100000000:=by rw[hfl];exact Nat.le_trans (zR hn2) hza
 refine QKt<|Qe pk λb10=>QF<|QC ?_
 refine Hg (ι:=yS b10 (if a<0 then[45]else[]:List UInt8) i.ps) (λj=>[(6,i.v),(10,.pointer (some ⟨b10,0,none⟩))]) (λj=>j.p5++i.ob) (λj F=>j.k=i.ps.length/\JZ F) ?_ ?_
 ·refine wA 5 I ?_;refine QL I (λhc=>?_) λhc=>?_
  ·refine QB ?_;have hneg:a<0:=QK8 hc;refine Xj (bs1:=[_]++i.ob) rfl (List.Perm.refl _) (WJ (s:=[45]) (Fz.fresh (b:=b10)) w9) (λp5=>JM _ (λ_ _ f h=>h.2) λhbl=>QF ?_);exact XG (⟨i.ps.length,p5,Nat.le_refl _,by rw[if_pos hneg];simpa using hbl⟩:yS b10 (if a<0 then[45]else[]:List UInt8) i.ps) (hg:=λF h=>⟨rfl,h.1.1⟩)
  refine QK ?_;exact XG (⟨i.ps.length,[_],Nat.le_refl _,by rw[if_neg (QK9 hc)];simpa using(Fz.fresh (b:=b10))⟩:yS b10 (if a<0 then[45]else[]:List UInt8) i.ps) (hg:=λF h=>⟨rfl,h.1⟩)
 intro xg16;refine Xy _ (λ_ _ f h=>h.1) (λhk16=>?_);have hv6:∃q c6,i.v = .slice q i.ps.length c6:=by have:=i.hr;generalize i.v=v at this;generalize i.ps.map tx=q at this;generalize i.ps.length=n at this;generalize i.ob=o at this;cases this<;>exact⟨_,_,rfl⟩
 obtain⟨q6,c6,hv6⟩:=hv6;rw[hv6];refine wA 4 I<|QA (QW I Ma)<|QA (Jk I I O)<|wR I<|QO<|EY (ι:=yS b10 (if a<0 then[45]else[]:List UInt8) i.ps) (λj=>[(6,.slice q6 i.ps.length c6),(10,.pointer (some ⟨b10,0,none⟩)),(11,.int .i64 ((j.k:Int)-1))]) (λj=>j.p5++i.ob) (λ_ F=>JZ F) (λj=>j.k) xg16 ⟨rfl,rfl,(by rw[hk16];rfl),trivial⟩ λj=>?_
 have hjl:=j.le;refine wA 7 I ?_;refine QL I (λhc=>?_) λhc=>?_
 ·have hj0:0<j.k:=by simp at hc;omega
  obtain⟨b6,hb6⟩:∃b6,q6=some ⟨b6,0,none⟩:=by
   have:=i.hr;rw[hv6]at this;generalize i.ps.map tx=q at this;generalize i.ob=o at this;generalize hnn:i.ps.length=n at this;cases this with
   |nil=>omega
   |some=>exact⟨_,rfl⟩
  subst hb6;have hlt:j.k-1<i.ps.length:=O;have hjj:(j.k:Int)-1=((j.k-1:Nat):Int):=O;refine QLj 7 I<|QA (Qj (i:=j.k-1) rfl (congrArg (λz:Int=>some (Value.int .i64 z)) hjj) Ma YZ hlt)<|QA (O9 (i:=j.k-1) (u:=tx (i.ps[j.k-1])) (by have:=i.hr;rw[hv6]at this;exact this) (λk hk=>List.mem_append_right _ hk) rfl rfl YZ (by simp[hlt])) ?_
  have hdrop:(i.ps.drop (j.k-1)).reverse.flatten=(i.ps.drop j.k).reverse.flatten++i.ps[j.k-1]:=by
   rw[List.drop_eq_getElem_cons hlt,show j.k-1+1=j.k by omega];simp[List.flatten_append]
  have hbound:((i.ps.drop (j.k-1)).reverse.flatten).length<=100000000:=by
   have e:i.ps.reverse.flatten=(i.ps.drop (j.k-1)).reverse.flatten++(i.ps.take (j.k-1)).reverse.flatten:=by
    rw[<-List.flatten_append,<-List.reverse_append,List.take_append_drop]
   rw[e,List.length_append]at hflen;omega
  rw[hdrop,List.length_append]at hbound;refine Xj I (List.Perm.refl _) (WJ j.bl (by rw[List.length_append];have hp:(if a<0 then[45]else[]:List UInt8).length<=1:=(by split<;>simp);omega)) (λp5=>JM _ (λ_ _ f h=>h.2) λhbl=>QF<|Qa<|QLk 3 I<|QA (Jk I I O)<|wB 2 I ?_);exact Qb (⟨j.k-1,p5,O,by rw[hdrop,<-List.append_assoc];exact hbl⟩:yS b10 (if a<0 then[45]else[]:List UInt8) i.ps) (hm:=⟨rfl,rfl,(by show some (Value.int .i64 ((j.k:Int)-1-1))=some (Value.int .i64 (((j.k-1:Nat):Int)-1));rw[hjj]),trivial⟩)
 refine Q7 ?_;refine QG<|QB ?_
 have hj0:j.k=0:=by simp at hc;omega
 have hbl:=j.bl;rw[hj0,List.drop_zero,hfl,gN ha0]at hbl;refine ME (v:=tx (XZ a)) hF rfl (enters_of func138 w8 rfl) (λw' hw'=>Builder_String_any w.heap.size b10 (XZ a) w' (hbl.is hw') (by obtain⟨F',h'⟩:=hw';exact h'.ext.size))<|wR I<|QT ?_
 exact QM () I (wO I) rfl tB
def ZS(c:UInt8)(s:List UInt8):List UInt8×List UInt8×Bool:=if s.contains c then(s.takeWhile (· != c),(s.dropWhile (· != c)).drop 1,true)else(s,[],false)
theorem Tb(c:UInt8)(s:List UInt8):Lib.indexByte s c=if s.contains c then((s.takeWhile (· != c)).length:Int)else -1:=by
 induction s with
 |nil=>rfl
 |cons b s ih =>
  unfold Lib.indexByte;by_cases h:b=c
  ·simp_all
  have h3:=beq_eq_false_iff_ne.2 (λe=>h e.symm);simp_all
theorem KM(p:UInt8->Bool)(s:List UInt8):s.take (s.takeWhile p).length=s.takeWhile p/\s.drop (s.takeWhile p).length=s.dropWhile p:=by
 induction s with
 |nil=>simp
 |cons b s ih =>
  grind[List.takeWhile_cons,List.dropWhile_cons]
theorem yC(c:UInt8)(s:List UInt8):Lib.cut s [c]=ZS c s:=by
 have h:Lib.index s [c]=if s.contains c then((s.takeWhile (· != c)).length:Int)else -1:=by
  simp[Tb,Lib.index_one]
 unfold Lib.cut ZS;rw[h];by_cases h4:s.contains c=true
 ·simp only[h4,if_true];rw[if_pos O,Int.toNat_natCast,(KM _ s).1];have:=(KM (· != c) s).2;rw[<-List.drop_drop,this];rfl
 simp_all
theorem HZ{b:List UInt8}(h:a.contains c=false):ZS c (a++c::b)=(a,b,true):=by
 have h1:∀x∈a,(x != c)=true:=λx hx=>by
  grind
 unfold ZS;simp_all
theorem EP(h:a.contains c=false):ZS c a=(a,[],false):=by
 grind[ZS]
theorem pN{l:List UInt8}(h:XT l=true)(hc:UF c=false):l.contains c=false:=by
 cases hx:l.contains c with
 |false=>rfl
 |true =>
  grind[XT,List.all_eq_true]
theorem DS(z:Int)(hc:UF c=false)(h:c≠45):(XZ z).contains c=false:=by
 grind[Zq,pN,JN,Je]
def yB(r:Rat):Lib.cut (Q6 r) [47]=if r.den=1 then(XZ r.num,[],false)else(XZ r.num,Lib.decDigits r.den,true):=by
 rw[yC];unfold Q6;split
 ·exact EP (DS _ wv wv)
 exact HZ (DS _ wv wv)
theorem VQ(z:Int):Lib.trimPrefix (XZ z) [45]=Lib.decDigits z.natAbs:=by
 unfold Lib.trimPrefix
 grind[Zq,Lib.hasPrefix,List.isPrefixOf,Je,Yb,JN]
theorem Yc{l:List UInt8}(h:XT l=true):Lib.trimPrefix l [45]=l:=by
 grind[Lib.trimPrefix,Yb]
theorem ZJ{l:List UInt8}(h:XT l=true):YQ l=JF l:=by
 grind[YQ,Yb]
def lim:Nat:=10^600
def TX(u:Nat):(600<(Lib.decDigits u).length)↔lim<=u:=by unfold lim;rw[Lib.decDigits_length];exact Il wv
def OC:2^1800<lim:=by
 decide +kernel
def D7(z:Int):Bool:=decide (lim<=z.natAbs)
def Xo(r:Rat):Bool:=D7 r.num||D7 r.den
theorem zG{a:Int}(hF:Fits F w)(hG:JZ F)(h:Jt F g a)(hza:sz a<=100000000):QY prog 72 [g.v] w F (.bool (D7 a)):=by
 refine QQ.go (G:=λF=>JZ F/\Jt F g a) func72 hF ⟨hG,h⟩ ?_;refine QKt<|Q8 I (vs:=[_,_]) I λb1=>QLi 5 I<|QA (wH I Qm .here)<|QJ I (λ_ _ f k=>QBT f k.2 (Nat.le_trans hza wv)) λ_=>wB 2 I ?_
 refine Qn (t:=6) rfl (λhb6=>?_) λhb6=>?_
 ·refine QP I I<|QA (wH I Qm .here)<|QP I I<|QJ I (λ_ _ f k=>BG f k.1.1 k.1.2 hza) λ_=>QP I I<|QJ I (λ_ _ f k=>DC f ) λ_=>QP I I<|QA (Jx I XO)<|QLi 7 I ?_
  exact QM () I (wO I) (congrArg Value.bool (by rw[VQ];exact decide_eq_decide.2 (Iff.trans (b:=600<(Lib.decDigits a.natAbs).length) (TX a.natAbs).symm (by constructor<;>intro h<;>omega)))) tB
 refine QLi 10 I ?_;exact QM () I (wO I) (congrArg Value.bool (by have h1:=QK9 hb6;have h2:sz a<=1800:=O;have h3:=(XA a 1800).1 h2;exact decide_eq_false (Nat.not_le.2 (Nat.lt_trans h3 OC)))) tB
theorem Sb{x:Fr}{r:Rat}(hF:Fits F w)(hG:JZ F)(h:Jl F x r)(hz:XH r<=100000000):QY prog 32 [x.v] w F (.bool (Xo r)):=by
 refine QQ.go (G:=λF=>JZ F/\Jl F x r) func32 hF ⟨hG,h⟩ ?_;refine QKt<|Q8 I (vs:=[_,_,_,_]) I λb1=>QLi 5 I<|QA (QH I Yw Qm)<|QA (wH I Qm .here)<|QJ I (λ_ _ f k=>zG (g:=x.n) f k.1 k.2.1 (Nat.le_trans (JU r) hz)) λ_=>QJj I ?_
 refine Qn (t:=6) rfl (λhb6=>?_) λhb6=>?_
 ·refine QLi 8 I ?_;exact QM () I (wO I) (congrArg Value.bool (by unfold Xo;rw[hb6,Bool.true_or])) tB
 refine QP I I<|QA (QH I Yv Qm)<|QP I I<|QA (QX (vs:=[_,_]) I Qm .here (.skip (.skip .h2)) I)<|QP I I<|QJ I (λ_ _ f k=>zG (g:=x.d) f k.1.1 k.1.2.2 (Nat.le_trans (JQ r) hz)) λ_=>QLi 5 I ?_
 exact QM () I (wO I) (congrArg Value.bool (by unfold Xo;rw[hb6,Bool.false_or])) tB
def SI(h:sz z<=k):(XZ z).length<=k+2:=by
 have h2:=BF z;have h1:(Lib.decDigits z.natAbs).length<=k+1:=by
  rw[Lib.decDigits_length];exact Zo (Nat.lt_of_lt_of_le h2 (Nat.le_trans (Nat.pow_le_pow_right wv (show sz z<=k+1 by omega)) (Nat.pow_le_pow_left wv _))) O
 by_cases hz:z<0
 ·rw[Zq hz,List.length_cons];omega
 rw[Je O];omega
def AA(n:Nat):XZ (n:Int)=Lib.decDigits n:=by rw[Je O];rfl
theorem Mu{x:Fr}{r:Rat}(hF:Fits F w)(hG:JZ F)(h:Jl F x r)(hz:XH r<=100000000):QY prog 28 [x.v] w F (tx (Q6 r)):=by
 have hl1:=SI (Nat.le_trans (JU r) hz);have hl2:=SI (Nat.le_trans (JQ r) hz);refine QQ.go (G:=λF=>JZ F/\Jl F x r) func28 hF ⟨hG,h⟩ ?_;refine QKt<|Q8 I (vs:=[_,_,_,_]) I λb1=>QLi 6 I<|QA (wJ I JA .here)<|QJ I (λ_ _ f k=>EJ (x:=x) (r:=r) f ⟨k.2.1,k.2.2⟩) λ_=>QF<|QC ?_
 refine QL I (λhc=>?_) λhc=>?_
 ·refine QKt<|QA (QH I Yw Qm)<|QA (wH I Qm .here)<|QJ I (λ_ _ f k=>BG (g:=x.n) f k.1.1 k.1.2.1 (Nat.le_trans (JU r) hz)) λ_=>wR I<|QT ?_
  exact QM () I (wO I) (congrArg tx (by unfold Q6;rw[if_pos (by simp at hc;omega)])) tB
 refine QLj 3 I<|JC QJ3 mixed wu<|QI (QH I Yw Qm)<|QI (wH I Qm .here)<|QV I (λ_ _ f k=>BG (g:=x.n) f k.1.1 k.1.2.1 (Nat.le_trans (JU r) hz)) λ_=>QI (XP I I tA)<|QI (QH I Yv Qm)<|QI (QX (vs:=[_,_]) I Qm .here (.skip (.skip .h2)) I)<|QV I (λ_ _ f k=>BG (g:=x.d) f k.1.1.1 k.1.1.2.2 (Nat.le_trans (JQ r) hz)) λ_=>QI (XP I I tA)<|QI (QE I)<|Qv<|QC<|QT ?_
 exact QM () I (wO I) (congrArg tx (by unfold Q6;rw[if_neg (by simp at hc;omega),AA];simp)) tB
theorem WS{r:Rat}(hF:Fits F w)(hG:JZ F)(hs:s=Q6 r)(hl:s.length<=10000000):ZQ prog 25 [tx s] w F r:=by
 have hcut:=yB r;rw[<-hs]at hcut;refine QQ.go (G:=λF=>JZ F) func25 hF hG ?_;refine QKt<|Qe VU λb2=>QLi 5 I<|QJ I (λ_ _ f k=>cU f k O) λ_=>?_
 rw[hcut];refine QLi 13 I<|QA (YD I)<|QF<|QC ?_
 refine QL I (λhc=>?_) λhc=>?_
 ·refine wS I<|QJ I (λ_ _ f k=>N6 f (by have h1:r.den=1:=(by by_cases h:r.den=1;exact h;rw[if_neg h]at hc;cases hc);rw[if_pos h1,VQ];exact JN _) (by have h1:r.den=1:=(by by_cases h:r.den=1;exact h;rw[if_neg h]at hc;cases hc);rw[if_pos h1];have e:s=XZ r.num:=(by rw[hs];unfold Q6;rw[if_pos h1]);rw[<-e];exact hl)) λg15=>QJ I (λ_ _ f k=>S5 f k.2) λx16=>QS (vs:=[_,_,_,_]) I I I JA I .here .h4 wW<|QJi<|QT ?_
  exact QM (_) rfl (.J4 (c:=[_,_,_,_]) I JA .here .nil) rfl λF ⟨⟨⟨hGl,_⟩,h15⟩,⟨h16,h16_⟩⟩=>(by have h1:r.den=1:=(by by_cases h:r.den=1;exact h;rw[if_neg h]at hc;cases hc);have e:((r.num:Int):Rat)=r:=(by apply Rat.ext;rfl;simp[h1]);rw[if_pos h1]at h16 h16_;rw[ZT]at h16 h16_;rw[e]at h16 h16_;exact⟨h16,h16_⟩)
 refine QK<|QC<|wS rfl<|QJ rfl (λw F hF ⟨hGl,_⟩=>N6 hF (by have h1:¬r.den=1:=(by intro h;rw[if_pos h]at hc;cases hc);rw[if_neg h1,VQ];exact JN _) (by have h1:¬r.den=1:=(by intro h;rw[if_pos h]at hc;cases hc);rw[if_neg h1];have e:s=XZ r.num++47::Lib.decDigits r.den:=(by rw[hs];unfold Q6;rw[if_neg h1]);rw[e,List.length_append]at hl;show(XZ r.num).length<=_;omega)) λg18=>QJj rfl<|QJ rfl (λw F hF ⟨⟨hGl,_⟩,h18⟩=>N6 hF (by have h1:¬r.den=1:=(by intro h;rw[if_pos h]at hc;cases hc);rw[if_neg h1];show XT (Lib.trimPrefix (Lib.decDigits r.den) [45])=true;rw[Yc (JN _)];exact JN _) (by have h1:¬r.den=1:=(by intro h;rw[if_pos h]at hc;cases hc);rw[if_neg h1];have e:s=XZ r.num++47::Lib.decDigits r.den:=(by rw[hs];unfold Q6;rw[if_neg h1]);rw[e,List.length_append,List.length_cons]at hl;show(Lib.decDigits r.den).length<=_;omega)) λg20=>QA (Jr I Uy VU (.cons (vs:=[_,_]) I I I .h2 (.cons (vs:=[_,_]) I I I (.skip (.skip .h2)) .nil)))<|QS (vs:=[_,_,_,_]) I I I JA I .here .h4 wW<|QJi<|QT ?_
 exact QM (⟨g18,g20⟩:Fr) rfl (.J4 (c:=[_,_,_,_]) rfl JA .here .nil) rfl λF ⟨⟨⟨hGl,_⟩,h18⟩,h20⟩=>(by have h1:¬r.den=1:=(by intro h;rw[if_pos h]at hc;cases hc);rw[if_neg h1]at h18 h20;rw[ZT]at h18;have e:YQ (Lib.decDigits r.den)=(r.den:Int):=(by rw[ZJ (JN _),Jg]);exact⟨h18,e ▸ h20⟩)
def Qu(F:Gs)(q:Option Addr)(n sz:Nat)(cs:List Value):Prop :=
 cs.length=n*sz/\(0<n->∃b off arr T,q=some ⟨b,off,none⟩/\F b=some (arr,T)/\∀j u,cs[j]?=some u->arr[off+j]?=some u)
theorem Qu.le{n sz:Nat}(h:Qu F q n sz cs)(k:Gs.le F F'):Qu F' q n sz cs :=
 ⟨h.1,λhn=>by obtain⟨b,off,arr,T,e1,e2,e3⟩:=h.2 hn;exact⟨b,off,arr,T,e1,k _ _ e2,e3⟩⟩
instance{q:Option Addr}{n sz:Nat}{cs:List Value}: Up (λF=>Qu F q n sz cs):=⟨λk h=>Qu.le h k⟩
theorem Qu.of{n sz:Nat}(h:F b=some (cs.toArray,T))(hl:cs.length=n*sz):Qu F (some ⟨b,0,none⟩) n sz cs :=
 ⟨hl,λ_=>⟨b,0,_,T,rfl,h,λj u hu=>by simp_all⟩⟩
def Qu.nil(F:Gs)(q:Option Addr)(sz:Nat):Qu F q 0 sz []:=⟨w9,λh=>absurd h (Nat.lt_irrefl 0)⟩
theorem Qu.ptr{n sz:Nat}(h:Qu F q n sz cs)(hn:0<n):∃b off,q=some ⟨b,off,none⟩:=by
 obtain⟨b,off,_,_,e,_⟩:=h.2 hn;simp_all
section
variable[Dr][df:Df]{P:Program}{Q:Exit->Act->World->Prop}{N:Nat}{m:Sl}{E E0:Env}{ops:Array Oper}{l:List Oper}{w0:World}{F0:Gs}{bs:List (Nat×Obj)}{G:Gs->Prop}
theorem KN(hw:St ⟨w0,F0,bs,G⟩ w){b off n sz j:Nat}{cs:List Value}{u:Value}(hr:∀F,G F->Qu F (some ⟨b,off,none⟩) n sz cs)(hn:0<n)(hu:cs[j]?=some u):w.cell? ⟨b,off+j,none⟩=some u:=by
 obtain⟨F,hw⟩:=hw;obtain⟨b',off',arr,T,e,hF,ha⟩:=(hr F hw.hG).2 hn;obtain⟨rfl,rfl,_⟩:=e;obtain⟨fr,e⟩:=hw.fits.row _ _ _ hF;simp[World.cell?,e,ha j u hu]
theorem XY{n sz:Nat}{u:Value}(hx:ev m x=some (.pointer (some ⟨b,off+j,none⟩)))(ht:Zd P T=some (false,k))(hr:∀F,G F->Qu F (some ⟨b,off,none⟩) n sz cs)(hn:0<n)(hu:cs[j]?=some u):
  Qt P N m (St ⟨w0,F0,bs,G⟩) (.load T x) ty u:=λa w _ _ _ _ ha hw=>by
 have hrun:=Zm ht (KN hw hr hn hu);simp[execOp,ha.ev hx,Instr.loadAt,Instr.sureAddr,Sem.run_bind,Sem.run_pure,Result.andThen_ok,hrun]
theorem CA{n sz:Nat}(hx:ev m x=some (.pointer (some ⟨b,off+j,none⟩)))(ht:Zd P T=some (true,k))(hr:∀F,G F->Qu F (some ⟨b,off,none⟩) n sz cs)(hn:0<n)(hl:vs.length=k)(hu:∀i v,vs[i]?=some v->cs[j+i]?=some v):
  Qt P N m (St ⟨w0,F0,bs,G⟩) (.load T x) ty (.agg vs.toArray):=λa w _ _ _ _ ha hw=>by
 have hrun:=K5 ht hl (λi v hv=>by rw[Nat.add_assoc];exact KN hw hr hn (hu i v hv));simp[execOp,ha.ev hx,Instr.loadAt,Instr.sureAddr,Sem.run_bind,Sem.run_pure,Result.andThen_ok,hrun]
theorem Jp{d:Nat}{pos:String}{bs0:List _}{t:TypeId}{n sz:Nat}{z:List Value}{g:Bool}{parts:Array _}{ps:List _}(hp:WQ m parts.toList=some ps)(ht:P.underlying t=some (.slice e))(hs:Zd P e=some (g,sz))(hz:J1 P e=some z)
  (hc:Yu sz 0 ps=some cs) (hl:cs.length=n*sz) (k:∀b,JD P ops Q ⟨w0,F0,bs0,G0⟩ l N ((d,.slice (some ⟨b,0,none⟩) n n)::m) ⟨w0,F0,bs,λF=>G F/\F b=some (cs.toArray,e)⟩) (hE:∀w,St ⟨w0,F0,bs,G⟩ w->St ⟨w0,F0,bs0,G0⟩ w) (h24:Nat.ble (n*sz) 16777216=true:=by rfl) (hn:Nat.beq (n*sz) 0=false:=by rfl)
  (hd:Jq N (some d)=true:=by rfl):JD P ops Q ⟨w0,F0,bs0,G0⟩ (⟨some d,.buildSlice t n parts,ty,pos,aft,none⟩::l) N m ⟨w0,F0,bs,G⟩:=λ_ a w ha hw=>by
 have hS:=hw.yN cs.toArray e;have sub:∀w' b,St ⟨w0,F0,bs,λF=>G F/\F b=some (cs.toArray,e)⟩ w'->St ⟨w0,F0,bs0,G0⟩ w':=λw' b h=>hE w' (h.Bs λ_ h=>h.1);refine .inr ⟨rfl,?_⟩;exact upon_value (KF ha hp ht hs hz hc hl h24 hn) ⟨sub _ _ hS,k _ (λw' h=>sub w' _ h) _ _ (ha.put hd _) hS⟩
end
section
variable[Dr][df:Df]{P:Program}{Q:Exit->Act->World->Prop}{N:Nat}{m:Sl}{E E0:Env}{ops:Array Oper}{l:List Oper}{ty:TypeId}{pos:String}{aft:Array Edge}{o:Op}{g t:Nat}{want:Bool}
theorem RW{a:Act}(ha:JO N m a){g t:Nat}(hg:(ops[g]?).bind (·.dst)=some t)(hb:look m t=some undef):yielded ops a.tmps g=none:=by
 unfold yielded;have:=ha.get t _ hb
 grind[undef]
theorem Jb{d:Nat}(hg:(ops[g]?).bind (·.dst)=some t)(hb:look m t=some undef)(hf:JS P ops Q l N ((d,undef)::m) E)(hd:Jq N (some d)=true:=by rfl):JS P ops Q (⟨some d,o,ty,pos,aft,some (g,want)⟩::l) N m E:=by
 intro a w ha hw;unfold wpList;have hy:=RW ha hg hb;rw[if_neg (by grind[Region.wanted])];exact hf _ w (ha.put hd undef) hw
end
def Qz:List Int->Int
 |[]=>0
 |x::l=>if x=0 then Qz l else x
def WA(hi:i<l.length)(h:l[i]=0):Qz (l.drop i)=Qz (l.drop (i+1)):=by
 rw[List.drop_eq_getElem_cons hi,Qz,if_pos h]
def Bt(hi:i<l.length)(h:l[i]≠0):Qz (l.drop i)=l[i]:=by
 rw[List.drop_eq_getElem_cons hi,Qz,if_neg h]
def Qs(x:Int):Value:=.int .i64 x
structure MZ(n:Nat)(p:Nat->Prop) where
 i:Nat
 le:i<=n
 h:p i
theorem Bf{b:Bool}{e:Int}(hF:Fits F w):QY prog 97 [.bool b,.int .i64 e] w F (.int .i64 (if b=true then e else 0)):=by
 refine QQ.intro (G:=λ_=>True) func97 rfl w8 rfl rfl hF tB<|QKt<|wR rfl<|QG<|wS rfl<|QF<|QC ?_
 refine QL I (λhc=>?_) λhc=>?_
 ·refine wA 7 I ?_;exact QM () I (wO I) (by rw[if_pos hc]) tB
 refine QLj 8 I ?_;exact QM () I (wO I) (by rw[if_neg (by rw[hc];decide)]) tB
theorem Mw{n c:Nat}(hF:Fits F w)(hR:Qu F q n 1 (l.map Qs))(hn:n<=1000000000):QY prog 46 [.slice q n c] w F (.int .i64 (Qz l)):=by
 have hln:l.length=n:=by have:=hR.1;simpa using this
 refine QQ.go (G:=λF=>Qu F q n 1 (l.map Qs)) func46 hF hR ?_;refine wA 9 I<|QA (QW I Va)<|QLi 4 I<|EY (ι:=MZ n λi=>Qz (l.drop i)=Qz l) (λi=>[(5,.slice q n c),(6,.int .i64 n),(7,.int .i64 i.i)]) (λ_=>[]) (λ_ F=>Qu F q n 1 (l.map Qs)) (λi=>n-i.i) ⟨0,Nat.zero_le _,rfl⟩ wV λi=>?_
 have hle:=i.le;refine wA 6 I ?_;refine QL I (λhc=>?_) λhc=>?_
 ·have hi:i.i<n:=by simp at hc;omega
  have hil:i.i<l.length:=O;refine Xy _ (λ_ _ f h=>h.ptr O) (λhq=>?_);obtain⟨qb,qo,rfl⟩:=hq;refine QLj 6 I<|QA (Qj I I Va Gv hi)<|QA (XY I Gv tC O (u:=.int .i64 l[i.i]) (by simp[hil,Qs]))<|QLi 9 I ?_
  refine QL I (λhc=>?_) λhc=>?_
  ·refine wA 6 I<|X6 ?_
   exact QM () I (wO I) (congrArg (Value.int .i64) (i.h.symm.trans (Bt hil (by simpa using hc)))) tB
  refine QK<|Qa<|QC<|QB<|QA (Qk I I O)<|wB 2 I ?_
  exact Qb (⟨i.i+1,O,by rw[<-WA hil (by simpa using hc)];exact i.h⟩:MZ n λi=>Qz (l.drop i)=Qz l)
 refine Q7 ?_;refine wA 6 I ?_;exact QM () I (wO I) (by rw[<-i.h,List.drop_of_length_le (by simp at hc;omega)];rfl) tB
def jV(hi:i<s.length)(h:XT (s.take i)=true)(hd:UF s[i]=true):XT (s.take (i+1))=true:=by
 rw[List.take_succ_eq_append_getElem hi,Kc,h];simp[XT,hd]
def Ml(hi:i<s.length)(hd:UF s[i]=false):XT s=false:=by
 cases h:XT s with
 |false=>rfl
 |true=>rw[XT,List.all_eq_true]at h;rw[h _ (List.getElem_mem hi)]at hd;cases hd
def Ey(s:List UInt8):Bool:=XT s&&!s.isEmpty
theorem z6(hF:Fits F w)(hl:s.length<=1000000000):QY prog 166 [tx s] w F (.bool (Ey s)):=by
 refine QQ.intro (G:=λ_=>True) func166 rfl w8 rfl rfl hF tB<|QKt<|wR rfl<|QG<|wS rfl<|QA (Jx rfl XO)<|QJj rfl<|QJi<|QO<|EY (ι:=MZ s.length λi=>XT (s.take i)=true) (λi=>[(0,tx s),(5,.int .i64 s.length),(6,.int .i64 i.i)]) (λ_=>[]) (λ_ _=>True) (λi=>s.length-i.i) ⟨0,Nat.zero_le _,rfl⟩ wV λi=>?_
 have hle:=i.le;refine wA 6 I ?_;refine QL I (λhc=>?_) λhc=>?_
 ·have hi:i.i<s.length:=by simp at hc;omega
  refine QLj 14 I<|QA (KG I I XO (hi))<|wB 2 I ?_
  refine Qn (t:=13) rfl (λhb13=>?_) λhb13=>?_
  ·refine QLi 7 I ?_;refine QL I (λhc=>?_) λhc=>?_
   ·refine wA 5 I<|X6 ?_
    exact QM () I (wO I) (congrArg Value.bool (by unfold Ey;rw[Ml hi (by have h1:=QK8 hb13;cases hd:UF s[i.i]with | false=>rfl | true=>(have:=YG.1 hd;omega))];rfl)) tB
   refine QK<|Qa<|QC<|QB<|QA (Qk I I O)<|wB 2 I ?_
   cases hc
  refine wB 5 I<|QA (KG I I XO (hi))<|QLi 5 I ?_
  refine QL I (λhc=>?_) λhc=>?_
  ·refine wA 5 I<|X6 ?_
   exact QM () I (wO I) (congrArg Value.bool (by unfold Ey;rw[Ml hi (by have h1:=QK8 hc;cases hd:UF s[i.i]with | false=>rfl | true=>(have:=YG.1 hd;omega))];rfl)) tB
  refine QK<|Qa<|QC<|QB<|QA (Qk I I O)<|wB 2 I ?_
  exact Qb (⟨i.i+1,O,jV hi i.h (YG.2 (by have h1:=QK9 hb13;have h2:=QK9 hc;constructor<;>omega))⟩:MZ s.length λi=>XT (s.take i)=true)
 refine Q7 ?_;refine wS I<|QA (PA I I)<|wR I<|QT ?_
 exact QM () I (wO I) (congrArg Value.bool (by have h1:=i.h;rw[List.take_of_length_le (by simp at hc;omega)]at h1;unfold Ey;rw[h1];cases s<;>rfl)) tB
theorem head_ne(h:0<s.length):((s[0].toNat:Int) != 48)=!(s.head?==some 48):=by
 cases s with
 |nil=>simp at h
 |cons c s =>
  simp only[List.getElem_cons_zero,List.head?_cons];by_cases e:c=48
  ·subst e;rfl
  have e1:c.toNat≠48:=λh=>e (UInt8.toNat.inj (by rw[h];rfl));have e2:((c.toNat:Int) != 48)=true:=by simp only[bne_iff_ne,ne_eq];omega
  have e3:(some c==some 48)=false:=by simp[e]
  rw[e2,e3];rfl
def FA(h:Ey s=true):0<s.length:=by
 cases s with
 |nil=>cases h
 |cons=>simp
theorem Pc(hF:Fits F w)(hl:s.length<=1000000000):QY prog 99 [tx s] w F (.bool (Jw s)):=by
 refine QQ.intro (G:=λ_=>True) func99 rfl w8 rfl rfl hF tB<|QKt<|wR rfl<|wS rfl<|QJ rfl (λ_ _ f _=>z6 f hl) λ_=>QJj rfl ?_
 refine Qn (t:=5) rfl (λhb5=>?_) λhb5=>?_
 ·refine wB 3 I<|QA (ZD I I)<|wB 2 I ?_
  refine Qn (t:=8) rfl (λhb8=>?_) λhb8=>?_
  ·refine QLi 10 I ?_;exact QM () I (wO I) (congrArg Value.bool (by have h:=hb5;unfold Ey at h;unfold Jw;rw[h,hb8];rfl)) tB
  refine wB 3 I<|QA (KG (i:=0) rfl rfl XO (FA hb5))<|QLi 9 I ?_
  exact QM () I (wO I) (congrArg Value.bool (by have h:=hb5;unfold Ey at h;unfold Jw;rw[h,hb8,head_ne (FA hb5)];rfl)) tB
 refine wB 3 I<|Jb I I<|Jb I I<|Jb I I<|QLi 6 I ?_
 exact QM () I (wO I) (congrArg Value.bool (by have h:=hb5;unfold Ey at h;unfold Jw;rw[h];rfl)) tB
def FI(size d:List UInt8)(neg fr:Bool):Bool:=!Jw size||(neg&&size==[48])||(fr&&(!Jw d||d==[48]||d==[49]))
def WU(n d:List UInt8)(fr:Bool):Int :=
 if FI (Lib.trimPrefix n [45]) d (Lib.hasPrefix n [45]) fr=true then 1
 else if(decide (600<(Lib.trimPrefix n [45]).length)||decide (600<d.length))=true then 4
 else if(fr&&!(Nat.gcd (JF (Lib.trimPrefix n [45])) (JF d)==1))=true then 1 else 0
def Q9(s:List UInt8):Int:=WU (ZS 47 s).1 (ZS 47 s).2.1 (ZS 47 s).2.2
theorem yD(c:UInt8)(s:List UInt8):(ZS c s).1.length<=s.length/\(ZS c s).2.1.length<=s.length:=by
 have h:=KM (· != c) s;have h1:=congrArg List.length h.1;have h2:=congrArg List.length h.2;simp at h1 h2;unfold ZS;split
 ·refine⟨?_,?_⟩
  ·show(s.takeWhile (· != c)).length<=_;exact(List.takeWhile_sublist _).length_le
  show((s.dropWhile (· != c)).drop 1).length<=_;rw[List.length_drop];have:=(List.dropWhile_sublist (l:=s) (· != c)).length_le;omega
 exact⟨Nat.le_refl _,w9⟩
def KD(h:Jw s=true):XT s=true:=by
 simp only[Jw,Bool.and_eq_true]at h;exact h.1.1
def Nu(s p:List UInt8):(Lib.trimPrefix s p).length<=s.length:=by unfold Lib.trimPrefix;split<;>simp
theorem Dl(hF:Fits F w)(hG:JZ F)(hl:s.length<=1000000):QY prog 48 [tx s] w F (.int .i64 (Q9 s)):=by
 have hcl:=yD 47 s;unfold Q9;refine QQ.go (G:=λF=>JZ F) func48 hF hG ?_;refine wA 8 I<|QJ I (λ_ _ f k=>cU f k O) λ_=>?_
 rw[yC];generalize ZS 47 s=cp at hcl ⊢;obtain⟨n,d,fr⟩:=cp;dsimp only at hcl ⊢;have htl:=Nu n [45];refine QLi 12 I<|QJ I (λ_ _ f k=>FD f ) λ_=>QLi 8 I ?_
 refine B0 46 (.bool (FI (Lib.trimPrefix n [45]) d (Lib.hasPrefix n [45]) fr)) ?_ ?_
 ·refine wA 2 I<|QJ I (λ_ _ f k=>Pc f O) λ_=>QA (YD I)<|QJj I ?_
  refine Qn (t:=24) rfl (λhb24=>?_) λhb24=>?_
  ·refine wB 2 I<|Jb I I<|Jb I I<|wB 5 I<|Jb I I<|Jb I I<|Jb I I<|Jb I I<|Jb I I<|Jb I I<|Jb I I<|Jb I I<|Jb I I<|Jb I I<|Jb I I<|wB 3 I ?_
   exact X3 (exd 27 rfl rfl) (congrArg (λb=>some (Value.bool b)) (by rw[Bool.eq_iff_iff];simp_all [FI])) QJ3 tD
  refine wB 4 I ?_;refine Qn (t:=26) rfl (λhb26=>?_) λhb26=>?_
  ·refine wB 3 I<|QA (ZD I I)<|wB 4 I ?_
   refine Qn (t:=31) rfl (λhb31=>?_) λhb31=>?_
   ·refine wB 2 I<|Jb I I<|Jb I I<|Jb I I<|Jb I I<|Jb I I<|Jb I I<|Jb I I<|Jb I I<|Jb I I<|Jb I I<|Jb I I<|wB 3 I ?_
    exact X3 (exd 29 rfl rfl) (congrArg (λb=>some (Value.bool b)) (by rw[Bool.eq_iff_iff];simp_all [FI])) QJ3 tD
   refine wB 4 I ?_;refine Qn (t:=33) rfl (λhb33=>?_) λhb33=>?_
   ·refine wB 3 I<|QJ I (λ_ _ f k=>Pc f O) λ_=>QP I I<|QA (YD I)<|wB 2 I ?_
    refine Qn (t:=37) rfl (λhb37=>?_) λhb37=>?_
    ·refine wB 14 I ?_;exact X3 (exd 31 rfl rfl) (congrArg (λb=>some (Value.bool b)) (by rw[Bool.eq_iff_iff];simp_all [FI])) QJ3 λ_ h=>h.1.1
    refine wB 3 I<|QA (ZD I I)<|wB 4 I ?_
    refine Qn (t:=41) rfl (λhb41=>?_) λhb41=>?_
    ·refine wB 8 I ?_;exact X3 (exd 32 rfl rfl) (congrArg (λb=>some (Value.bool b)) (by rw[Bool.eq_iff_iff];simp_all [FI])) QJ3 λ_ h=>h.1.1
    refine wB 3 I<|QA (ZD I I)<|wB 6 I ?_
    exact X3 (exd 32 rfl rfl) (congrArg (λb=>some (Value.bool b)) (by rw[Bool.eq_iff_iff];simp_all [FI])) QJ3 λ_ h=>h.1.1
   refine wB 4 I<|Jb I I<|Jb I I<|wB 2 I<|Jb I I<|Jb I I<|wB 5 I ?_
   exact X3 (exd 30 rfl rfl) (congrArg (λb=>some (Value.bool b)) (by rw[Bool.eq_iff_iff];simp_all [FI])) QJ3 tD
  refine wB 10 I ?_;refine Qn (t:=33) rfl (λhb33=>?_) λhb33=>?_
  ·refine wB 3 I<|QJ I (λ_ _ f k=>Pc f O) λ_=>QP I I<|QA (YD I)<|wB 2 I ?_
   refine Qn (t:=37) rfl (λhb37=>?_) λhb37=>?_
   ·refine wB 14 I ?_;exact X3 (exd 30 rfl rfl) (congrArg (λb=>some (Value.bool b)) (by rw[Bool.eq_iff_iff];simp_all [FI])) QJ3 λ_ h=>h.1.1
   refine wB 3 I<|QA (ZD I I)<|wB 4 I ?_
   refine Qn (t:=41) rfl (λhb41=>?_) λhb41=>?_
   ·refine wB 8 I ?_;exact X3 (exd 31 rfl rfl) (congrArg (λb=>some (Value.bool b)) (by rw[Bool.eq_iff_iff];simp_all [FI])) QJ3 λ_ h=>h.1.1
   refine wB 3 I<|QA (ZD I I)<|wB 6 I ?_
   exact X3 (exd 31 rfl rfl) (congrArg (λb=>some (Value.bool b)) (by rw[Bool.eq_iff_iff];simp_all [FI])) QJ3 λ_ h=>h.1.1
  refine wB 4 I<|Jb I I<|Jb I I<|wB 2 I<|Jb I I<|Jb I I<|wB 5 I ?_
  exact X3 (exd 29 rfl rfl) (congrArg (λb=>some (Value.bool b)) (by rw[Bool.eq_iff_iff];simp_all [FI])) QJ3 tD
 refine QL I (λhc46=>?_) λhc46=>?_
 ·refine wA 6 I ?_;exact QM () I (wO I) (congrArg (Value.int .i64) (by unfold WU;rw[if_pos hc46])) tB
 refine QLj 3 I ?_;refine B0 54 (.bool (decide (600<(Lib.trimPrefix n [45]).length)||decide (600<d.length))) ?_ ?_
 ·refine wA 2 I<|QA (Jx I XO)<|wB 2 I ?_
  refine Qn (t:=50) rfl (λhb50=>?_) λhb50=>?_
  ·refine wB 5 I ?_;exact X3 (exd 9 rfl rfl) (congrArg (λb=>some (Value.bool b)) (by simp at *;first | omega | (rw[Bool.eq_iff_iff];simp;omega))) QJ3 tC
  refine wB 3 I<|QA (Jx I XO)<|wB 4 I ?_
  exact X3 (exd 9 rfl rfl) (congrArg (λb=>some (Value.bool b)) (by simp at *;first | omega | (rw[Bool.eq_iff_iff];simp;omega))) QJ3 tC
 refine QL I (λhc54=>?_) λhc54=>?_
 ·refine wA 6 I ?_;exact QM () I (wO I) (congrArg (Value.int .i64) (by unfold WU;rw[if_neg (by rw[hc46];decide),if_pos hc54])) tB
 refine QLj 8 I ?_;refine QL I (λhc55=>?_) λhc55=>?_
 ·have hl54:(Lib.trimPrefix n [45]).length<=600/\d.length<=600:=by simp at hc54;omega
  have hwh:Jw (Lib.trimPrefix n [45])=true/\Jw d=true:=by
   subst hc55;simp only[FI,Bool.or_eq_false_iff,Bool.true_and,Bool.not_eq_false']at hc46;exact⟨hc46.1.1,hc46.2.1.1⟩
  have hsa:=KD hwh.1;have hda:=KD hwh.2;have hz1:=DE hsa;have hz2:=DE hda;refine wS I<|QJ I (λ_ _ f k=>N6 f (by rw[Yc hsa];exact hsa) O) λg58=>QJj I<|QJ I (λ_ _ f k=>N6 f (by rw[Yc hda];exact hda) O) λg60=>QJ I (λ_ _ f k=>cM f k.1.2 k.2 (by rw[ZJ hsa];omega) (by rw[ZJ hda];omega)) λg61=>QJ I (λw F hF ⟨⟨⟨⟨⟨hGl,_⟩,_⟩,h58⟩,h60⟩,h61⟩=>vV hF (by assumption)) λc62=>JM _ (λ_ _ f h=>h.2) λhsm=>?_
  rw[ZJ hsa,ZJ hda,Int.gcd_natCast_natCast]at hsm;refine QLi 7 I ?_;refine B0 70 (.bool (!(Nat.gcd (JF (Lib.trimPrefix n [45])) (JF d)==1))) ?_ ?_
  ·refine wA 2 I<|QA (YD I)<|QJj I ?_
   refine Qn (t:=67) rfl (λhb67=>?_) λhb67=>?_
   ·refine wB 4 I ?_;exact X3 (exd 7 rfl rfl) (congrArg (λb=>some (Value.bool b)) (by rcases hsm with ⟨e1,e2,e3⟩ | ⟨e1,e2⟩<;>rw[Bool.eq_iff_iff]<;>simp_all<;>omega)) QJ3 tC
   refine wB 6 I ?_;exact X3 (exd 7 rfl rfl) (congrArg (λb=>some (Value.bool b)) (by rcases hsm with ⟨e1,e2,e3⟩ | ⟨e1,e2⟩<;>rw[Bool.eq_iff_iff]<;>simp_all<;>omega)) QJ3 tC
  refine QL I (λhc70=>?_) λhc70=>?_
  ·refine wA 6 I ?_;exact QM () I (wO I) (congrArg (Value.int .i64) (by unfold WU;rw[if_neg (by rw[hc46];decide),if_neg (by rw[hc54];decide),if_pos (by rw[hc55,hc70];rfl)])) tB
  refine QLj 8 I ?_;exact QM () I (wO I) (congrArg (Value.int .i64) (by unfold WU;rw[if_neg (by rw[hc46];decide),if_neg (by rw[hc54];decide),if_neg (by rw[hc55,hc70];decide)])) tB
 refine QLj 8 I ?_;exact QM () I (wO I) (congrArg (Value.int .i64) (by unfold WU;rw[if_neg (by rw[hc46];decide),if_neg (by rw[hc54];decide),if_neg (by rw[hc55];simp)])) tB
def Jc(s:List UInt8):Rat:=if(ZS 47 s).2.2=true then mkRat (YQ (ZS 47 s).1) (JF (ZS 47 s).2.1)else((YQ (ZS 47 s).1:Int):Rat)
theorem BM(h:c∈s):∃r,s.dropWhile (· != c)=c::r:=by
 induction s with
 |nil=>cases h
 |cons b s ih =>
  simp[List.dropWhile_cons]
  grind
theorem Cg(c:UInt8)(s:List UInt8):((ZS c s).2.2=true->s=(ZS c s).1++c::(ZS c s).2.1)/\((ZS c s).2.2=false->s=(ZS c s).1/\(ZS c s).2.1=[]):=by
 unfold ZS;by_cases h:s.contains c=true
 ·rw[if_pos h];refine⟨λ_=>?_,λe=>(by cases e)⟩;obtain⟨r,hr⟩:=BM (c:=c) (s:=s) (by simp_all)
  grind[List.takeWhile_append_dropWhile]
 simp_all
theorem Rx{l:List UInt8}(h:Jw l=true)(h0:l≠[48]):0<JF l:=by
 simp[Jw,Bool.and_eq_true,Bool.or_eq_true,beq_iff_eq,Bool.not_eq_true',List.isEmpty_eq_false_iff]at h
 grind[absurd,Di]
theorem Oq{l:List UInt8}(h:Jw l=true)(h0:l≠[48])(h1:l≠[49]):2<=JF l:=by
 have hp:=Rx h h0;have hd:=Dj h;rcases Nat.lt_or_ge (JF l) 2 with g | g
 ·have:JF l=1:=O;rw[this]at hd;exact absurd (hd.symm.trans (by rw[Lib.decDigits];rfl)) h1
 omega
theorem gM{n:List UInt8}(h:Jw (Lib.trimPrefix n [45])=true)(h0:(Lib.hasPrefix n [45]&&Lib.trimPrefix n [45]==[48])=false):XZ (YQ n)=n/\(YQ n).natAbs=JF (Lib.trimPrefix n [45]):=by
 unfold YQ;by_cases hp:Lib.hasPrefix n [45]=true
 ·have hn:n=45::n.drop 1:=by
   cases n with
   |nil=>cases hp
   |cons c r =>
    have h45:(45==c)=true:=by grind[Lib.hasPrefix,List.isPrefixOf]
    simp_all
  have ht:Lib.trimPrefix n [45]=n.drop 1:=by unfold Lib.trimPrefix;grind
  have hpos:=Rx h (by grind)
  grind[Zq,JF,Dj]
 have ht:Lib.trimPrefix n [45]=n:=by simp_all[Lib.trimPrefix,if_neg]
 grind[Je,JF,Dj]
theorem Uu{l:List UInt8}(h:XT l=true)(hl:l.length<=600):JF l<lim:=by
 have h1:=K1 h;have h2:10^l.length<=lim:=by have key:∀k,l.length<=k->10^l.length<=10^k:=λk h=>Nat.pow_le_pow_right wv h;unfold lim;exact key 600 hl
 omega
theorem Xa(h:Q9 s=0):s=Q6 (Jc s)/\Xo (Jc s)=false:=by
 unfold Q9 at h;have hj:=Cg 47 s;unfold Jc;generalize ZS 47 s=c at h hj ⊢;obtain⟨n,d,fr⟩:=c;dsimp only at h hj ⊢;unfold WU at h;split at h
 ·cases h
 rename_i h1;split at h
 ·cases h
 split at h
 ·cases h
 have h1':=eq_false_of_ne_true h1;simp only[FI,Bool.or_eq_false_iff,Bool.not_eq_false']at h1';obtain⟨⟨hw,hz⟩,hf⟩:=h1';have hsa:=KD hw;have hl:(Lib.trimPrefix n [45]).length<=600/\d.length<=600:=by simp_all
 obtain⟨hn1,hn2⟩:=gM hw hz;have hlim:=Uu hsa hl.1;cases fr with
 |false =>
  rw[if_neg wv];refine⟨?_,?_⟩
  ·unfold Q6;simp_all
  unfold Xo D7;rw[Rat.num_intCast,Rat.den_intCast,hn2]
  grind[decide_eq_false,lim,Nat.lt_of_lt_of_le,decide,Nat.pow_le_pow_right]
 |true =>
  rw[if_pos rfl];simp at hf;obtain⟨⟨hwd,hd0⟩,hd1⟩:=hf;have hd2:=Oq hwd (by simp_all) (by simp_all);have hda:=KD hwd;have hco:Nat.Coprime (YQ n).natAbs (JF d):=by grind
  have hmk:=Rat.mk_eq_mkRat _ _ O hco;rw[<-hmk];refine⟨?_,?_⟩
  ·show s=if JF d=1 then _ else XZ _++47::Lib.decDigits _
   rw[if_neg O,hn1,Dj hwd];simp_all
  unfold Xo D7;have:=Uu hda hl.2;simp_all
theorem S8{r:Rat}(h:Xo r=false):XH r<=2400:=by
 unfold Xo D7 at h;rw[Bool.or_eq_false_iff]at h;have h1:=QK9 h.1;have h2:=QK9 h.2;have e:lim<=2^2400:=by
  decide +kernel
 unfold XH;have a:=(XA r.num 2400).2 (Nat.lt_of_lt_of_le (Nat.lt_of_not_le h1) e);have b:=(XA (r.den:Int) 2400).2 (Nat.lt_of_lt_of_le (Nat.lt_of_not_le h2) e);omega
theorem Xt(h:Q9 s=0):XH (Jc s)<=2400:=S8 (Xa h).2
def MG.all:∀l:List Value,MG l 0 l
 |[]=>.nil
 |_::l=>.here (MG.all l)
theorem Cb{n c f:Nat}{vs:Nat->Value}{es:List Int}{c1 c2:List Value}(hF:Fits F w)(hg:∀F F',Gs.le F F'->G0 F->G0 F')(h0:G0 F)(hR:Qu F q n 1 cs)(hn:es.length=n)(hb:n<=1000000000)
  (hv:∀i,i<n->cs[i*1]?=some (vs i)) (hc:∀i (hi:i<es.length) w F,Fits F w->G0 F->QY prog f (c1++[vs i]++c2) w F (.int .i64 es[i])) :
  QY prog 164 [.slice q n c,.func (.func f) c1.toArray c2.toArray] w F (.int .i64 (Qz es)):=by
 refine QQ.intro (G:=λF=>G0 F/\Qu F q n 1 cs) func164 rfl w8 rfl rfl hF (λF' hF'=>⟨hg F F' hF' h0,hR.le hF'⟩)<|QKt<|wR rfl<|QG<|wS rfl<|QA (QW rfl YI)<|QJj rfl<|QJi<|QO<|EY (ι:=MZ n λi=>Qz (es.drop i)=Qz es) (λi=>[(1,.func (.func f) c1.toArray c2.toArray),(8,.slice q n c),(9,.int .i64 n),(10,.int .i64 i.i)]) (λ_=>[]) (λ_ F=>G0 F/\Qu F q n 1 cs) (λi=>n-i.i) ⟨0,Nat.zero_le _,rfl⟩ wW λi=>?_
 have hle:=i.le;refine wA 6 I ?_;refine QL I (λhc1=>?_) λhc1=>?_
 ·have hi:i.i<n:=by simp at hc1;omega
  have hil:i.i<es.length:=O;refine Xy _ (λ_ _ f h=>h.2.ptr O) (λhq=>?_);obtain⟨qb,qo,rfl⟩:=hq;refine QLj 6 I<|QA (Qj I I YI JP hi)<|QA (XY I JP tE O (hv i.i hi))<|QLi 7 I<|GU I I (λw F f h=>hc i.i hil w F f h.1) λ_=>QLi 9 I ?_
  refine QL I (λhc1=>?_) λhc1=>?_
  ·refine wA 6 I<|X6 ?_
   exact QM () I (wO I) (congrArg (Value.int .i64) (i.h.symm.trans (Bt hil (by simpa using hc1)))) tB
  refine QK<|Qa<|QC<|QB<|QA (Qk I I O)<|wB 2 I ?_
  exact Qb (⟨i.i+1,O,by rw[<-WA hil (by simpa using hc1)];exact i.h⟩:MZ n λi=>Qz (es.drop i)=Qz es)
 refine Q7 ?_;refine wA 6 I ?_;exact QM () I (wO I) (by rw[<-i.h,List.drop_of_length_le (by simp at hc1;omega)];rfl) tB
theorem yI{n c:Nat}{l:List (List UInt8)}(hF:Fits F w)(hG:JZ F)(hR:Qu F q n 1 (l.map tx))(hl:n<=1000000/\∀s∈l,s.length<=1000000):QY prog 95 [.slice q n c] w F (.int .i64 (Qz (l.map Q9))):=by
 have hln:l.length=n:=by have:=hR.1;simpa using this
 refine QQ.go (G:=λF=>JZ F/\Qu F q n 1 (l.map tx)) func95 hF ⟨hG,hR⟩ ?_;refine wA 8 I ?_;refine QJ I (λw F hF ⟨hGl,hR⟩=>Cb (c1:=[]) (c2:=[]) (vs:=λi=>tx (l.getD i [])) (es:=l.map Q9) (G0:=JZ) hF (λ_ _ h k=>k.le h) hGl hR (by simpa using hln) O (λi hi=>by
  have:i<l.length:=O;simp[this]) (λi hi w F hF hG=>by
  have hi':i<l.length:=by simpa using hi
  have e:l.getD i []=l[i]:=by simp[hi']
  have:=Dl hF hG (hl.2 l[i] (List.getElem_mem hi'));rw[List.getElem_map];show QY _ _ [tx (l.getD i [])] _ _ _;rw[e];exact this)) λc4=>?_
 refine wR I<|QT ?_
 exact QM () I (wO I) rfl tB
def UD(r:Rat):List UInt8×Int:=if Xo r=true then([],4)else(Q6 r,0)
theorem QBC{x:Fr}{r:Rat}(hF:Fits F w)(hG:JZ F)(h:Jl F x r)(hz:XH r<=100000000):QY prog 96 [x.v] w F (.tuple #[tx (UD r).1,.int .i64 (UD r).2]):=by
 refine QQ.go (G:=λF=>JZ F/\Jl F x r) func96 hF ⟨hG,h⟩ ?_;refine QKt<|Q8 I (vs:=[_,_,_,_]) I λb1=>QLi 7 I<|QA (wJ I JA .here)<|QJ I (λ_ _ f k=>Sb (x:=x) (r:=r) f k.1 ⟨k.2.1,k.2.2⟩ hz) λ_=>QF<|QC ?_
 refine QL I (λhc=>?_) λhc=>?_
 ·refine wA 7 I ?_;exact J7 () I (wP I I) (by unfold UD;rw[if_pos hc]) tB
 refine QLj 4 I<|QA (wJ I JA .here)<|QJ I (λ_ _ f k=>Mu (x:=x) (r:=r) f k.1.1 ⟨k.1.2.1,k.1.2.2⟩ hz) λ_=>QLi 5 I ?_
 exact J7 () I (wP I I) (by unfold UD;rw[if_neg (by rw[hc];decide)]) tB
def I4{a b:Int}(h:Qz [a,b]=0):a=0/\b=0:=by
 simp only[Qz]at h;by_cases h1:a=0
 ·rw[if_pos h1]at h;by_cases h2:b=0
  ·exact⟨h1,h2⟩
  rw[if_neg h2]at h;exact absurd h h2
 rw[if_neg h1]at h;exact absurd h h1
def S2(x:Fr):List Value:=[.int .i64 x.n.s,.slice x.n.q x.n.n x.n.cap,.int .i64 x.d.s,.slice x.d.q x.d.n x.d.cap]
theorem ON{α:Type}{f:α->List Value}(hf:∀x,(f x).length=k):∀(l:List α) (i j:Nat) (h:i<l.length),j<k->(l.flatMap f)[i*k+j]?=(f l[i])[j]?
 |[],_,_,h,_=>by simp at h
 |x::l,0,j,_,hj=>by
  rw[List.flatMap_cons,Nat.zero_mul,Nat.zero_add,List.getElem?_append,if_pos (by rw[hf];exact hj)];rfl
 |x::l,i+1,j,h,hj=>by
  rw[List.flatMap_cons,List.getElem?_append,if_neg (by rw[hf,Nat.add_mul];omega),hf];have:=ON hf l i j (by simpa using h) hj;rw[show(i+1)*k+j-k=i*k+j by rw[Nat.add_mul];omega,this];rfl
def P2(op:Rat->Rat->Rat)(a b:List UInt8):List UInt8×Int:=if Qz [Q9 a,Q9 b]=0 then UD (op (Jc a) (Jc b))else([],Qz [Q9 a,Q9 b])
theorem QBS{b:List UInt8}{f:Nat}{op:Rat->Rat->Rat}(hF:Fits F w)(hG:JZ F)(hl:a.length<=1000000/\b.length<=1000000)
  (hop:∀w F x y,Fits F w->Jl F x (Jc a)->Jl F y (Jc b)->Q9 a=0->Q9 b=0->ZQ prog f [x.v,y.v] w F (op (Jc a) (Jc b))/\XH (op (Jc a) (Jc b))<=100000000) :
  QY prog 45 [tx a,tx b,.func (.func f) #[] #[]] w F (.tuple #[tx (P2 op a b).1,.int .i64 (P2 op a b).2]):=by
 refine QQ.go (G:=λF=>JZ F) func45 hF hG ?_;refine wA 11 I<|Qw I (JR YI) JP yk I I λb11=>QJ I (λw F hF ⟨hGl,hs11⟩=>yI (l:=[a,b]) hF hGl (Qu.of (cs:=List.map tx [a,b]) hs11 rfl) ⟨wv,λs hs=>by simp at hs;rcases hs with rfl | rfl;exact hl.1;exact hl.2⟩) λ_=>QLi 9 I ?_
 refine QL I (λhc=>?_) λhc=>?_
 ·refine wA 8 I ?_;exact J7 () I (wP I I) (by unfold P2;rw[if_neg (by simpa using hc)];rfl) tB
 have h0:Qz [Q9 a,Q9 b]=0:=by simpa using hc
 have h1:=I4 h0;have hz1:=Xt h1.1;have hz2:=Xt h1.2;refine QLj 6 I<|QJ I (λ_ _ f k=>WS f k.1.1 (Xa h1.1).1 O) λx18=>QJj I<|QJ I (λ_ _ f k=>WS f k.1.1.1 (Xa h1.2).1 O) λx20=>GU (c1:=[]) (c2:=[]) I I (λw F f h=>(hop w F x18 x20 f h.1.2 h.2 h1.1 h1.2).1) λx21=>QJ I (λw F f h=>QBC (x:=x21) (r:=op (Jc a) (Jc b)) f h.1.1.1.1.1 h.2 (hop w F x18 x20 f h.1.1.2 h.1.2 h1.1 h1.2).2) λ_=>QLi 7 I ?_
 exact J7 () I (wP I I) (by unfold P2;rw[if_pos h0];rfl) tB
theorem QEM{b:List UInt8}(hF:Fits F w)(hG:JZ F)(hl:a.length<=1000000/\b.length<=1000000):QY prog 12 [tx a,tx b] w F (.tuple #[tx (P2 (·*·) a b).1,.int .i64 (P2 (·*·) a b).2]):=by
 refine QQ.go (G:=λF=>JZ F) func12 hF hG ?_;refine wA 10 I<|QJ I (λw F f k=>QBS (a:=a) (b:=b) (op:=(·*·)) f k hl λw F x y f hx hy h1 h2=>⟨HH f hx hy (Nat.le_trans (Xt h1) wv) (Nat.le_trans (Xt h2) wv),Nat.le_trans (Zg _ _) (by have:=Xt h1;have:=Xt h2;omega)⟩) λc8=>QLi 7 I ?_
 exact J7 () I (wP I I) (rfl) tB
def ahead(p:UInt8->Bool)(s:List UInt8):Nat:=(s.takeWhile λc=>!p c).length
theorem Sq{p:UInt8->Bool}(hi:i<s.length)(h:(s.take i).all (λc=>!p c)=true)(hp:p s[i]=true):ahead p s=i:=by
 unfold ahead;have e:s=s.take i++s[i]::s.drop (i+1):=by rw[<-List.drop_eq_getElem_cons hi,List.take_append_drop]
 have hl:(s.take i).length=i:=tA;rw[e,List.takeWhile_append_of_pos (by simpa using h),List.takeWhile_cons];simp[hp];omega
def Ss{p:UInt8->Bool}(h:s.all (λc=>!p c)=true):ahead p s=s.length:=by
 unfold ahead
 induction s with
 |nil=>rfl
 |cons c s ih =>
  simp only[List.all_cons,Bool.and_eq_true]at h;rw[List.takeWhile_cons,if_pos h.1,List.length_cons,ih h.2,List.length_cons]
def BP{p:UInt8->Bool}(hi:i<s.length)(h:(s.take i).all p=true)(hp:p s[i]=true):(s.take (i+1)).all p=true:=by
 rw[List.take_succ_eq_append_getElem hi,List.all_append,h];simp[hp]
def Jh(c:UInt8):Bool:=c==47
def Gu{d:UInt8}(hz:z=(d.toNat:Int)):((c.toNat:Int)==z)=(c==d):=by
 rw[Bool.eq_iff_iff];simp only[beq_iff_eq];constructor
 ·intro h;apply UInt8.toNat.inj;omega
 rintro rfl;exact hz.symm
theorem Wh(hF:Fits F w)(hl:s.length<=9223372036854775807):QY prog 91 [tx s] w F (.int .i64 (ahead Jh s)):=by
 refine QQ.intro (G:=λ_=>True) func91 rfl w8 rfl rfl hF tB<|QKt<|wR rfl<|QG<|QKt<|wR rfl<|QO<|EY (ι:=MZ s.length λi=>(s.take i).all (λc=>!Jh c)=true) (λi=>[(0,tx s),(3,.int .i64 i.i)]) (λ_=>[]) (λ_ _=>True) (λi=>s.length-i.i) ⟨0,Nat.zero_le _,rfl⟩ wU λi=>?_
 have hle:=i.le;refine wA 5 I<|QA (Jx I XO)<|QLi 3 I ?_
 refine QL I (λhc=>?_) λhc=>?_
 ·have hi:i.i<s.length:=by simp at hc;omega
  clear hc;refine QLj 8 I<|QA (KG I I XO (hi))<|QLi 3 I ?_
  refine QL I (λhc=>?_) λhc=>?_
  ·refine wA 6 I<|X6 ?_
   exact QM () I (wO I) (congrArg (λn:Nat=>Value.int .i64 (n:Int)) (Sq hi i.h (by unfold Jh;have:=hc;rw[Gu (d:=47) (z:=47) rfl]at this;simpa using this))) tB
  refine QK<|Qa<|QLk 3 I<|QA (Qk I I O)<|wB 2 I ?_
  exact Qb (⟨i.i+1,O,BP hi i.h (by unfold Jh;have:=hc;rw[Gu (d:=47) (z:=47) rfl]at this;simpa using this)⟩:MZ s.length λi=>(s.take i).all (λc=>!Jh c)=true)
 refine Q7 ?_;refine wS I<|QA (Jx I XO)<|wR I<|QT ?_
 exact QM () I (wO I) (congrArg (λn:Nat=>Value.int .i64 (n:Int)) (Ss (by have e:=i.h;rw[List.take_of_length_le (by simp at hc;omega)]at e;exact e))) tB
theorem SA(hF:Fits F w)(hl:s.length<=9223372036854775807):QY prog 160 [tx s] w F (.bool (XT s)):=by
 refine QQ.intro (G:=λ_=>True) func160 rfl w8 rfl rfl hF tB<|QKt<|wR rfl<|QG<|QKt<|wR rfl<|QO<|EY (ι:=MZ s.length λi=>(s.take i).all UF=true) (λi=>[(0,tx s),(3,.int .i64 i.i)]) (λ_=>[]) (λ_ _=>True) (λi=>s.length-i.i) ⟨0,Nat.zero_le _,rfl⟩ wU λi=>?_
 have hle:=i.le;refine wA 5 I<|QA (Jx I XO)<|QLi 3 I ?_
 refine QL I (λhc=>?_) λhc=>?_
 ·have hi:i.i<s.length:=by simp at hc;omega
  clear hc;refine QLj 8 I<|QA (KG I I XO (hi))<|wB 2 I ?_
  refine Qn (t:=14) rfl (λhb14=>?_) λhb14=>?_
  ·refine QLi 7 I<|ZB I<|wA 5 I<|X6 ?_
   exact QM () I (wO I) (congrArg Value.bool (by rw[Ml hi (by have h1:=QK8 hb14;cases hd:UF s[i.i]with | false=>rfl | true=>(have:=YG.1 hd;omega))])) tB
  refine wB 5 I<|QA (KG I I XO (hi))<|QLi 5 I ?_
  refine QL I (λhc=>?_) λhc=>?_
  ·refine wA 5 I<|X6 ?_
   exact QM () I (wO I) (congrArg Value.bool (by rw[Ml hi (by have h1:=QK8 hc;cases hd:UF s[i.i]with | false=>rfl | true=>(have:=YG.1 hd;omega))])) tB
  refine QK<|Qa<|QLk 3 I<|QA (Qk I I O)<|wB 2 I ?_
  exact Qb (⟨i.i+1,O,BP hi i.h (YG.2 (by have h1:=QK9 hb14;have h2:=QK9 hc;constructor<;>omega))⟩:MZ s.length λi=>(s.take i).all UF=true)
 refine Q7 ?_;refine wA 6 I ?_;exact QM () I (wO I) (congrArg Value.bool (by have e:=i.h;rw[List.take_of_length_le (by simp at hc;omega)]at e;exact e)) tB
theorem zZ(h1:(1:Int)<(s.length:Int))(h:s[0]' O=48):Jw s=false:=by
 cases s with
 |nil=>simp at h1
 |cons c r =>
  have hc:c=48:=h;subst hc;have hr:r≠[]:=by intro e;subst e;simp at h1
  simp[Jw,hr]
theorem Ca(h1:(1:Int)<(s.length:Int))(h:¬s[0]' O=48):Jw s=XT s:=by
 cases s with
 |nil=>simp at h1
 |cons c r =>
  have hc:¬c=48:=h;simp[Jw,hc]
theorem zY(h0:0<s.length)(h1:s.length<=1):Jw s=XT s:=by
 match s,h0,h1 with
 |[c],_,_ =>
  by_cases hc:c=48
  ·subst hc;rfl
  simp[Jw,hc]
theorem Ls(hF:Fits F w)(hl:s.length<=9223372036854775807):QY prog 92 [tx s] w F (.bool (Jw s)):=by
 refine QQ.intro (G:=λ_=>True) func92 rfl w8 rfl rfl hF tB<|QKt<|wR rfl<|QG<|wS rfl<|QA (Jx rfl XO)<|QA (QR rfl rfl rfl)<|QJj rfl ?_
 refine Qn (t:=6) rfl (λhb6=>?_) λhb6=>?_
 ·refine wB 4 I<|Jb I I<|Jb I I<|Jb I I<|QLi 4 I<|ZB I<|wA 6 I ?_
  exact QM () I (wO I) (congrArg Value.bool (by have h0:s=[]:=(by simpa using hb6);subst h0;rfl)) tB
 refine wB 3 I<|QA (Jx I XO)<|wB 4 I ?_
 refine Qn (t:=10) rfl (λhb10=>?_) λhb10=>?_
 ·refine wB 3 I<|QA (KG (i:=0) rfl rfl XO (wm<|QK8 hb10))<|QLi 7 I ?_
  refine QL I (λhc=>?_) λhc=>?_
  ·refine wA 6 I ?_;exact QM () I (wO I) (congrArg Value.bool (zZ (QK8 hb10) (by have h:=hc;rw[Gu (d:=48) (z:=48) rfl]at h;simpa using h))) tB
  refine QLj 5 I<|QJ I (λ_ _ f _=>SA f hl) λ_=>wR I<|QT ?_
  exact QM () I (wO I) (congrArg Value.bool (Ca (QK8 hb10) (by have h:=hc;rw[Gu (d:=48) (z:=48) rfl]at h;simpa using h))) tB
 refine QLi 8 I<|ZP I<|QLj 5 I<|QJ I (λ_ _ f _=>SA f hl) λ_=>wR I<|QT ?_
 exact QM () I (wO I) (congrArg Value.bool (zY (List.length_pos_iff.2 (by simpa using hb6)) (by have h:=QK9 hb10;omega))) tB
def GN(s:List UInt8):Int:=if s=[48]then 0 else if Lib.hasPrefix s [45]=true then -1 else 1
def Ik(s:List UInt8):List UInt8:=if GN s<0 then s.drop 1 else if GN s=0 then s else 45::s
def LM(s:List UInt8):List UInt8:=if GN s<0 then s.drop 1 else s
def numOf(s:List UInt8):List UInt8:=s.take (ahead Jh s)
def RT(s:List UInt8):List UInt8:=if ahead Jh s=s.length then[49]else s.drop (ahead Jh s+1)
def MP(s:List UInt8):Int:=if(decide (600<(LM (numOf s)).length)||decide (600<(RT s).length))=true then 4 else 0
def Yz(p:UInt8->Bool)(s:List UInt8):ahead p s<=s.length:=(List.takeWhile_sublist _).length_le
theorem Yt(h:0<s.length):Lib.hasPrefix s [45]=(s[0]==45):=by
 cases s with
 |nil=>simp at h
 |cons c r =>
  have e:Lib.hasPrefix (c::r) [45]=(45==c):=by simp[Lib.hasPrefix,List.isPrefixOf]
  rw[e,Bool.eq_iff_iff];simp only[List.getElem_cons_zero,beq_iff_eq];exact⟨λh=>h.symm,λh=>h.symm⟩
def DK(h:GN s<0):0<s.length:=by
 cases s with
 |nil=>exact absurd h wv
 |cons=>simp
theorem TG(hF:Fits F w):QY prog 236 [tx s] w F (.int .i64 (GN s)):=by
 refine QQ.intro (G:=λ_=>True) func236 rfl w8 rfl rfl hF tB<|QKt<|wR rfl<|QG<|wS rfl<|QA (ZD rfl rfl)<|QF<|QC ?_
 refine QL I (λhc4=>?_) λhc4=>?_
 ·refine wA 6 I ?_;exact QM () I (wO I) (congrArg (Value.int .i64) (by unfold GN;rw[if_pos (by simpa using hc4)])) tB
 refine QLj 6 I<|QA (Jx I Wd)<|wB 2 I ?_
 refine Qn (t:=8) rfl (λhb8=>?_) λhb8=>?_
 ·refine wB 3 I<|QA (KG (i:=0) rfl rfl Wd (wm<|QK8 hb8))<|QLi 5 I ?_
  refine QL I (λhc=>?_) λhc=>?_
  ·refine wA 6 I ?_;exact QM () I (wO I) (congrArg (Value.int .i64) (by unfold GN;rw[if_neg (by simpa using hc4),if_pos];rw[Yt (wm<|QK8 hb8),<-Gu (z:=45) rfl];exact hc)) tB
  refine QLj 8 I ?_;exact QM () I (wO I) (congrArg (Value.int .i64) (by unfold GN;rw[if_neg (by simpa using hc4),if_neg];rw[Yt (wm<|QK8 hb8),<-Gu (z:=45) rfl,hc];decide)) tB
 refine QLi 6 I<|ZP I<|QLj 8 I ?_
 exact QM () I (wO I) (congrArg (Value.int .i64) (by have h0:s=[]:=(by have:=hb8;simp at this;exact this);subst h0;rfl)) tB
theorem QAb(hF:Fits F w)(hl:s.length<=1000000000):QY prog 189 [tx s] w F (tx (Ik s)):=by
 refine QQ.intro (G:=λ_=>True) func189 rfl w8 rfl rfl hF tB<|QKt<|wR rfl<|QG<|wS rfl<|QJ rfl (λ_ _ f _=>TG f ) λ_=>QA (QR rfl rfl rfl)<|QF<|QC ?_
 refine QL I (λhc5=>?_) λhc5=>?_
 ·refine wS I<|QA (Z2 1 rfl rfl Wd I (DK (QK8 hc5)))<|wR I<|QT ?_
  exact QM () I (wO I) (congrArg tx (by unfold Ik;rw[if_pos (QK8 hc5)])) tB
 refine QLj 6 I<|QJ I (λ_ _ f k=>TG f ) λ_=>QLi 3 I ?_
 refine QL I (λhc10=>?_) λhc10=>?_
 ·refine wA 7 I ?_;exact QM () I (wO I) (congrArg tx (by unfold Ik;rw[if_neg (QK9 hc5),if_pos (by simpa using hc10)])) tB
 refine QLj 5 I<|QA (XP I I tA)<|wR I<|QT ?_
 exact QM () I (wO I) (congrArg tx (by unfold Ik;rw[if_neg (QK9 hc5),if_neg (by simpa using hc10)];rfl)) tB
theorem xB(hF:Fits F w):QY prog 177 [tx s] w F (tx (LM s)):=by
 refine QQ.intro (G:=λ_=>True) func177 rfl w8 rfl rfl hF tB<|QKt<|wR rfl<|QG<|wS rfl<|QJ rfl (λ_ _ f _=>TG f ) λ_=>QA (QR rfl rfl rfl)<|QF<|QC ?_
 refine QL I (λhc=>?_) λhc=>?_
 ·refine wS I<|QA (Z2 1 rfl rfl Wd I (DK (QK8 hc)))<|wR I<|QT ?_
  exact QM () I (wO I) (congrArg tx (by unfold LM;rw[if_pos (QK8 hc)])) tB
 refine QLj 9 I ?_;exact QM () I (wO I) (congrArg tx (by unfold LM;rw[if_neg (QK9 hc)])) tB
theorem qe(hF:Fits F w):QY prog 194 [tx s] w F (.bool (s==[48])):=by
 refine QQ.intro (G:=λ_=>True) func194 rfl w8 rfl rfl hF tB<|QKt<|wR rfl<|wS rfl<|QA (ZD rfl rfl)<|wR rfl<|QT ?_
 exact QM () I (wO I) (rfl) tB
theorem jt(hF:Fits F w)(hl:s.length<=1000000000):QY prog 178 [tx s] w F (tx (numOf s)):=by
 refine QQ.intro (G:=λ_=>True) func178 rfl w8 rfl rfl hF tB<|QKt<|wR rfl<|wS rfl<|QJj rfl<|QJ rfl (λ_ _ f _=>Wh f (Nat.le_trans hl wv)) λ_=>QA (V8 (ahead Jh s) rfl rfl Wd rfl (Yz _ _))<|wR rfl<|QT ?_
 exact QM () I (wO I) (rfl) tB
theorem j4(hF:Fits F w)(hl:s.length<=1000000000):QY prog 179 [tx s] w F (tx (RT s)):=by
 refine QQ.intro (G:=λ_=>True) func179 rfl w8 rfl rfl hF tB<|QKt<|wR rfl<|wS rfl<|QJ rfl (λ_ _ f _=>Wh f (Nat.le_trans hl wv)) λ_=>wR rfl<|QG<|wS rfl<|QJj rfl<|QA (Jx rfl Wd)<|QA (QR rfl rfl rfl)<|QF<|QC ?_
 refine QL I (λhc=>?_) λhc=>?_
 ·refine wA 6 I ?_;exact QM () I (wO I) (congrArg tx (by unfold RT;rw[if_pos (by simp at hc;omega)])) tB
 refine QLj 6 I<|QA (Qk I I (wm<|Yz Jh s))<|QA (Z2 (ahead Jh s+1) rfl rfl Wd I (by have:=Yz Jh s;simp at hc;omega))<|wR I<|QT ?_
 exact QM () I (wO I) (congrArg tx (by unfold RT;rw[if_neg (by simp at hc;omega)])) tB
theorem uT(hF:Fits F w)(hl:s.length<=1000000000):QY prog 182 [tx s] w F (.int .i64 (MP s)):=by
 refine QQ.intro (G:=λ_=>True) func182 rfl w8 rfl rfl hF tB<|QKt<|wR rfl<|QG<|wS rfl<|QJ rfl (λ_ _ f _=>jt f hl) λ_=>QJ rfl (λ_ _ f k=>xB f ) λ_=>QA (Jx rfl Wd)<|QA (QR rfl rfl rfl)<|QJj rfl ?_
 refine Qn (t:=8) rfl (λhb8=>?_) λhb8=>?_
 ·refine QLi 7 I<|ZB I<|wA 6 I ?_
  exact QM () I (wO I) (congrArg (Value.int .i64) (by have h:=QK8 hb8;unfold MP;rw[if_pos (by rw[decide_eq_true O];rfl)])) tB
 refine wB 3 I<|QJ I (λ_ _ f k=>j4 f hl) λ_=>QP I I<|QA (Jx I Wd)<|QLi 5 I ?_
 refine QL I (λhc=>?_) λhc=>?_
 ·refine wA 6 I ?_;exact QM () I (wO I) (congrArg (Value.int .i64) (by have h:=QK8 hc;unfold MP;rw[if_pos (by rw[decide_eq_true (show 600<(RT s).length by omega),Bool.or_true])])) tB
 refine QLj 8 I ?_;exact QM () I (wO I) (congrArg (Value.int .i64) (by have h:=QK9 hc;have h8:=QK9 hb8;unfold MP;rw[if_neg (by rw[decide_eq_false O,decide_eq_false O];decide)])) tB
def MN(hi:i<s.length):JF (s.take (i+1))=JF (s.take i)*10+(s[i].toNat-48):=by
 rw[List.take_succ_eq_append_getElem hi,YF,VS];simp
def QBY(hi:i<s.length)(h:XT s=true):48<=s[i].toNat/\s[i].toNat<=57:=by
 rw[XT,List.all_eq_true]at h;exact YG.1 (h _ (List.getElem_mem hi))
theorem DM(hF:Fits F w)(hs:XT s=true)(hl:s.length<=18):QY prog 224 [tx s] w F (.int .i64 (JF s)):=by
 refine QQ.intro (G:=λ_=>True) func224 rfl w8 rfl rfl hF tB<|QKt<|wR rfl<|QKt<|wR rfl<|QG<|QKt<|wR rfl<|QO<|EY (ι:=MZ s.length λ_=>True) (λi=>[(0,tx s),(3,.int .i64 (JF (s.take i.i))),(4,.int .i64 i.i)]) (λ_=>[]) (λ_ _=>True) (λi=>s.length-i.i) ⟨0,Nat.zero_le _,trivial⟩ wV λi=>?_
 have hle:=i.le;have hlt:=K1 (Hy hs i.i);have hp18:(10:Nat)^(s.take i.i).length<=10^18:=Nat.pow_le_pow_right wv tA;refine wA 5 I<|QA (Jx I XO)<|QLi 3 I ?_
 refine QL I (λhc=>?_) λhc=>?_
 ·have hi:i.i<s.length:=by simp at hc;omega
  have hd:=QBY hi hs;have hp17:(10:Nat)^(s.take i.i).length<=10^17:=Nat.pow_le_pow_right wv tA;refine QLj 6 I<|QA (VN I I O)<|wB 2 I<|QA (KG I I XO (hi))<|QA (SD I QHC k_3 O)<|QA (Qk I I O)<|QA (Jk I I O)<|wB 2 I<|Qa<|QLk 3 I<|QA (Qk I I O)<|wB 2 I ?_
  exact Qb (⟨i.i+1,O,trivial⟩:MZ s.length λ_=>True) (hm:=⟨rfl,(by show some (Value.int .i64 _)=some (Value.int .i64 _);rw[MN hi];congr 2;omega),rfl,trivial⟩)
 refine Q7 ?_;refine wA 7 I ?_;exact QM () I (wO I) (congrArg (Value.int .i64) (by rw[List.take_of_length_le (by simp at hc;omega)])) tB
structure QFB(a b:Nat) where
 x:Nat
 y:Nat
 h:Nat.gcd x y=Nat.gcd a b
 hx:x<=9223372036854775807
 hy:y<=9223372036854775807
theorem QAd{a b:Nat}(hF:Fits F w)(ha:a<=9223372036854775807)(hb:b<=9223372036854775807):QY prog 239 [.int .i64 (a:Int),.int .i64 (b:Int)] w F (.int .i64 (Nat.gcd a b:Nat)):=by
 refine QQ.intro (G:=λ_=>True) func239 rfl w8 rfl rfl hF tB<|QKt<|wR rfl<|QG<|QO<|EY (ι:=QFB a b) (λi=>[(0,.int .i64 (i.x:Int)),(1,.int .i64 (i.y:Int))]) (λ_=>[]) (λ_ _=>True) (λi=>i.y) ⟨a,b,rfl,ha,hb⟩ wU λi=>?_
 have hx:=i.hx;have hy:=i.hy;refine wA 7 I ?_;refine QL I (λhc=>?_) λhc=>?_
 ·have hpos:0<i.y:=by simp at hc;omega
  refine QLj 3 I<|JC QJ3 mixed wu<|QI (QD I)<|QI (QD I)<|QI (QD I)<|QI (Kr I I O O)<|QI (QE I)<|QI (QE I)<|Qv<|Qa ?_
  exact Qb (⟨i.y,i.x%i.y,by rw[<-i.h,Nat.gcd_comm i.x,Nat.gcd_rec i.y i.x,Nat.gcd_comm],hy,wm<|Nat.mod_lt i.x hpos⟩:QFB a b) (Nat.mod_lt i.x hpos)
 refine Q7 ?_;refine wA 7 I ?_;exact QM () I (wO I) (congrArg (λn:Nat=>Value.int .i64 (n:Int)) (by have h0:i.y=0:=(by simp at hc;omega);rw[<-i.h,h0,Nat.gcd_zero_right])) tB
def EO(n least:Nat):List UInt8:=Vd least (hd n)
def OI{n:Nat}(h:0<n):hd n=hd (n/10)++[UInt8.ofNat (48+n%10)]:=by
 unfold hd;rw[if_neg O];by_cases h0:n/10=0
 ·rw[if_pos h0,Lib.decDigits,dif_pos O,Nat.mod_eq_of_lt O];rfl
 rw[if_neg h0,Lib.decDigits.eq_1 n,dif_neg O]
def I0{n:Nat}(h:n<=9223372036854775807):(hd n).length<=20:=by
 unfold hd;split
 ·simp
 rw[Lib.decDigits_length];exact Zo O wv
structure C9(n least:Nat) where
 m:Nat
 t:List UInt8
 le:m<=n
 h:Vd (least-t.length) (hd m)++t=EO n least
 tl:t.length+(hd m).length<=least+20
def jT{d:Nat}(h:d<10):(([48,49,50,51,52,53,54,55,56,57]:List UInt8).take (d+1)).drop d=[UInt8.ofNat (48+d)]:=by
 match d,h with
 |0,_=>rfl
 |1,_=>rfl
 |2,_=>rfl
 |3,_=>rfl
 |4,_=>rfl
 |5,_=>rfl
 |6,_=>rfl
 |7,_=>rfl
 |8,_=>rfl
 |9,_=>rfl
theorem yA{n:Nat}{least:Nat}{t:List UInt8}(h:0<n\/t.length<least):Vd (least-(UInt8.ofNat (48+n%10)::t).length) (hd (n/10))++(UInt8.ofNat (48+n%10)::t)=Vd (least-t.length) (hd n)++t:=by
 rcases Nat.eq_zero_or_pos n with h0 | h0
 ·subst h0;have hlt:t.length<least:=O;have e:least-t.length=(least-(t.length+1))+1:=O;simp only[hd,Vd,List.length_cons,if_true,List.length_nil,Nat.sub_zero,List.append_nil,Nat.zero_div,Nat.zero_mod];rw[e,KZ,KZ,List.replicate_succ',List.append_assoc];rfl
 rw[OI h0];unfold Vd;simp only[List.length_append,List.length_cons,List.length_nil];rw[show least-(t.length+1)-(hd (n/10)).length=least-t.length-((hd (n/10)).length+(0+1)) by omega];simp
def C9.next{n least:Nat}(i:C9 n least)(h:0<i.m\/i.t.length<least):C9 n least :=
 ⟨i.m/10,UInt8.ofNat (48+i.m%10)::i.t,wm i.le,by rw[yA h];exact i.h,by
  have:=i.tl;rcases Nat.eq_zero_or_pos i.m with h0 | h0
  ·have e:hd (i.m/10)=[]:=by rw[h0];rfl
   rw[e];have e2:hd i.m=[]:=by rw[h0];rfl
   rw[e2]at this;simp at this ⊢;omega
  have e:=congrArg List.length (OI h0);simp at e ⊢;omega⟩
theorem IV{n least:Nat}(hF:Fits F w)(hn:n<=9223372036854775807)(hl:least<=1000):QY prog 237 [.int .i64 (n:Int),.int .i64 (least:Int)] w F (tx (EO n least)):=by
 refine QQ.intro (G:=λ_=>True) func237 rfl w8 rfl rfl hF tB<|QKt<|wR rfl<|QKt<|wR rfl<|QG<|QO<|EY (ι:=C9 n least) (λi=>[(0,.int .i64 (i.m:Int)),(1,.int .i64 (least:Int)),(5,tx i.t)]) (λ_=>[]) (λ_ _=>True) (λi=>i.m+(least-i.t.length)) ⟨n,[],Nat.le_refl _,by unfold EO;simp,by have:=I0 hn;simp;omega⟩ wV λi=>?_
 have hle:=i.le;have htl:=i.tl;refine wA 6 I ?_;refine Qn (t:=8) rfl (λhb8=>?_) λhb8=>?_
 ·refine QLi 7 I<|ZB I<|QLj 6 I<|QA (Kr I I O O)<|QJj I<|QA (Kr I I O O)<|QA (Qk I I O)<|QA (DR (i.m%10) (i.m%10+1) rfl rfl rfl XO (.inr rfl) (.inr rfl) O (by show i.m%10+1<=10;omega)) ?_
  rw[jT (Nat.mod_lt _ wv)];refine QJj I<|QA (XP I I tA)<|QLi 5 I<|QA (WO I I O O O)<|wB 2 I<|Qa ?_
  exact Qb (C9.next i (Or.inl (wm<|QK8 hb8):0<i.m\/i.t.length<least)) (by show i.m/10+(least-(i.t.length+1))<i.m+(least-i.t.length);rcases(Or.inl (wm<|QK8 hb8):0<i.m\/i.t.length<least)with g | g<;>omega)
 refine wB 3 I<|QA (Jx I XO)<|QLi 7 I ?_
 refine QL I (λhc=>?_) λhc=>?_
 ·refine QLj 6 I<|QA (Kr I I O O)<|QJj I<|QA (Kr I I O O)<|QA (Qk I I O)<|QA (DR (i.m%10) (i.m%10+1) rfl rfl rfl XO (.inr rfl) (.inr rfl) O (by show i.m%10+1<=10;omega)) ?_
  rw[jT (Nat.mod_lt _ wv)];refine QJj I<|QA (XP I I tA)<|QLi 5 I<|QA (WO I I O O O)<|wB 2 I<|Qa ?_
  exact Qb (C9.next i (Or.inr (wm<|QK8 hc):0<i.m\/i.t.length<least)) (by show i.m/10+(least-(i.t.length+1))<i.m+(least-i.t.length);rcases(Or.inr (wm<|QK8 hc):0<i.m\/i.t.length<least)with g | g<;>omega)
 refine Q7 ?_;refine wA 7 I ?_;exact QM () I (wO I) (congrArg tx (by have h1:=QK9 hb8;have h2:=QK9 hc;have h0:i.m=0:=O;rw[<-i.h,h0];simp[hd,Vd,show least-i.t.length=0 by omega,Lib.repeatL])) tB
section
variable{P:Program}{N:Nat}{m:Sl}{Y:World->Prop}{ty:TypeId}
def Rp(a:Addr):a.add 0=a:=by simp[Addr.add]
theorem IY{hi:Option Operand}{n c sz:Nat}{g:Bool}(h:Nat)(hx:ev m x=some (.slice q n c))(eh:Fw m hi=some vh)(hh:vh=some (.int .i64 (h:Int)))(hT:Ga P T=some e)(hs:Zd P e=some (g,sz))(hc:h<=c):
  Qt P N m Y (.slice T x none hi none) ty (.slice q h c):=λa w _ _ _ _ ha _=>by
 subst hh;have e1:q.map (λa=>a.add 0)=q:=by cases q<;>simp[Rp]
 have hrun:(Instr.slice T (.slice q n c) none (some (.int .i64 (h:Int))) none).run P w = .ok (.slice q h c) w:=by
  simp[Instr.slice,run_underlying (JR hT),Instr.sliceBounds,Instr.sliceBound,asIntOf,hc,Ys hs,e1]
 simp[execOp,ha.ev hx,ha.Fw eh,Instr.sliceAt,run_underlying (JR hT),hrun]
end
def JJ(F:Gs)(r:Sr)(l:List Int):Prop:=Qu F r.q r.n 1 (l.map Qs)/\l.length=r.n/\r.n<=r.cap
def JJ.le{r:Sr}(h:JJ F r l)(k:Gs.le F F'):JJ F' r l:=⟨h.1.le k,h.2⟩
instance{r:Sr}{l:List Int}: Up (λF=>JJ F r l):=⟨λk h=>JJ.le h k⟩
theorem Qu.take{n:Nat}(h:Qu F q n 1 (l.map Qs))(hl:l.length=n)(hk:k<=n):Qu F q k 1 ((l.take k).map Qs):=by
 refine⟨tA,λh0=>?_⟩;obtain⟨b,off,arr,T,e1,e2,e3⟩:=h.2 O;refine⟨b,off,arr,T,e1,e2,λj u hu=>e3 j u ?_⟩;rw[List.map_take]at hu;have hj:j<k:=by
  rcases Nat.lt_or_ge j k with g | g
  ·exact g
  rw[List.getElem?_eq_none tA]at hu;cases hu
 rw[List.getElem?_take_of_lt hj]at hu;exact hu
def IF(hk:k<l.length)(h:Q3 l=Q3 (l.take (k+1)))(h0:l[k]=0):Q3 l=Q3 (l.take k):=by
 rw[h,List.take_succ_eq_append_getElem hk,h0,YU]
def IE(hk:k<l.length)(h:Q3 l=Q3 (l.take (k+1)))(h0:l[k]≠0):Q3 l=l.take (k+1):=by
 rw[h,List.take_succ_eq_append_getElem hk,Wx _ h0]
structure cy(l:List Int) where
 k:Nat
 le:k<=l.length
 h:Q3 l=Q3 (l.take k)
theorem Wy{r:Sr}(hF:Fits F w)(hR:JJ F r l)(hl:l.length<=1000000000):QQ prog 228 [r.v] w F (λ(_:Unit)=>.slice r.q (Q3 l).length r.cap) (λ_ F=>JJ F ⟨r.q,(Q3 l).length,r.cap⟩ (Q3 l)):=by
 obtain⟨q,n,c⟩:=r;have hn:=hR.2.1;have hcap:=hR.2.2;dsimp only at hn hcap;refine QQ.go (G:=λF=>JJ F ⟨q,n,c⟩ l) func228 hF hR ?_;refine wA 7 I<|EY (ι:=cy l) (λi=>[(0,.slice q i.k c)]) (λ_=>[]) (λ_ F=>JJ F ⟨q,n,c⟩ l) (λi=>i.k) ⟨n,O,by rw[<-hn,List.take_length]⟩ wT λi=>?_
 have hle:=i.le;refine wA 4 I<|QA (QW I Qd)<|wB 2 I ?_
 refine Qn (t:=6) rfl (λhb6=>?_) λhb6=>?_
 ·have hk0:0<i.k:=wm<|QK8 hb6
  have hk1:i.k-1<l.length:=O;refine JM _ (λ_ _ f h=>h.1.ptr (by dsimp only;omega)) (λhq=>?_);obtain⟨qb,qo,hq⟩:=hq;dsimp only at hq;subst hq;refine wB 5 I<|QA (QW I Qd)<|QP I I<|QA (Jk I I O)<|QP I I<|QA (Qj (i:=i.k-1) rfl wN Qd QZ O)<|QP I I<|QA (XY (n:=n) (sz:=1) (cs:=l.map Qs) (u:=.int .i64 l[i.k-1]) I QZ tD O (by simp[hk1,Qs]))<|QLi 5 I ?_
  refine QL I (λhc=>?_) λhc=>?_
  ·refine QLj 6 I<|QA (QW I Qd)<|QA (Jk I I O)<|QA (IY (i.k-1) rfl rfl wN Qd QZ O)<|wB 2 I<|Qa ?_
   exact Qb (⟨i.k-1,O,IF hk1 (by rw[show i.k-1+1=i.k by omega];exact i.h) (by simpa using hc)⟩:cy l)
  refine Q7 ?_;refine wA 7 I ?_;exact QM () I (wO I) (congrArg (λk:Nat=>Value.slice _ k c) (by have e:=IE hk1 (by rw[show i.k-1+1=i.k by omega];exact i.h) (by simpa using hc);rw[show i.k-1+1=i.k by omega]at e;rw[e];simp;omega)) λF h=>by have hz:(Q3 l).length<=l.length:=Xn l;exact⟨(by have:=h.1.take hn (show(Q3 l).length<=n by omega);rw[<-Bh]at this;exact this),rfl,(by show(Q3 l).length<=c;omega)⟩
 refine QLi 10 I<|ZP I<|Q7 ?_
 refine wA 7 I ?_;exact QM () I (wO I) (congrArg (λk:Nat=>Value.slice _ k c) (by have h0:i.k=0:=(wm<|QK9 hb6);have e:=i.h;rw[h0]at e;simp[R4]at e;rw[e,h0];rfl)) λF h=>by have hz:(Q3 l).length<=l.length:=Xn l;exact⟨(by have:=h.1.take hn (show(Q3 l).length<=n by omega);rw[<-Bh]at this;exact this),rfl,(by show(Q3 l).length<=c;omega)⟩
theorem Qp.fix{w0:World}{F0:Gs}{bs1:List (Nat×Obj)}{G:Gs->Prop}{sz n:Nat}{v:Value}(hr:Qp T sz v n cs ob):
  ∃r:Sr,v=r.v/\r.n=n/\n<=r.cap/\∀w,St ⟨w0,F0,bs1++ob,G⟩ w->St ⟨w0,F0,bs1,λF=>G F/\Qu F r.q n sz cs⟩ w:=by
 cases hr with
 |nil=>exact⟨⟨Option.none,0,0⟩,rfl,rfl,Nat.le_refl _,λw hw=>by
   have:=hw.Bs (G':=λF=>G F/\Qu F Option.none 0 sz []) (λF h=>⟨h,Qu.nil F Option.none sz⟩);simpa using this⟩
 |some h1 h2 h3 h4 =>
  rename_i b cap rest;refine⟨⟨Option.some ⟨b,0,Option.none⟩,n,cap⟩,rfl,rfl,h3,λw hw=>?_⟩;have:=St.freeze (pre:=bs1) (post:=[]) (b:=b) hw;rw[List.append_nil]at this;refine this.Bs λF h=>⟨h.1,h1,λ_=>⟨b,0,_,T,rfl,h.2,λj u hu=>?_⟩⟩;have hj:j<cs.length:=by rcases Nat.lt_or_ge j cs.length with g | g;exact g;rw[List.getElem?_eq_none g]at hu;cases hu
  rw[Nat.zero_add];simp only[List.getElem?_toArray];rw[List.getElem?_append,if_pos hj];exact hu
theorem QFA{Q:Exit->Act->World->Prop}{e:Exit}{E:Env}(h:∀w,St E w->St E' w)(k:Fin Q e N m E'):Fin Q e N m E:=λa w ha hw=>k a w ha (h w hw)
theorem N8{r:Sr}{i:Nat}(hF:Fits F w)(hR:JJ F r l)(hi:i<=1000000000):QY prog 286 [r.v,.int .i64 (i:Int)] w F (.int .i64 (l.getD i 0)):=by
 obtain⟨q,n,c⟩:=r;have hn:=hR.2.1;dsimp only at hn;refine QQ.go (G:=λF=>JJ F ⟨q,n,c⟩ l) func286 hF hR ?_;dsimp only[Sr.v];refine wA 10 I<|QA (QW I Qd)<|QLi 3 I ?_
 refine QL I (λhc=>?_) λhc=>?_
 ·have hk1:i<l.length:=wm<|QK8 hc
  refine Xy _ (λ_ _ f h=>h.1.ptr (by dsimp only;omega)) (λhq=>?_);obtain⟨qb,qo,hq⟩:=hq;dsimp only at hq;subst hq;refine wA 4 I<|QA (Qj (i:=i) rfl rfl Qd QZ O)<|QA (XY (n:=n) (sz:=1) (cs:=l.map Qs) (u:=.int .i64 l[i]) I QZ tD O (by simp[hk1,Qs]))<|wR I<|QT ?_
  exact QM () I (wO I) (congrArg (Value.int .i64) (by simp[hk1])) tB
 refine QLj 8 I ?_;exact QM () I (wO I) (congrArg (Value.int .i64) (by have:=QK9 hc;simp[show l.length<=i by omega])) tB
def B9:Int:=1000000000
structure QFF(a b:List Int) where
 i:Nat
 out:List Int
 carry:Int
 v:Value
 ob:List (Nat×Obj)
 le:i<=max a.length b.length+1
 len:out.length=i
 dg:DG B9 out
 c0:0<=carry
 c1:carry<=1
 cz:max a.length b.length<i->carry=0
 h:dv B9 out+B9^i*carry=dv B9 (a.take i)+dv B9 (b.take i)
 hr:Qp 3 1 v out.length (out.map Qs) ob
def VA(B:Int)(l:List Int)(n:Nat):dv B (l.take (n+1))=dv B (l.take n)+B^n*l.getD n 0:=by
 rcases Nat.lt_or_ge n l.length with h | h
 ·rw[GC B l n h];simp[h]
 rw[List.take_of_length_le O,List.take_of_length_le h];simp[h]
def Mt(h:DG B9 l)(i:Nat):0<=l.getD i 0/\l.getD i 0<1000000000:=h.getD wv i
def SZ(h:l.length<=i):l.getD i 0=0:=by simp[h]
theorem QEy{a b out:List Int}{c s:Int}(hl:out.length=i)(h:dv B9 out+B9^i*c=dv B9 (a.take i)+dv B9 (b.take i))(hs:s=a.getD i 0+b.getD i 0+c):
  dv B9 (out++[s%B9])+B9^(i+1)*(s/B9)=dv B9 (a.take (i+1))+dv B9 (b.take (i+1)):=by
 rw[XW,hl,VA,VA,Int.pow_succ,Int.mul_assoc];have e:s%B9+B9*(s/B9)=s:=Int.emod_add_mul_ediv s B9;have e2:B9^i*(s%B9)+B9^i*(B9*(s/B9))=B9^i*s:=by rw[<-Int.mul_add,e]
 rw[Int.add_assoc,e2,hs,Int.mul_add,Int.mul_add];omega
abbrev Eb(P:Program)(f:FuncId)(args:List Value)(w:World)(F:Gs)(p:List Int->Prop):Prop:=QQ P f args w F (λ(c:Sr×List Int)=>.slice c.1.q c.1.n c.1.cap) λc F=>JJ F c.1 c.2/\DG B9 c.2/\p c.2
theorem TL{a b:List Int}(hF:Fits F w)(hA:JJ F ra a)(hB:JJ F rb b)(da:DG B9 a)(db:DG B9 b)(la:a.length<=100000000)(lb:b.length<=100000000):
  Eb prog 269 [ra.v,rb.v] w F (λl=>dv B9 l=dv B9 a+dv B9 b/\l.length<=max a.length b.length+1):=by
 have na:=hA.2.1;have nb:=hB.2.1;have h9:B9=1000000000:=rfl;refine QQ.go (G:=λF=>JJ F ra a/\JJ F rb b) func269 hF ⟨hA,hB⟩ ?_;refine wA 22 I ?_;refine KK (ι:=QFF a b) (λi=>[(0,ra.v),(1,rb.v),(5,i.v),(6,.int .i64 i.carry),(7,.int .i64 (i.i:Int))]) (λi=>i.ob) (λ_ F=>JJ F ra a/\JJ F rb b) (λi=>max a.length b.length+1-i.i)
  ⟨0,[],0,.slice none 0 0,[],Nat.zero_le _,rfl,DG.nil _,wv,wv,λ_=>rfl,w9,.nil⟩ wX tG tC λi=>?_
 have hle:=i.le;have hlen:=i.len;have hc0:=i.c0;have hc1:=i.c1;refine QG ?_;refine B0 22 (.bool (decide ((i.i:Int)<ra.n)||decide ((i.i:Int)<rb.n)||decide (i.carry>0))) ?_ ?_
 ·refine wA 3 I<|QA (QW I Qd)<|wB 2 I ?_
  refine Qn (t:=13) rfl (λhb13=>?_) λhb13=>?_
  ·refine wB 10 I ?_;exact X3 (exd 15 rfl rfl) (congrArg (λb=>some (Value.bool b)) (by rw[Bool.eq_iff_iff];simp_all;try omega)) QJ3 tC
  refine wB 5 I<|QA (QW I Qd)<|wB 4 I ?_
  refine Qn (t:=19) rfl (λhb19=>?_) λhb19=>?_
  ·refine wB 4 I ?_;exact X3 (exd 16 rfl rfl) (congrArg (λb=>some (Value.bool b)) (by rw[Bool.eq_iff_iff];simp_all;try omega)) QJ3 tC
  refine wB 6 I ?_;exact X3 (exd 16 rfl rfl) (congrArg (λb=>some (Value.bool b)) (by rw[Bool.eq_iff_iff];simp_all;try omega)) QJ3 tC
 refine QL I (λhc=>?_) λhc=>?_
 ·have hi:i.i<=max a.length b.length:=by
   rcases Nat.lt_or_ge (max a.length b.length) i.i with g | g
   ·have:=i.cz g;simp at hc;omega
   exact g
  have b1:=Mt da i.i;have b2:=Mt db i.i;refine QLj 8 I<|QJ I (λ_ _ f k=>N8 (r:=ra) (l:=a) f k.1 O) λ_=>wB 2 I<|QJ I (λ_ _ f k=>N8 (r:=rb) (l:=b) f k.1.2 O) λ_=>QA (Qk I I O)<|QJj I<|QA (Qk I I O)<|QLi 7 I<|QA (Kr I I O O)<|Qw I (JR Qd) QZ Hj I I λb37=>?_
  refine Zj (bs1:=[]) (ob:=i.ob) (k:=1) (sz:=1) (news:=[.int .i64 ((a.getD i.i 0+b.getD i.i 0+i.carry)%1000000000)]) I I Qd QZ Hj I Ws i.hr (Src.row (off:=0) tE (λj v hv=>by rw[Nat.zero_add];show([Value.int .i64 ((a.getD i.i 0+b.getD i.i 0+i.carry)%1000000000)].toArray)[j]?=some v;rw[List.getElem?_toArray];exact hv) rfl) O O (λu hu=>by rw[List.mem_singleton.1 hu];rfl) (λv' ob' hr'=>?_);refine QLi 5 I<|QA (WO I I O O O)<|wB 2 I<|Qa<|QLk 3 I<|QA (Qk I I O)<|wB 2 I ?_
  exact Qb (⟨i.i+1,i.out++[(a.getD i.i 0+b.getD i.i 0+i.carry)%B9],(a.getD i.i 0+b.getD i.i 0+i.carry)/B9,v',ob',O,by simp[hlen],i.dg.append (DG.cons (by rw[h9];omega) (by rw[h9];omega) (DG.nil _)),by rw[h9];omega,by rw[h9];omega,λg=>by rw[SZ (l:=a) O,SZ (l:=b) O,h9];omega,QEy hlen i.h I,by simpa[Qs,h9]using hr'⟩:QFF a b)
 refine Q7 ?_;refine wA 7 I ?_;obtain⟨r,hv,hrn,hrc,hfix⟩:=Qp.fix (w0:=w) (F0:=F) (bs1:=[]) (G:=λF=>JJ F ra a/\JJ F rb b) i.hr;refine QFA hfix ?_;have hex:max a.length b.length<=i.i/\i.carry=0:=by simp at hc;omega
 exact QM ((r,i.out):Sr×List Int) rfl (wO I) hv.symm λF h=>⟨⟨by rw[hrn];exact h.2,hrn.symm,by show r.n<=r.cap;omega⟩,i.dg,by have e:=i.h;rw[hex.2,List.take_of_length_le O,List.take_of_length_le O]at e;simpa using e,by show i.out.length<=_;omega⟩
structure QFE(a b:List Int) where
 k:Nat
 le:k<=a.length
 h:a.drop k=b.drop k
def Cc{a b:List Int}(ha:k<a.length)(hb:k<b.length)(h:a.drop (k+1)=b.drop (k+1))(e:a[k]=b[k]):a.drop k=b.drop k:=by
 rw[List.drop_eq_getElem_cons ha,List.drop_eq_getElem_cons hb,h,e]
theorem Wj{a b:List Int}(hF:Fits F w)(hA:JJ F ra a)(hB:JJ F rb b)(da:DG B9 a)(db:DG B9 b)(za:NZ a)(zb:NZ b)(la:a.length<=100000000)(lb:b.length<=100000000):
  QY prog 226 [ra.v,rb.v] w F (.int .i64 (Zb (dv B9 a) (dv B9 b))):=by
 have h91:(1:Int)<B9:=wv;have h90:(0:Int)<B9:=wv;obtain⟨q,n,c⟩:=ra;obtain⟨q',n',c'⟩:=rb;have na:=hA.2.1;have nb:=hB.2.1;dsimp only at na nb;refine QQ.go (G:=λF=>JJ F ⟨q,n,c⟩ a/\JJ F ⟨q',n',c'⟩ b) func226 hF ⟨hA,hB⟩ ?_;dsimp only[Sr.v];refine wA 9 I<|QA (QW I Qd)<|QJj I<|QA (QW I Qd)<|QLi 3 I ?_
 refine QL I (λhc=>?_) λhc=>?_
 ·refine wA 4 I<|QA (QW I Qd)<|QJj I<|QA (QW I Qd)<|QLi 3 I ?_
  refine QL I (λhc=>?_) λhc2=>?_
  ·refine wA 6 I ?_;exact QM () I (wO I) (congrArg (Value.int .i64) (WD (Xg h91 da db zb (by simp at hc;omega)))) tB
  refine QLj 8 I ?_;exact QM () I (wO I) (congrArg (Value.int .i64) (Hw (Xg h91 db da za (by simp at hc hc2;omega)))) tB
 refine QLj 6 I<|QA (QW I Qd)<|QA (Jk I I O)<|QLi 3 I ?_
 have hab:n=n':=by simp at hc;omega
 refine QO<|EY (ι:=QFE a b) (λi=>[(0,.slice q n c),(1,.slice q' n' c'),(5,.int .i64 ((i.k:Int)-1))]) (λ_=>[]) (λ_ F=>JJ F ⟨q,n,c⟩ a/\JJ F ⟨q',n',c'⟩ b) (λi=>i.k) ⟨n,O,by rw[List.drop_eq_nil_of_le O,List.drop_eq_nil_of_le O]⟩ wV λi=>?_
 have hle:=i.le;refine wA 7 I ?_;refine QL I (λhc=>?_) λhc=>?_
 ·refine QLj 6 I ?_;have hk0:0<i.k:=wm<|QK8 hc
  have hka:i.k-1<a.length:=O;have hkb:i.k-1<b.length:=O;refine Xy _ (λ_ _ f h=>h.1.1.ptr (by dsimp only;omega)) (λhq=>?_);obtain⟨qb,qo,hq⟩:=hq;dsimp only at hq;subst hq;refine Xy _ (λ_ _ f h=>h.2.1.ptr (by dsimp only;omega)) (λhq=>?_);obtain⟨qb',qo',hq⟩:=hq;dsimp only at hq;subst hq;refine JC QJ3 mixed wu<|QI (QD I)<|QI (QD I)<|QI (Qj (i:=i.k-1) rfl wN Qd QZ O)<|QI (XY (n:=n) (sz:=1) (cs:=a.map Qs) (u:=.int .i64 a[i.k-1]) I QZ (λF h=>h.1.1) O (by simp[hka,Qs]))<|QI (QD I)<|QI (QD I)<|QI (Qj (i:=i.k-1) rfl wN Qd QZ O)<|QI (XY (n:=n') (sz:=1) (cs:=b.map Qs) (u:=.int .i64 b[i.k-1]) I QZ (λF h=>h.2.1) O (by simp[hkb,Qs]))<|QI (QR I I I)<|Qv<|QC ?_
  refine QL I (λhc=>?_) λhca=>?_
  ·refine wA 5 I<|X6 ?_
   exact QM () I (wO I) (congrArg (Value.int .i64) (WD (To h90 da db O (i.k-1) hka (by rw[show i.k-1+1=i.k by omega];exact i.h) (QK8 hc)))) tB
  refine QLj 3 I<|JC QJ3 mixed wu<|QI (QD I)<|QI (QD I)<|QI (Qj (i:=i.k-1) rfl wN Qd QZ O)<|QI (XY (n:=n) (sz:=1) (cs:=a.map Qs) (u:=.int .i64 a[i.k-1]) I QZ (λF h=>h.1.1) O (by simp[hka,Qs]))<|QI (QD I)<|QI (QD I)<|QI (Qj (i:=i.k-1) rfl wN Qd QZ O)<|QI (XY (n:=n') (sz:=1) (cs:=b.map Qs) (u:=.int .i64 b[i.k-1]) I QZ (λF h=>h.2.1) O (by simp[hkb,Qs]))<|QI (QR I I I)<|Qv<|QC ?_
  refine QL I (λhc=>?_) λhcb=>?_
  ·refine wA 5 I<|X6 ?_
   exact QM () I (wO I) (congrArg (Value.int .i64) (Hw (To h90 db da O (i.k-1) hkb (by rw[show i.k-1+1=i.k by omega];exact i.h.symm) (QK8 hc)))) tB
  refine QK<|Qa<|QLk 3 I<|QA (Jk I I O)<|wB 2 I ?_
  exact Qb (⟨i.k-1,O,Cc hka hkb (by rw[show i.k-1+1=i.k by omega];exact i.h) (by simp at hca hcb;omega)⟩:QFE a b) (hm:=⟨rfl,rfl,congrArg (λz:Int=>some (Value.int .i64 z)) (by dsimp only;omega),trivial⟩)
 refine Q7 ?_;refine wA 6 I ?_;exact QM () I (wO I) (congrArg (Value.int .i64) (by have h0:i.k=0:=(wm<|QK9 hc);have e:=i.h;rw[h0]at e;simp at e;rw[e];exact Mz _)) tB
theorem Hh{Q:Exit->Act->World->Prop}{c:Code}{E:Env}(h:∀w,St E w->St E' w)(k:J P c Q N m E'):J P c Q N m E:=λa w ha hw=>k a w ha (h w hw)
def uH{a b out:List Int}{c c' d:Int}(hl:out.length=i)(h:dv B9 out+dv B9 (b.take i)=dv B9 (a.take i)+B9^i*c)(hd:d=a.getD i 0-b.getD i 0-c+B9*c'):
  dv B9 (out++[d])+dv B9 (b.take (i+1))=dv B9 (a.take (i+1))+B9^(i+1)*c':=by
 rw[XW,hl,VA,VA,Int.pow_succ,Int.mul_assoc,hd,Int.mul_add,Int.mul_sub,Int.mul_sub];omega
structure QBZ(a b:List Int) where
 i:Nat
 out:List Int
 borrow:Int
 v:Value
 ob:List (Nat×Obj)
 le:i<=a.length
 len:out.length=i
 dg:DG B9 out
 c0:0<=borrow
 c1:borrow<=1
 h:dv B9 out+dv B9 (b.take i)=dv B9 (a.take i)+B9^i*borrow
 hr:Qp 3 1 v out.length (out.map Qs) ob
def vP{a b out:List Int}{c:Int}(da:DG B9 out)(hl:out.length=a.length)(hb:b.length<=a.length)(h:dv B9 out+dv B9 (b.take a.length)=dv B9 (a.take a.length)+B9^a.length*c)(h0:0<=c)(h1:c<=1)(hle:dv B9 b<=dv B9 a):dv B9 out=dv B9 a-dv B9 b:=by
 rw[List.take_length,List.take_of_length_le hb]at h;have hlt:=Z9 (b:=B9) wv da;rw[hl]at hlt;have hc:c=0\/c=1:=O;rcases hc with rfl | rfl
 ·rw[Int.mul_zero]at h;omega
 rw[Int.mul_one]at h;omega
theorem DN{a b:List Int}(hF:Fits F w)(hA:JJ F ra a)(hB:JJ F rb b)(da:DG B9 a)(db:DG B9 b)(la:a.length<=100000000)(lb:b.length<=a.length)(hle:dv B9 b<=dv B9 a):
  Eb prog 270 [ra.v,rb.v] w F (λl=>dv B9 l=dv B9 a-dv B9 b/\NZ l/\l.length<=a.length):=by
 obtain⟨q,n,c⟩:=ra;have na:=hA.2.1;have nb:=hB.2.1;dsimp only at na;have h9:B9=1000000000:=rfl;refine QQ.go (G:=λF=>JJ F ⟨q,n,c⟩ a/\JJ F rb b) func270 hF ⟨hA,hB⟩ ?_;dsimp only[Sr.v];refine wA 22 I ?_;refine KK (ι:=QBZ a b) (λi=>[(0,.slice q n c),(1,.slice rb.q rb.n rb.cap),(5,i.v),(6,.int .i64 i.borrow),(7,.int .i64 (i.i:Int))]) (λi=>i.ob) (λ_ F=>JJ F ⟨q,n,c⟩ a/\JJ F rb b) (λi=>a.length-i.i)
  ⟨0,[],0,.slice none 0 0,[],Nat.zero_le _,rfl,DG.nil _,wv,wv,w9,.nil⟩ wX tG tC λi=>?_
 have hile:=i.le;have hlen:=i.len;have hc0:=i.c0;have hc1:=i.c1;refine wA 5 I<|QA (QW I Qd)<|QLi 3 I ?_
 refine QL I (λhc=>?_) λhc=>?_
 ·have hi:i.i<n:=wm<|QK8 hc
  have hia:i.i<a.length:=O;have b1:=Mt da i.i;have b2:=Mt db i.i;have e1:a[i.i]=a.getD i.i 0:=by simp[hia]
  refine Xy _ (λ_ _ f h=>h.1.1.ptr (by dsimp only;omega)) (λhq=>?_);obtain⟨qb,qo,hq⟩:=hq;dsimp only at hq;subst hq;refine QLj 5 I<|JC QJ3 mixed wu<|QI (QD I)<|QI (QD I)<|QI (Qj (i:=i.i) rfl rfl Qd QZ O)<|QI (XY (n:=n) (sz:=1) (cs:=a.map Qs) (u:=.int .i64 (a.getD i.i 0)) I QZ (λF h=>h.1.1) O (by simp[hia,Qs]))<|QI (QD I)<|QI (QD I)<|QV I (λ_ _ f k=>N8 (r:=rb) (l:=b) f k.2 O) λ_=>QI (Jk I I O)<|QI (QD I)<|QI (Jk I I O)<|QI (QE I)<|Qv<|QLk 13 I ?_
  refine QL I (λhs=>?_) λhs=>?_
  ·refine wS I<|QA (Qk I I O)<|wR I<|QB<|QLi 6 I<|Qw I (JR Qd) QZ Hj I I λb31=>?_
   refine Zj (bs1:=[]) (ob:=i.ob) (k:=1) (sz:=1) (news:=[.int .i64 ((a.getD i.i 0-b.getD i.i 0-i.borrow)+1000000000)]) I I Qd QZ Hj I Ws i.hr (Src.row (off:=0) tE (λj v hv=>by rw[Nat.zero_add];show([Value.int .i64 ((a.getD i.i 0-b.getD i.i 0-i.borrow)+1000000000)].toArray)[j]?=some v;rw[List.getElem?_toArray];exact hv) rfl) O O (λu hu=>by rw[List.mem_singleton.1 hu];rfl) (λv' ob' hr'=>?_);refine wB 2 I<|Qa<|QLk 3 I<|QA (Qk I I O)<|wB 2 I ?_
   exact Qb (⟨i.i+1,i.out++[((a.getD i.i 0-b.getD i.i 0-i.borrow)+1000000000)],1,v',ob',O,by simp[hlen],i.dg.append (DG.cons (wm<|QK8 hs) (by have:=QK8 hs;rw[h9];omega) (DG.nil _)),wv,wv,uH hlen i.h (by rw[h9];omega),by simpa[Qs]using hr'⟩:QBZ a b)
  refine QLj 5 I<|Qw I (JR Qd) QZ Hj I I λb31=>?_
  refine Zj (bs1:=[]) (ob:=i.ob) (k:=1) (sz:=1) (news:=[.int .i64 (a.getD i.i 0-b.getD i.i 0-i.borrow)]) I I Qd QZ Hj I Ws i.hr (Src.row (off:=0) tE (λj v hv=>by rw[Nat.zero_add];show([Value.int .i64 (a.getD i.i 0-b.getD i.i 0-i.borrow)].toArray)[j]?=some v;rw[List.getElem?_toArray];exact hv) rfl) O O (λu hu=>by rw[List.mem_singleton.1 hu];rfl) (λv' ob' hr'=>?_);refine wB 2 I<|Qa<|QLk 3 I<|QA (Qk I I O)<|wB 2 I ?_
  exact Qb (⟨i.i+1,i.out++[(a.getD i.i 0-b.getD i.i 0-i.borrow)],0,v',ob',O,by simp[hlen],i.dg.append (DG.cons (wm<|QK9 hs) (by have:=QK9 hs;rw[h9];omega) (DG.nil _)),wv,wv,uH hlen i.h (by rw[h9];omega),by simpa[Qs]using hr'⟩:QBZ a b)
 refine Q7 ?_;refine QG ?_;obtain⟨r,hv,hrn,hrc,hfix⟩:=Qp.fix (w0:=w) (F0:=F) (bs1:=[]) (G:=λF=>JJ F ⟨q,n,c⟩ a/\JJ F rb b) i.hr;have hex:i.i=a.length:=wm<|QK9 hc
 have hlz:=Xn i.out;refine Hh hfix ?_;rw[hv];refine wA 2 I<|QJ I (λ_ _ f k=>Wy (r:=r) (l:=i.out) f ⟨by rw[hrn];exact k.2,hrn.symm,O⟩ O) λc34=>wR I<|QT ?_
 exact QM ((⟨r.q,(Q3 i.out).length,r.cap⟩,Q3 i.out):Sr×List Int) rfl (wO I) rfl λF h=>⟨h.2,i.dg.Q3,by show dv B9 (Q3 i.out)=_;rw[XB];exact vP i.dg O lb (by have e:=i.h;rw[hex]at e;exact e) hc0 hc1 hle,Xi _,by show(Q3 i.out).length<=_;omega⟩
theorem KC.one{l:List Value}{v:Value}:∀ {n:Nat},n<l.length->KC l n [v] (l.set n v):=by
 induction l with
 |nil=>simp
 |cons x l ih =>
  intro n h;cases n with
  |zero=>exact .here .nil
  |succ n=>exact .skip (ih (by simp_all))
def Hf(la lb:List Int)(i j:Nat)(x:Int)(o:List Int)(c:Int):Prop :=
 o.length=la.length+lb.length/\DG B9 o/\(∀p,i+lb.length<=p->Qc o p=0)/\(0<=c/\c<B9) /\
  dv B9 o+B9^(i+j)*c=dv B9 (la.take i)*dv B9 lb+B9^i*(x*dv B9 (lb.take j))
def JE:(0:Int)<B9:=wv
theorem OA{x y o c:Int}(hx:0<=x/\x<B9)(hy:0<=y/\y<B9)(ho:0<=o/\o<B9)(hc:0<=c/\c<B9):0<=x*y/\x*y<=999999998000000001/\0<=o+x*y+c/\(o+x*y+c)/B9<B9:=by
 have h9:B9=1000000000:=rfl;have h0:=Int.mul_nonneg hx.1 hy.1;have h1:x*y<=(B9-1)*(B9-1):=Int.mul_le_mul O O hy.1 O
 grind
theorem Hf.step{o:List Int}{x c s:Int}(h:Hf la lb i j x o c)(hx:0<=x/\x<B9)(hb:DG B9 lb)(hj:j<lb.length)(hi:i<la.length)(hs:s=Qc o (i+j)+x*Qc lb j+c):
  Hf la lb i (j+1) x (o.set (i+j) (s%B9)) (s/B9):=by
 obtain⟨h1,h2,h3,h4,h5⟩:=h;obtain⟨m0,m1,m2,m3⟩:=OA hx (hb.Qc JE j) (h2.Qc JE _) h4;rw[<-hs]at m2 m3;refine⟨by simp_all,h2.set _ (Int.emod_nonneg _ wv) (Int.emod_lt_of_pos _ JE),?_,⟨Int.ediv_nonneg m2 wv,m3⟩,?_⟩
 ·intro p hp;rw[VC O,if_neg O];simp_all
 rw[HM B9 O,Vl,<-Nat.add_assoc,Int.pow_succ]
 grind[B9,Int.emod_add_mul_ediv,Qc,Int.pow_add]
theorem Hf.row{o:List Int}{x c:Int}(h:Hf la lb i lb.length x o c)(hi:i<la.length)(hx:x=Qc la i):
  Hf la lb (i+1) 0 0 (o.set (i+lb.length) c) 0:=by
 obtain⟨h1,h2,h3,h4,h5⟩:=h;refine⟨by simp_all,h2.set _ h4.1 h4.2,?_,⟨Int.le_refl _,JE⟩,?_⟩
 ·intro p hp;rw[VC O,if_neg O];grind
 rw[HM B9 O,h3 _ (Nat.le_refl _),Vl,<-hx]
 grind
def Hf.start(la lb:List Int):Hf la lb 0 0 0 (List.replicate (la.length+lb.length) 0) 0:=by
 refine⟨w9,DG.replicate JE _,?_,⟨Int.le_refl _,JE⟩,by simp[Ph]⟩;simp[Qc]
theorem Hf.next{o:List Int}(h:Hf la lb i 0 0 o 0)(x:Int):Hf la lb i 0 x o 0:=by
 obtain⟨h1,h2,h3,h4,h5⟩:=h;exact⟨h1,h2,h3,h4,by simp_all⟩
theorem Hf.stop{o:List Int}(h:Hf la lb i 0 0 o 0)(hi:la.length<=i):dv B9 o=dv B9 la*dv B9 lb:=by
 have e:=h.2.2.2.2
 grind[List.take_of_length_le]
end Go.Proofs.YteldggljlnakmaaGreatDoor
