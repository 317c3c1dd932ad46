/- Steps of the proof of the theorem in the last file. -/
import Derived.Test.YtjcphjpkimmmjaaGreatDoorE0XCt
set_option linter.all false
set_option maxHeartbeats 4000000
open Go.Proofs.Tryz
open Go.Value renaming bool → aa,int → au,okWide → eC,agg → eQ
open List renaming cons_append → ab,nil_append → ae,length_cons → ah,length_map → aj,length_append → ak,mem_map_of_mem → aq,flatMap_append → aA,all_eq_true → aB,length_range → aH,perm_append_comm → aI,getElem?_toArray → aJ,take_length → aK,length_drop → aL,mem_of_mem_take → aM,mem_cons_of_mem → aN,getElem_of_mem → aP,foldl_append → aT,append_nil → aU,mem_of_mem_drop → aV,drop_succ_cons → aY,map_map → aZ,flatMap_cons → ba,Sublist → bc,not_mem_nil → bm,length_take → bp,map_append → bB,length_set → bC,mem_cons → bG,getElem?_eq_getElem → bH,take_of_length_le → bI,map_id → bN,map_congr_left → bT,getElem?_map → bZ,getElem_mem → ee,range_succ → ep,foldl_cons → er,take_zero → eu,map_take → ey,length → eL,range → eP
open Bool renaming eq_iff_iff → af,and_eq_true → ar,not_not → av,or_eq_false_iff → ay,not_eq_false' → aD,and_false → aW,not_eq_true' → bh
open Nat renaming le_trans → ag,le_refl → ai,zero_le → ax,lt_of_lt_of_le → aE,pow_one → aG,mul_le_mul_right → aO,zero_add → aR,mul_le_mul → aS,add_mul → aX,zero_mul → bj,le_max_right → bw,pow_add → bA,not_lt_zero → bD,le_max_left → bF,pow_zero → bL,pow_mul → bO,pow_le_pow_right → bP,one_pos → bQ,mul_pos → bR,mul_one → bS,pow_le_pow_left → bW,add_le_add_left → bX,lt_of_not_le → ei,mul_assoc → eD,add_assoc → eE,lt_or_ge → eG,dvd_refl → eH,add_zero → eI,add_comm → eK,pow_pos → eO
open Go.Lib renaming decDigits → ao,decDigits_length → bU
open List.Sublist renaming refl → aC
open Int renaming natAbs_natCast → aF,natCast_mul → aQ,lt_or_le → bM,natAbs_mul → eB
open List.cons renaming inj → bz
open Rat renaming pow_zero → bJ,le_trans → bK,mkRat_self → ew,le_refl → eN
open Go.DataW renaming trod → bV,Trod → eM
open Option renaming map_some → bY
open Go.Instr renaming slice → eF
namespace Go.Proofs.YtjcphjpkimmmjaaGreatDoor
variable{w:World}{F:Gs}{s:List UInt8}{a:Rat×Rat}{D E S T Z b c cap i k m n:Nat}{l:List (List UInt8×List UInt8)}{y:Xz}{bs vb:List XP}{ks:List Int}{ps:List V0}{rb:Sr}
open Go.RowKit Ig
theorem QEo(hF:Fits F w)(hl:s.length<=9223372036854775807):Qf prog 116 [tx s] w F (.bool (cN s)):=by
 refine QU.intro (G:=λF=>True) func116 rfl tH rfl rfl hF tL<|wa<|wZ rfl<|QG<|wa<|wZ rfl<|QV<|J9 (ι:=Wo s λc=>EK c.toNat) [(0,_)] (λi=>[(3,.int .i64 ((i.i:Nat):Int))]) (λi=>s.length-i.i) (Wo.start _ _) wk wk λi=>?_
 simp only[ab,ae];have hle:=i.le;refine wA 5 I<|QA (Xc I Zm)<|wD 3 I ?_
 refine QQ I (λhc=>?_) λhc=>?_
 ·have hi:i.i<s.length:=tD<|wi hc
  refine wC 8 I<|QA (Hh (i:=i.i) rfl rfl Zm hi) ?_
  obtain⟨c,hce⟩:∃c,c=s[i.i].toNat:=⟨_,rfl⟩;rw[<-hce];refine wD 3 I ?_;refine ZZ [(0,_),(3,_)] [(48,.bool ((!EK c)))] wm ?_ ?_
  ·refine wA 4 I ?_;refine Qn (t:=16) rfl (λhb16=>?_) λhb16=>?_
   ·refine wB 6 I ?_;refine Qn (t:=20) rfl (λhb20=>?_) λhb20=>?_
    ·refine wB 3 I<|Jn I I<|Jn I I<|wB 6 I<|Jn I I<|Jn I I<|wB 12 I ?_
     refine wB 2 I<|QA (XL I)<|QE ?_
     exact JY ⟨rfl,rfl,(congrArg (λb=>some (aa b)) (by clear hce;rw[af];simp_all [EK,Yp]<;>omega)),trivial⟩ we tM
    refine wB 6 I ?_;refine Qn (t:=23) rfl (λhb23=>?_) λhb23=>?_
    ·refine wB 8 I ?_;refine Qn (t:=28) rfl (λhb28=>?_) λhb28=>?_
     ·refine wB 3 I<|Jn I I<|Jn I I<|wB 14 I<|QA (XL I)<|QE ?_
      exact JY ⟨rfl,rfl,(congrArg (λb=>some (aa b)) (by clear hce;rw[af];simp_all [EK,Yp]<;>omega)),trivial⟩ we tM
     refine wB 6 I ?_;refine Qn (t:=31) rfl (λhb31=>?_) λhb31=>?_
     ·refine wB 8 I ?_;refine Qn (t:=36) rfl (λhb36=>?_) λhb36=>?_
      ·refine wB 11 I<|QA (XL I)<|QE ?_
       exact JY ⟨rfl,rfl,(congrArg (λb=>some (aa b)) (by clear hce;rw[af];simp_all [EK,Yp]<;>omega)),trivial⟩ we tM
      refine wB 6 I ?_;refine Qn (t:=40) rfl (λhb40=>?_) λhb40=>?_
      ·refine wB 7 I<|QA (XL I)<|QE ?_
       exact JY ⟨rfl,rfl,(congrArg (λb=>some (aa b)) (by clear hce;rw[af];simp_all [EK,Yp]<;>omega)),trivial⟩ we tM
      refine wB 6 I ?_;refine Qn (t:=44) rfl (λhb44=>?_) λhb44=>?_
      ·refine wB 3 I<|QA (XL I)<|QE ?_
       exact JY ⟨rfl,rfl,(congrArg (λb=>some (aa b)) (by clear hce;rw[af];simp_all [EK,Yp]<;>omega)),trivial⟩ we tM
      refine wB 5 I<|QA (XL I)<|QE ?_
      exact JY ⟨rfl,rfl,(congrArg (λb=>some (aa b)) (by clear hce;rw[af];simp_all [EK,Yp]<;>omega)),trivial⟩ we tM
     refine wB 12 I ?_;refine Qn (t:=40) rfl (λhb40=>?_) λhb40=>?_
     ·refine wB 7 I<|QA (XL I)<|QE ?_
      exact JY ⟨rfl,rfl,(congrArg (λb=>some (aa b)) (by clear hce;rw[af];simp_all [EK,Yp]<;>omega)),trivial⟩ we tM
     refine wB 6 I ?_;refine Qn (t:=44) rfl (λhb44=>?_) λhb44=>?_
     ·refine wB 3 I<|QA (XL I)<|QE ?_
      exact JY ⟨rfl,rfl,(congrArg (λb=>some (aa b)) (by clear hce;rw[af];simp_all [EK,Yp]<;>omega)),trivial⟩ we tM
     refine wB 5 I<|QA (XL I)<|QE ?_
     exact JY ⟨rfl,rfl,(congrArg (λb=>some (aa b)) (by clear hce;rw[af];simp_all [EK,Yp]<;>omega)),trivial⟩ we tM
    refine wB 12 I ?_;refine Qn (t:=31) rfl (λhb31=>?_) λhb31=>?_
    ·refine wB 8 I ?_;refine Qn (t:=36) rfl (λhb36=>?_) λhb36=>?_
     ·refine wB 11 I<|QA (XL I)<|QE ?_
      exact JY ⟨rfl,rfl,(congrArg (λb=>some (aa b)) (by clear hce;rw[af];simp_all [EK,Yp]<;>omega)),trivial⟩ we tM
     refine wB 6 I ?_;refine Qn (t:=40) rfl (λhb40=>?_) λhb40=>?_
     ·refine wB 7 I<|QA (XL I)<|QE ?_
      exact JY ⟨rfl,rfl,(congrArg (λb=>some (aa b)) (by clear hce;rw[af];simp_all [EK,Yp]<;>omega)),trivial⟩ we tM
     refine wB 6 I ?_;refine Qn (t:=44) rfl (λhb44=>?_) λhb44=>?_
     ·refine wB 3 I<|QA (XL I)<|QE ?_
      exact JY ⟨rfl,rfl,(congrArg (λb=>some (aa b)) (by clear hce;rw[af];simp_all [EK,Yp]<;>omega)),trivial⟩ we tM
     refine wB 5 I<|QA (XL I)<|QE ?_
     exact JY ⟨rfl,rfl,(congrArg (λb=>some (aa b)) (by clear hce;rw[af];simp_all [EK,Yp]<;>omega)),trivial⟩ we tM
    refine wB 12 I ?_;refine Qn (t:=40) rfl (λhb40=>?_) λhb40=>?_
    ·refine wB 7 I<|QA (XL I)<|QE ?_
     exact JY ⟨rfl,rfl,(congrArg (λb=>some (aa b)) (by clear hce;rw[af];simp_all [EK,Yp]<;>omega)),trivial⟩ we tM
    refine wB 6 I ?_;refine Qn (t:=44) rfl (λhb44=>?_) λhb44=>?_
    ·refine wB 3 I<|QA (XL I)<|QE ?_
     exact JY ⟨rfl,rfl,(congrArg (λb=>some (aa b)) (by clear hce;rw[af];simp_all [EK,Yp]<;>omega)),trivial⟩ we tM
    refine wB 5 I<|QA (XL I)<|QE ?_
    exact JY ⟨rfl,rfl,(congrArg (λb=>some (aa b)) (by clear hce;rw[af];simp_all [EK,Yp]<;>omega)),trivial⟩ we tM
   refine wB 10 I ?_;refine Qn (t:=23) rfl (λhb23=>?_) λhb23=>?_
   ·refine wB 8 I ?_;refine Qn (t:=28) rfl (λhb28=>?_) λhb28=>?_
    ·refine wB 3 I<|Jn I I<|Jn I I<|wB 14 I<|QA (XL I)<|QE ?_
     exact JY ⟨rfl,rfl,(congrArg (λb=>some (aa b)) (by clear hce;rw[af];simp_all [EK,Yp]<;>omega)),trivial⟩ we tM
    refine wB 6 I ?_;refine Qn (t:=31) rfl (λhb31=>?_) λhb31=>?_
    ·refine wB 8 I ?_;refine Qn (t:=36) rfl (λhb36=>?_) λhb36=>?_
     ·refine wB 11 I<|QA (XL I)<|QE ?_
      exact JY ⟨rfl,rfl,(congrArg (λb=>some (aa b)) (by clear hce;rw[af];simp_all [EK,Yp]<;>omega)),trivial⟩ we tM
     refine wB 6 I ?_;refine Qn (t:=40) rfl (λhb40=>?_) λhb40=>?_
     ·refine wB 7 I<|QA (XL I)<|QE ?_
      exact JY ⟨rfl,rfl,(congrArg (λb=>some (aa b)) (by clear hce;rw[af];simp_all [EK,Yp]<;>omega)),trivial⟩ we tM
     refine wB 6 I ?_;refine Qn (t:=44) rfl (λhb44=>?_) λhb44=>?_
     ·refine wB 3 I<|QA (XL I)<|QE ?_
      exact JY ⟨rfl,rfl,(congrArg (λb=>some (aa b)) (by clear hce;rw[af];simp_all [EK,Yp]<;>omega)),trivial⟩ we tM
     refine wB 5 I<|QA (XL I)<|QE ?_
     exact JY ⟨rfl,rfl,(congrArg (λb=>some (aa b)) (by clear hce;rw[af];simp_all [EK,Yp]<;>omega)),trivial⟩ we tM
    refine wB 12 I ?_;refine Qn (t:=40) rfl (λhb40=>?_) λhb40=>?_
    ·refine wB 7 I<|QA (XL I)<|QE ?_
     exact JY ⟨rfl,rfl,(congrArg (λb=>some (aa b)) (by clear hce;rw[af];simp_all [EK,Yp]<;>omega)),trivial⟩ we tM
    refine wB 6 I ?_;refine Qn (t:=44) rfl (λhb44=>?_) λhb44=>?_
    ·refine wB 3 I<|QA (XL I)<|QE ?_
     exact JY ⟨rfl,rfl,(congrArg (λb=>some (aa b)) (by clear hce;rw[af];simp_all [EK,Yp]<;>omega)),trivial⟩ we tM
    refine wB 5 I<|QA (XL I)<|QE ?_
    exact JY ⟨rfl,rfl,(congrArg (λb=>some (aa b)) (by clear hce;rw[af];simp_all [EK,Yp]<;>omega)),trivial⟩ we tM
   refine wB 12 I ?_;refine Qn (t:=31) rfl (λhb31=>?_) λhb31=>?_
   ·refine wB 8 I ?_;refine Qn (t:=36) rfl (λhb36=>?_) λhb36=>?_
    ·refine wB 11 I<|QA (XL I)<|QE ?_
     exact JY ⟨rfl,rfl,(congrArg (λb=>some (aa b)) (by clear hce;rw[af];simp_all [EK,Yp]<;>omega)),trivial⟩ we tM
    refine wB 6 I ?_;refine Qn (t:=40) rfl (λhb40=>?_) λhb40=>?_
    ·refine wB 7 I<|QA (XL I)<|QE ?_
     exact JY ⟨rfl,rfl,(congrArg (λb=>some (aa b)) (by clear hce;rw[af];simp_all [EK,Yp]<;>omega)),trivial⟩ we tM
    refine wB 6 I ?_;refine Qn (t:=44) rfl (λhb44=>?_) λhb44=>?_
    ·refine wB 3 I<|QA (XL I)<|QE ?_
     exact JY ⟨rfl,rfl,(congrArg (λb=>some (aa b)) (by clear hce;rw[af];simp_all [EK,Yp]<;>omega)),trivial⟩ we tM
    refine wB 5 I<|QA (XL I)<|QE ?_
    exact JY ⟨rfl,rfl,(congrArg (λb=>some (aa b)) (by clear hce;rw[af];simp_all [EK,Yp]<;>omega)),trivial⟩ we tM
   refine wB 12 I ?_;refine Qn (t:=40) rfl (λhb40=>?_) λhb40=>?_
   ·refine wB 7 I<|QA (XL I)<|QE ?_
    exact JY ⟨rfl,rfl,(congrArg (λb=>some (aa b)) (by clear hce;rw[af];simp_all [EK,Yp]<;>omega)),trivial⟩ we tM
   refine wB 6 I ?_;refine Qn (t:=44) rfl (λhb44=>?_) λhb44=>?_
   ·refine wB 3 I<|QA (XL I)<|QE ?_
    exact JY ⟨rfl,rfl,(congrArg (λb=>some (aa b)) (by clear hce;rw[af];simp_all [EK,Yp]<;>omega)),trivial⟩ we tM
   refine wB 5 I<|QA (XL I)<|QE ?_
   exact JY ⟨rfl,rfl,(congrArg (λb=>some (aa b)) (by clear hce;rw[af];simp_all [EK,Yp]<;>omega)),trivial⟩ we tM
  simp only[ab,ae];refine QQ I (λhc=>?_) λhc=>?_
  ·have hbad:EK (el s i.i).toNat=false:=by rw[Jb hi,<-hce];simpa using hc
   refine wA 6 I ?_
   repeat first|refine Q6 ?_|refine Qv ?_
   exact wg I I (congrArg aa (by unfold cN;rw[i.hit hi hbad];rfl)) tL
  have hcg:=hc;refine QN<|Qj<|wE 3 I<|QA (Qu I I O)<|wB 2 I ?_
  exact Ql (i.next hi (by rw[Jb hi,<-hce];simpa using hcg)) (by show s.length-(i.i+1)<s.length-i.i;omega) wm we tM
 have hge:s.length<=i.i:=tD<|wj hc
 refine Qx ?_
 repeat first|refine QY ?_|refine QO tH ?_
 refine QZ<|wE 4 I<|QA (Xc I Zm)<|wB 2 I ?_
 refine Qn (t:=52) rfl (λhb52=>?_) λhb52=>?_
 ·refine wB 3 I<|QA (Xc I Zm)<|wD 7 I ?_
  exact wg I I (congrArg aa (by unfold cN;rw[i.stop hge];rw[af];simp at *;simp_all<;>omega)) tL
 refine wD 8 I ?_;exact wg I I (congrArg aa (by unfold cN;rw[i.stop hge];rw[af];simp at *;simp_all<;>omega)) tL
def vH(u:Nat){k:Nat}(hk:0<k)(h:(ao u).length<=k):sz (u:Int)<=4*k:=by
 rw[bU]at h;rw[XD,aF];have h1:¬10^k<=u:=λe=>tD ((RP (u:=u) hk).2 e);have h2:10^k<=16^k:=bW tF _;have h3:(16:Nat)^k=2^(4*k):=by rw[bO]
 rw[<-h3];exact aE (ei h1) h2
def QCf(z:Int){k:Nat}(hk:0<k)(h:(Ze z).length<=k):sz z<=4*k:=by
 have e:sz z=sz (z.natAbs:Int):=by unfold sz;simp
 rw[e];refine vH _ hk ?_;rcases bM z 0 with g | g
 ·rw[Yo g,ah]at h;omega
 rwa [XJ g]at h
def QF9(x:Rat){k:Nat}(hk:0<k)(h:(JP x).length<=k):JW x<=4*k:=by
 unfold JW;unfold JP at h;split at h
 ·rename_i hd;rw[hd];exact Nat.max_le.2 ⟨QCf _ hk h,ag (show sz ((1:Nat):Int)<=1 by decide) O⟩
 rw[ak,ah]at h;exact Nat.max_le.2 ⟨QCf _ hk O,vH _ hk O⟩
def OU(h:Jp s=0){k:Nat}(hk:0<k)(hl:s.length<=k):JW (Qz s)<=4*k :=
 QF9 _ hk (by rw[<-(XM h).1];exact hl)
theorem QCr{a:List UInt8}{d:Int}(hF:Fits F w)(hd:0<=d/\d<=1000):Qf prog 57 [tx a,.int .i64 d] w F (.bool (Uz a d)):=by
 have hn:=vX a;refine QU.intro (G:=λF=>True) func57 rfl tH rfl rfl hF tL<|wa<|wZ rfl<|wb rfl<|QA (Xc rfl Bw)<|wW rfl<|QA (Mx rfl rfl O)<|QA (Qu rfl rfl O)<|QA (QT rfl rfl rfl)<|wW rfl ?_
 refine Qn (t:=11) rfl (λhb11=>?_) λhb11=>?_
 ·have hl:a.length<=1000000:=by have h1:=wi hb11;omega
  refine wB 3 I<|QI I (λ_ _ f k=>Ou f (hl)) λ_=>wB 4 I ?_
  refine Qn (t:=16) rfl (λhb16=>?_) λhb16=>?_
  ·refine wB 3 I<|QI I (λ_ _ f k=>QA6 f O) λ_=>QL I I<|QI I (λ_ _ f k=>gi f ) λ_=>QL I I<|QA (Xc I Bw)<|wB 6 I ?_
   refine Qn (t:=24) rfl (λhb24=>?_) λhb24=>?_
   ·refine wB 3 I<|QI I (λ_ _ f k=>QA9 f O) λ_=>QL I I<|QA (Xc I Bw)<|wD 9 I ?_
    exact wg I I ((congrArg aa (by have h1:=wi hb11;simp[Uz,h1];simp at hb16 hb24;simp[hb16,hb24]))) tL
   refine wD 10 I ?_;exact wg I I ((congrArg aa (by have h1:=wi hb11;simp[Uz,h1];simp at hb16 hb24;simp[hb16];intro g;omega))) tL
  refine wD 18 I ?_;exact wg I I ((congrArg aa (by have h1:=wi hb11;simp at hb16;simp[Uz,h1,hb16]))) tL
 refine wD 23 I ?_;exact wg I I ((congrArg aa (by simp[Uz,hb11]))) tL
theorem gU{q:Option Addr}{n:Nat}{m d:Int}(hF:Fits F w)(hR:Qy F q n 2 (l.flatMap NU))(hl:l.length=n)(hd:0<=d/\d<=1000)(hn:n<=1000000):Qf prog 56 [.slice q n c,.int .i64 m,.int .i64 d] w F (.bool (decide ((n:Int)<=m)&&l.all (cx d))):=by
 have hln:=hl;refine QU.intro (G:=λF=>Qy F q n 2 (l.flatMap NU)) func56 rfl tH rfl rfl hF (λF' hF'=>hR.le hF')<|wa<|wZ rfl<|QG<|wb rfl<|QA (Qg rfl XF)<|wW rfl<|QA (QT rfl rfl rfl)<|QE<|QC ?_
 refine QQ I (λhc=>?_) λhc=>?_
 ·have hg:=wi hc;refine wA 6 I ?_;exact wg I I (congrArg aa (by have h1:decide ((n:Int)<=m)=false:=decide_eq_false O;rw[h1];rfl)) tL
 have hg:=wj hc;refine wC 9 I<|J9 (ι:=Wo l (cx d)) [(0,_),(2,_)] (λi=>[(7,.int .i64 ((i.i:Nat):Int))]) (λi=>l.length-i.i) (Wo.start _ _) wm wk λi=>?_
 simp only[ab,ae];refine wA 5 I<|QA (Qg I XF)<|wD 3 I ?_
 refine QQ I (λhc=>?_) λhc=>?_
 ·have hi:i.i<l.length:=tD<|wi hc
  refine wC 4 I ?_;refine ZZ [(0,_),(2,_),(7,_)] [(49,.bool (!cx d (el l i.i)))] wu ?_ ?_
  ·refine JG we mixed tE<|QK (QD I)<|QK (QD I)<|QK (Q3 (n:=n) i.i tM rfl rfl XF Jd O)<|QK (QH I V6 JF)<|QK (JA (n:=n) ((i.i)*2+0) tM O rfl JF (JN (f:=NU) (l:=l) K1 O rfl))<|QK (QD I)<|QR I (λ_ _ f k=>QCr f hd) λ_=>QK (XL I)<|QK (QD I) ?_
   refine Gg (t:=26) rfl (λhb26=>?_) λhb26=>?_
   ·refine Jj I I I<|Jj I I I<|Jj I I I<|Jj I I I<|Jj I I I<|Jj I I I<|Jj I I I<|Jj I I I<|QK (Qh I I I)<|QK (QD I)<|Jj I I I<|Jj I I I<|Jj I I I<|Jj I I I<|Jj I I I<|Jj I I I<|Jj I I I<|Jj I I I<|Jj I I I<|Jj I I I<|Jj I I I<|Jj I I I<|QK (Qh I I I)<|Q7 ?_
    exact JY ⟨rfl,rfl,rfl,(congrArg (λb=>some (aa b)) (by simp at hb26;simp[cx,hb26])),trivial⟩ we tN
   refine XA I I<|QK (QD I)<|XA I I<|QK (QD I)<|XA I I<|QK (Q3 (n:=n) i.i tM rfl rfl XF Jd O)<|XA I I<|QK (QH I We JF)<|XA I I<|QK (JA (n:=n) ((i.i)*2+1) tM O rfl JF (JN (f:=NU) (l:=l) K1 O rfl))<|XA I I<|QK (QD I)<|XA I I<|QR I (λ_ _ f k=>QCr f hd) λ_=>XA I I<|QK (XL I)<|QK (Qd I I I)<|QK (QD I) ?_
   refine Gg (t:=36) rfl (λhb36=>?_) λhb36=>?_
   ·refine Jj I I I<|Jj I I I<|Jj I I I<|Jj I I I<|Jj I I I<|Jj I I I<|Jj I I I<|Jj I I I<|Jj I I I<|Jj I I I<|Jj I I I<|Jj I I I<|QK (Qh I I I)<|Q7 ?_
    exact JY ⟨rfl,rfl,rfl,(congrArg (λb=>some (aa b)) (by simp at hb26 hb36;simp[cx,hb26,hb36])),trivial⟩ we λ_ h=>h.1.1
   refine XA I I<|QK (QD I)<|XA I I<|QK (QD I)<|XA I I<|QK (Q3 (n:=n) i.i tM rfl rfl XF Jd O)<|XA I I<|QK (QH I V6 JF)<|XA I I<|QK (JA (n:=n) ((i.i)*2+0) tM O rfl JF (JN (f:=NU) (l:=l) K1 O rfl))<|XA I I<|QK (QD I)<|XA I I<|QK (QD I)<|XA I I<|QK (Q3 (n:=n) i.i tM rfl rfl XF Jd O)<|XA I I<|QK (QH I We JF)<|XA I I<|QK (JA (n:=n) ((i.i)*2+1) tM O rfl JF (JN (f:=NU) (l:=l) K1 O rfl))<|XA I I<|QR I (λ_ _ f k=>QCs f (QDC (by simpa using hb26)) (QDC (by simpa using hb36))) λ_=>XA I I<|QK (QT I I I)<|QK (Qd I I I) ?_
   refine Q7 ?_;exact JY ⟨rfl,rfl,rfl,(congrArg (λb=>some (aa b)) (by simp at hb26 hb36;simp[cx,hb26,hb36])),trivial⟩ we λ_ h=>h.1.1.1
  simp only[ab,ae];refine QQ I (λhc=>?_) λhc=>?_
  ·refine wA 6 I ?_
   repeat first|refine Q6 ?_|refine Qv ?_
   exact wg I I (congrArg aa (by rw[i.hit hi (by simpa using hc),aW])) tL
  refine QN<|Qj<|wE 3 I<|QA (Qu I I O)<|wB 2 I ?_
  exact Ql (i.next hi (by simpa using hc)) (by show l.length-(i.i+1)<l.length-i.i;omega) wu we tM
 have hi:l.length<=i.i:=tD<|wj hc
 refine Qx ?_
 repeat first|refine QY ?_|refine QO tH ?_
 refine QZ<|wE 7 I ?_
 exact wg I I (congrArg aa (by rw[i.stop hi];have h1:decide ((n:Int)<=m)=true:=decide_eq_true O;rw[h1];rfl)) tL
def vt(r:Rat):Qz (JP r)=r:=by
 unfold Qz JP;by_cases h:r.den=1
 ·rw[if_pos h,TW (Pf _)];dsimp only;rw[if_neg tF,Kt];have:=ew r;rw[h,Rat.mkRat_one]at this;exact this
 rw[if_neg h,Ei (Pf _)];dsimp only;rw[if_pos rfl,Kt,Xi];exact ew r
def QCG{l:List UInt8}(h:Jc l≠n):¬ao n=l:=λe=>h (by rw[<-e,Xi])
def QD2{r:Rat}(h:Jh r=false):Jp (JP r)=0:=by
 unfold Jh Dp at h;rw[ay]at h;have h1:=wj h.1;have h2:=wj h.2;have ln:¬600<(ao r.num.natAbs).length:=λe=>h1 ((UL _).1 e);have ld:¬600<(ao r.den).length:=λe=>h2 (by rw[aF];exact(UL _).1 e);have hneg:(Lib.hasPrefix (Ze r.num) [45]&&ao r.num.natAbs==[48])=false:=by
  by_cases g:r.num<0
  ·have:¬ao r.num.natAbs=[48]:=QCG (by show 0≠_;omega);rw[beq_false_of_ne this,aW]
  rw[XJ O,Vn (Jy _)];rfl
 unfold Jp JP;by_cases hd:r.den=1
 ·rw[if_pos hd,TW (Pf _)];dsimp only;unfold Hl Iz;rw[Hf,I3,hneg,decide_eq_false ln];simp
 rw[if_neg hd,Ei (Pf _)];dsimp only;unfold Hl Iz;have h0:¬ao r.den=[48]:=QCG (by show 0≠_;have:=r.den_nz;omega);have h9:¬ao r.den=[49]:=QCG (by show 1≠_;omega);have hg:Nat.gcd r.num.natAbs r.den=1:=r.reduced;rw[Hf,I3,I3,hneg,decide_eq_false ln,decide_eq_false ld,Xi,Xi,hg,beq_false_of_ne h0,beq_false_of_ne h9];simp
theorem cW{r:Rat}(h:JW r<=k)(hk:k<=1800):Jh r=false:=by
 unfold Jh Dp;have a:∀z:Int,sz z<=k->decide (lim<=z.natAbs)=false:=λz hz=>by
  have h1:=(XD z 1800).1 O;have h2:=CC;refine decide_eq_false λe=>?_;exact absurd (Nat.lt_trans (Nat.lt_of_le_of_lt e h1) h2) (Nat.lt_irrefl _)
 rw[a _ (ag (Jv r) h),a _ (ag (Jt r) h)];rfl
section
variable{w:World}{F:Gs}
def P9(d:Rat):Rat:=if d<0 then -d else d
def QC3(d:Rat):d.num<0↔d<0:=by rw[<-Rat.not_le,<-Int.not_le,Rat.num_nonneg]
def QGo(d:Rat):vB (JP d)=JP (P9 d):=by
 have h:=dL d;have hs:=Oc d;unfold cP at h;unfold vB P9;by_cases g:d<0
 ·have g1:=(QC3 d).2 g;have:R8 (JP d)<0:=by rw[hs];unfold Dm;rw[if_pos g1];decide
  rw[if_pos this]at h ⊢;rw[if_pos g];exact h
 have g1:¬d.num<0:=λe=>g ((QC3 d).1 e);have:¬R8 (JP d)<0:=by rw[hs];unfold Dm;rw[if_neg g1];split<;>decide
 rw[if_neg this,if_neg g]
theorem QFm{d:Rat}(hF:Fits F w):Qf prog 150 [tx (JP d)] w F (tx (JP (P9 d))):=by
 have h:=gi (s:=JP d) hF;rw[QGo]at h;exact h
end
def QCD(x:Int):Qs [x]=x:=by
 unfold Qs;split
 ·rename_i h;rw[h];rfl
 rfl
def AZ(s:List UInt8×List UInt8):Bool:=!(decide ((s.1.length:Int)>40)||decide ((s.2.length:Int)>40))
def Ts(l:List (List UInt8×List UInt8)):Bool:=l.all AZ&&decide (l.length<=30)
def AY(h:Ts l=true):l.length<=30/\∀s∈l,s.1.length<=40/\s.2.length<=40:=by
 unfold Ts at h;rw[ar,aB,decide_eq_true_eq]at h;refine⟨h.2,λs hs=>?_⟩;have:=h.1 s hs;unfold AZ at this;simp at this;omega
theorem gW{n:Nat}{r:Sr}(hF:Fits F w)(hx:Ks F r l)(hc:BS r l):Qf prog 31 [.int .i64 (n:Int),r.v] w F (.int .i64 (YZ n l)):=by
 have hl:=hx.len;have hn:=hc.n;refine QU.intro (G:=λF=>Ks F r l) func31 rfl tH rfl rfl hF (λF' hF'=>hx.le hF')<|wa<|wZ rfl<|QG<|wb rfl<|QA (Qg rfl XF)<|wW rfl<|QA (QT rfl rfl rfl)<|QE<|QC ?_
 refine QQ I (λhc2=>?_) λhc2=>?_
 ·have h8:=bne_iff_ne.1 hc2;refine wA 6 I ?_;exact wg I I (congrArg (au .i64) (by unfold YZ;rw[if_pos O])) tL
 have h8:=bne_eq_false_iff_eq.1 hc2;refine wC 5 I<|QI I (λ_ _ f k=>jG f k.row ⟨hl,hc.t⟩ hn) λ_=>wD 4 I ?_
 exact wg I I (congrArg (au .i64) (by unfold YZ;rw[if_neg O])) tL
theorem um{r:Sr}(hF:Fits F w)(hx:Ks F r l)(hn:r.n<=9223372036854775807):Qf prog 24 [r.v] w F (.bool (Ts l)):=by
 have hl:=hx.len;refine QU.intro (G:=λF=>Ks F r l) func24 rfl tH rfl rfl hF (λF' hF'=>hx.le hF')<|wa<|wZ rfl<|QG<|wa<|wZ rfl<|QV<|J9 (ι:=Wo l AZ) [(0,_)] (λi=>[(3,.int .i64 ((i.i:Nat):Int))]) (λi=>l.length-i.i) (Wo.start _ _) wk wk λi=>?_
 simp only[ab,ae];have hi:=i.le;refine wA 5 I<|QA (Qg I XF)<|wD 3 I ?_
 refine QQ I (λhc2=>?_) λhc2=>?_
 ·have hlt:i.i<l.length:=tD<|wi hc2
  have hem:=Qw hlt;refine wC 4 I ?_;refine ZZ [(0,_),(3,_)] [(25,.bool (!(AZ (el l i.i))))] wm ?_ ?_
  ·refine wA 3 I<|QA (Q3 (n:=r.n) i.i (λF hx=>hx.row) rfl rfl XF Jd O)<|QA (QH I V6 JF)<|QA (JA (n:=r.n) ((i.i)*2+0) (λF hx=>hx.row) O rfl JF (JN (f:=NU) (l:=l) K1 O rfl))<|QA (Xc I Bw)<|wB 2 I ?_
   refine Qn (t:=17) rfl (λhb17=>?_) λhb17=>?_
   ·refine wB 9 I ?_;exact JY ⟨rfl,rfl,(congrArg (λb=>some (aa b)) (by unfold AZ;rw[av,hb17];rfl)),trivial⟩ we tM
   refine wB 5 I<|QA (Q3 (n:=r.n) i.i (λF hx=>hx.row) rfl rfl XF Jd O)<|QL I I<|QA (QH I We JF)<|QL I I<|QA (JA (n:=r.n) ((i.i)*2+1) (λF hx=>hx.row) O rfl JF (JN (f:=NU) (l:=l) K1 O rfl))<|QL I I<|QA (Xc I Bw)<|wB 4 I ?_
   exact JY ⟨rfl,rfl,(congrArg (λb=>some (aa b)) (by unfold AZ;rw[av,hb17];rfl)),trivial⟩ we tM
  simp only[ab,ae];refine QQ I (λhc2=>?_) λhc2=>?_
  ·have h25:AZ (el l i.i)=false:=by simpa using hc2
   refine wA 6 I ?_
   repeat first|refine Q6 ?_|refine Qv ?_
   exact wg I I (congrArg aa (by unfold Ts;rw[i.hit hlt h25];rfl)) tL
  have h25:AZ (el l i.i)=true:=by simpa using hc2
  refine QN<|Qj<|wE 3 I<|QA (Qu I I O)<|wB 2 I ?_
  exact Ql (i.next hlt h25) (by show l.length-(i.i+1)<l.length-i.i;omega) wm we tM
 have hge:l.length<=i.i:=tD<|wj hc2
 refine Qx ?_
 repeat first|refine QY ?_|refine QO tH ?_
 refine QZ<|wE 4 I<|QA (Qg I XF)<|wD 5 I ?_
 exact wg I I (congrArg aa (by unfold Ts;rw[i.stop hge,Bool.true_and,hl];exact decide_eq_decide.2 O)) tL
structure vG(y:Xz):Prop where
 nn:y.nm.n<=9223372036854775807
 nc:y.nm.n<=y.nm.cap
 nt:∀s∈y.nl,s.length<=9223372036854775807
 rn:y.rt.n<=9223372036854775807
 sn:y.st.n<=9223372036854775807
 rl:∀e∈y.rl,e.2.length=e.1.n/\e.1.n<=9223372036854775807/\∀t∈e.2,t.k.length=t.r.n
def shT(t:V0):Bool:=!(decide ((t.r.n:Int)>30)||decide ((t.f.length:Int)>30))
def shP(e:NQ):Bool:=!(decide ((e.1.n:Int)>70))&&e.2.all shT
def shN(y:Xz):Bool:=decide ((y.nm.n:Int)>30)||decide ((y.rt.n:Int)>30)||decide ((y.st.n:Int)>30)
def shS(y:Xz):Bool:=!(shN y)&&(y.rl.all shP&&y.sl.all AZ)
structure QId(y:Xz):Prop where
 n:y.nm.n<=30/\y.rt.n<=30/\y.st.n<=30
 r:∀e∈y.rl,e.1.n<=70/\∀t∈e.2,t.r.n<=30/\t.f.length<=30
 s:∀s∈y.sl,s.1.length<=40/\s.2.length<=40
def QHL{s:List UInt8×List UInt8}(h:AZ s=true):s.1.length<=40/\s.2.length<=40:=by
 unfold AZ at h;simp at h;omega
theorem QIJ(h:shS y=true):QId y:=by
 unfold shS at h;simp only[ar,aB]at h;obtain⟨h1,h2,h3⟩:=h;refine⟨?_,λe he=>?_,λs hs=>QHL (h3 s hs)⟩
 ·unfold shN at h1;simp at h1;omega
 have:=h2 e he;unfold shP at this;simp only[ar,aB]at this;refine⟨by have:=this.1;simp at this;omega,λt ht=>?_⟩;have h4:=this.2 t ht;unfold shT at h4;simp at h4;omega
theorem vG.t(h:vG y)(k:QId y):GJ y :=
 ⟨tD k.n,h.nc,h.nt,tD k.n,λe he=>⟨(h.rl e he).1,λt ht=>⟨tD<|(k.r e he).2 t ht,by rw[(h.rl e he).2.2 t ht];have:=(k.r e he).2 t ht;omega⟩,by rw[(h.rl e he).1];have:=(k.r e he).1;omega⟩,tD k.n,λs hs=>tD<|k.s s hs⟩
def vG.ts(h:vG y)(k:shS y=true):GJ y:=h.t (QIJ k)
def yX(y:Xz)(v g:Int):Bool:=!(!(shS y)||(y.e != 0)||decide ((y.rt.n:Int)>v)||(!(decide ((y.st.n:Int)<=v)&&y.sl.all (cx g))&&decide ((y.st.n:Int)>0)))
def pT(y:Xz)(v d g:Int):Bool:=yX y v g&&y.rl.all λe=>fpB (ZX e.2) (y.rt.n:Int) 4 d g
def QFQ{v g:Int}(h:yX y v g=true):shS y=true/\y.e=0/\(y.rt.n:Int)<=v/\(y.st.n=0\/((y.st.n:Int)<=v/\∀s∈y.sl,cx g s=true)):=by
 unfold yX at h;simp only[bh,ay,aD,bne_eq_false_iff_eq,decide_eq_false_iff_not]at h;obtain⟨⟨⟨h1,h2⟩,h3⟩,h4⟩:=h;refine⟨by simpa using h1,h2,O,?_⟩;by_cases g:y.st.n=0
 ·exact .inl g
 right;have:decide ((y.st.n:Int)>0)=true:=decide_eq_true O;rw[this,Bool.and_true]at h4;simp only[aD,ar,decide_eq_true_eq,aB]at h4;exact h4
def gK{nl:List (List UInt8)}{rl:List Pt}{sl:List (List UInt8×List UInt8)}(h1:nl.length≠0)(h2:¬nl.length>24)(h3:rl.length=nl.length/\sl.length=nl.length):Bz nl rl sl=Qs [DX nl,Qs (rl.map λp=>Zh p nl.length),Qs (sl.map λs=>Xd s.1 s.2)]:=by
 unfold Bz;rw[if_neg h1,if_neg h2,if_neg O]
theorem QHP{q:Option Addr}{l:List (List UInt8)}{v:List UInt8}(hF:Fits F w)(hR:Qy F q n 1 (l.map tx))(hn:l.length=n)(hb:n<=1000000000):Qf prog 211 [.slice q n c,tx v] w F (.bool (decide (v∈l))):=by
 refine QU.intro (G:=λF=>Qy F q n 1 (l.map tx)) func211 rfl tH rfl rfl hF (λF' hF'=>hR.le hF')<|wa<|wZ rfl<|QG<|wa<|wZ rfl<|QV<|J9 (ι:=NoI l v) [(0,_),(1,_)] (λi=>[(5,.int .i64 ((i.i:Nat):Int))]) (λi=>l.length-i.i) (⟨0,ax _,λj h=>absurd h (bD _)⟩) wm wk λi=>?_
 simp only[ab,ae];have hi:=i.le;refine wA 5 I<|QA (Qg I Kw)<|wD 3 I ?_
 refine QQ I (λhc2=>?_) λhc2=>?_
 ·have hlt:i.i<l.length:=tD<|wi hc2
  have hem:=Qw hlt;refine wC 8 I<|QA (Q3 (n:=n) i.i tM rfl rfl Kw Du O)<|QA (JA (n:=n) ((i.i)*1) tM O rfl Du (XT (f:=tx) (l:=l) O))<|wW I<|QA (VE I I)<|QE<|QC ?_
  refine QQ I (λhc2=>?_) λhc2=>?_
  ·have h17:el l i.i=v:=eq_of_beq hc2;refine wA 6 I ?_
   repeat first|refine Q6 ?_|refine Qv ?_
   exact wg I I (congrArg aa (decide_eq_true (by rw[<-h17];exact hem))) tL
  have h17:¬el l i.i=v:=by simpa using hc2
  refine QN<|Qj<|wE 3 I<|QA (Qu I I O)<|wB 2 I ?_
  exact Ql (⟨i.i+1,hlt,λj hj=>by rcases Nat.lt_succ_iff_lt_or_eq.1 hj with h | rfl;exact i.h j h;exact h17⟩) (by show l.length-(i.i+1)<l.length-i.i;omega) wu we tM
 have hge:l.length<=i.i:=tD<|wj hc2
 refine Qx ?_
 repeat first|refine QY ?_|refine QO tH ?_
 refine QZ<|wE 7 I ?_
 exact wg I I (congrArg aa (decide_eq_false (i.stop hge))) tL
theorem QHS{q:Option Addr}{l:List (List UInt8)}{v:List UInt8}(hF:Fits F w)(hR:Qy F q n 1 (l.map tx))(hn:l.length=n)(hb:n<=1000000000):Qf prog 117 [.slice q n c,tx v] w F (.bool (decide (v∈l))):=by
 refine QU.intro (G:=λF=>Qy F q n 1 (l.map tx)) func117 rfl tH rfl rfl hF (λF' hF'=>hR.le hF')<|wa<|wZ rfl<|wb rfl<|wW rfl<|QI rfl (λ_ _ f k=>QHP f k hn hb) λ_=>wZ rfl<|QX ?_
 exact wg I I (rfl) tL
theorem QA3(hF:Fits F w)(hGl:JE F)(hy:X4 F y)(ht:GJ y):Qf prog 26 [y.v] w F (.int .i64 y.e):=by
 obtain⟨⟨qn,nn,cn⟩,nl,⟨qr,nr,cr⟩,rl,⟨qs,ns,cs⟩,sl⟩:=y;have hnl:=hy.jL;have hrl:=hy.Ka;have hsl:=hy.P0;have hnn:=ht.nn;have hrn:=ht.rn;have hsn:=ht.sn;dsimp only at *
 dsimp only[Xz.v];refine QU.intro (G:=λF=>JE F/\X4 F ⟨⟨qn,nn,cn⟩,nl,⟨qr,nr,cr⟩,rl,⟨qs,ns,cs⟩,sl⟩) func26 rfl tH rfl rfl hF (λF' hF'=>⟨hGl.le hF',hy.le hF'⟩)<|wa<|Qp rfl (vs:=[_,_,_]) rfl λb1=>wZ rfl<|wa<|QA (QH rfl Hj VU)<|QA (Qe rfl VU .here .h1)<|QA (Qg rfl Kw)<|wZ rfl<|QG<|wb rfl<|QA (QT rfl rfl rfl)<|QE<|QC ?_
 refine QQ I (λhc2=>?_) λhc2=>?_
 ·have h11:nl.length=0:=by have:(nn:Int)=0:=eq_of_beq hc2;omega
  refine wA 6 I ?_;exact wg I I (congrArg (au .i64) (by show Bz nl (rl.map λe=>ZX e.2) sl=12;unfold Bz;rw[if_pos h11])) tL
 have h11:nl.length≠0:=by have:¬(nn:Int)=0:=(by simpa using hc2);omega
 refine wC 9 I ?_;refine QQ I (λhc2=>?_) λhc2=>?_
 ·have h13:nl.length>24:=tD<|wi hc2
  refine wA 6 I ?_;exact wg I I (congrArg (au .i64) (by show Bz nl (rl.map λe=>ZX e.2) sl=5;unfold Bz;rw[if_neg h11,if_pos h13])) tL
 have h13:¬nl.length>24:=tD<|wj hc2
 refine wC 3 I ?_;refine ZZ [(1,_),(3,_)] [(25,.bool (((nr:Int) != nn||(ns:Int) != nn)))] wm ?_ ?_
 ·refine QB<|QA (QH I VY Z6)<|QA (Qe I Z6 .here (.skip .h1))<|QA (Qg I VJ)<|wB 3 I ?_
  refine Qn (t:=19) rfl (λhb19=>?_) λhb19=>?_
  ·refine wB 7 I ?_;exact JY ⟨rfl,rfl,(congrArg (λb=>some (aa b)) (by rw[hb19];rfl)),trivial⟩ we tM
  refine QL I I<|QA (QH I YM J0)<|QL I I<|QA (Qe I J0 .here (.skip (.skip .h1)))<|QL I I<|QA (Qg I XF)<|wB 6 I ?_
  exact JY ⟨rfl,rfl,(congrArg (λb=>some (aa b)) (by rw[hb19];rfl)),trivial⟩ we tM
 simp only[ab,ae];refine QQ I (λhc2=>?_) λhc2=>?_
 ·have h25:(rl.map λe=>ZX e.2).length≠nl.length\/sl.length≠nl.length:=by simp only[Bool.or_eq_true,bne_iff_ne]at hc2;rw[aj];omega
  refine wA 6 I ?_;exact wg I I (congrArg (au .i64) (by show Bz nl (rl.map λe=>ZX e.2) sl=2;unfold Bz;rw[if_neg h11,if_neg h13,if_pos h25])) tL
 have h25:(rl.map λe=>ZX e.2).length=nl.length/\sl.length=nl.length:=by simp only[ay,bne_eq_false_iff_eq]at hc2;rw[aj];omega
 have h25r:rl.length=nl.length:=by rw[<-h25.1,aj]
 refine wC 9 I<|J9 (ι:=X7 (eP nl.length) (EL nl)) [(1,_),(3,_)] (λi=>[(4,.int .i64 ((i.i:Nat):Int))]) (λi=>nl.length-i.i) (X7.start _ _) wm wk λi=>?_
 simp only[ab,ae];have hi:=i.le;rw[aH]at hi;refine wA 8 I ?_;refine QQ I (λhc2=>?_) λhc2=>?_
 ·have hlt:i.i<nl.length:=tD<|wi hc2
  have hem:=Qw hlt;refine wC 7 I<|QA (QH I Hj VU)<|QA (Qe I VU .here .h1)<|wW I<|QA (Q3 (n:=nn) i.i (λF h9=>h9.2.nm) rfl rfl Kw Du O)<|QA (JA (n:=nn) ((i.i)*1) (λF h9=>h9.2.nm) O rfl Du (XT (f:=tx) (l:=nl) O))<|QI I (λ_ _ f k=>QEo f (ht.nt _ hem)) λ_=>QA (XL I)<|QE<|QC ?_
  refine QQ I (λhc2=>?_) λhc2=>?_
  ·have h37:(!cN (el nl i.i))=true:=hc2;have hnE:EL nl i.i≠0:=by unfold EL;rw[if_pos h37,Zf tF];decide
   refine wA 6 I ?_
   repeat first|refine Q6 ?_|refine Qv ?_
   exact wg I I (congrArg (au .i64) (by show Bz nl (rl.map λe=>ZX e.2) sl=8;rw[gK h11 h13 h25];have h9:=i.hit (by rw[aH];exact hlt) (by rw[ZG hlt];exact hnE);rw[ZG hlt]at h9;rw[show DX nl=EL nl i.i from h9,Zf hnE];unfold EL;rw[if_pos h37,Zf tF])) tL
  have h37:(!cN (el nl i.i))=false:=hc2;refine wC 3 I<|JG we mixed tE<|QK (QH I Hj VU)<|QK (Qe I VU .here .h1)<|QK (QD I)<|QK (NV i.i I I I Kw Du (by have:=ht.nc;dsimp only at this;omega))<|QK (QH I Hj VU)<|QK (Qe I VU .here .h1)<|QK (QD I)<|QK (Q3 (n:=nn) i.i (λF h9=>h9.1.2.nm) rfl rfl Kw Du O)<|QK (JA (n:=nn) ((i.i)*1) (λF h9=>h9.1.2.nm) O rfl Du (XT (f:=tx) (l:=nl) O))<|QR I (λ_ _ f k=>QHS f (Qy.QCd (l:=nl) k.1.2.nm hnl hi) (by rw[bp];omega) O) λ_=>Q7<|QC ?_
  refine QQ I (λhc2=>?_) λhc2=>?_
  ·have h47:decide (el nl i.i∈nl.take i.i)=true:=hc2;have hnE:EL nl i.i≠0:=by unfold EL;rw[if_neg (by rw[h37];decide),if_pos h47,Zn,Zf tF];decide
   refine wA 6 I ?_
   repeat first|refine Q6 ?_|refine Qv ?_
   exact wg I I (congrArg (au .i64) (by show Bz nl (rl.map λe=>ZX e.2) sl=9;rw[gK h11 h13 h25];have h9:=i.hit (by rw[aH];exact hlt) (by rw[ZG hlt];exact hnE);rw[ZG hlt]at h9;rw[show DX nl=EL nl i.i from h9,Zf hnE];unfold EL;rw[if_neg (by rw[h37];decide),if_pos h47,Zn,Zf tF])) tL
  have h47:decide (el nl i.i∈nl.take i.i)=false:=hc2;refine QN<|Qj<|wE 3 I<|QA (Qu I I O)<|wB 2 I ?_
  exact Ql (i.next (by rw[aH];exact hlt) (by rw[ZG hlt];unfold EL;rw[if_neg (by rw[h37];decide),if_neg (by rw[h47];decide)];rfl)) (by show nl.length-(i.i+1)<nl.length-i.i;omega) wu we λF h=>h.1.1
 have hge:nl.length<=i.i:=tD<|wj hc2
 have hnz:DX nl=0:=i.stop (by rw[aH];exact hge);refine Qx ?_
 repeat first|refine QY ?_|refine QO tH ?_
 refine QZ<|wE 8 I<|J9 (ι:=X7 rl λe=>Zh (ZX e.2) (nn:Int)) [(1,_),(3,_)] (λi2=>[(5,.int .i64 ((i2.i:Nat):Int))]) (λi2=>rl.length-i2.i) (X7.start _ _) wm wk λi2=>?_
 simp only[ab,ae];have hi2:=i2.le;refine wA 8 I ?_;refine QQ I (λhc2=>?_) λhc2=>?_
 ·have hlt2:i2.i<rl.length:=tD<|wi hc2
  have hem:=Qw hlt2;refine wC 6 I<|QA (QH I VY Z6)<|QA (Qe I Z6 .here (.skip .h1))<|wW I<|QA (Q3 (n:=nr) (i2.i) (λF h9=>h9.2.rt) rfl rfl VJ Vu O)<|QA (JA (n:=nr) ((i2.i)*1) (λF h9=>h9.2.rt) O rfl Vu (XT (f:=λe:NQ=>e.1.v) (l:=rl) O))<|wW I<|QI I (λ_ _ f k=>Iw (q:=(el rl i2.i).1.q) (n:=(el rl i2.i).1.n) (cap:=(el rl i2.i).1.cap) f k.1 (k.2.pl _ hem).1 (k.2.pl _ hem).2 (ht.tm _ hem).1 (λt htt=>tD<|(ht.tm _ hem).2.1 t htt) (tD<|(ht.tm _ hem).2.2) O) λ_=>wD 9 I ?_
  refine QQ I (λhc2=>?_) λhc2=>?_
  ·have h61:=bne_iff_ne.1 hc2;refine wA 7 I ?_
   repeat first|refine Q6 ?_|refine Qv ?_
   exact wg I I (congrArg (au .i64) (by show Bz nl (rl.map λe=>ZX e.2) sl=_;rw[gK h11 h13 h25,hnz,Zn,aZ,hnl];have h9:=i2.hit hlt2 h61;rw[show Qs (rl.map ((λp=>Zh p (nn:Int))∘λe=>ZX e.2))=Zh (ZX (el rl i2.i).2) (nn:Int)from h9,Zf h61])) tL
  have h61:=bne_eq_false_iff_eq.1 hc2;refine QN<|Qj<|wE 3 I<|QA (Qu I I O)<|wB 2 I ?_
  exact Ql (i2.next hlt2 h61) (by show rl.length-(i2.i+1)<rl.length-i2.i;omega) wu we tN
 have hge2:rl.length<=i2.i:=tD<|wj hc2
 refine Qx ?_
 repeat first|refine QY ?_|refine QO tH ?_
 refine QZ<|QC<|wa<|QA (QH I YM J0)<|QA (Qe I J0 .here (.skip (.skip .h1)))<|QI I (λ_ _ f k=>jG f k.2.st ⟨hsl,ht.st⟩ hsn) λ_=>wD 4 I ?_
 exact wg I I (congrArg (au .i64) (by show Bz nl (rl.map λe=>ZX e.2) sl=_;rw[gK h11 h13 h25,hnz,Zn,aZ,hnl];have h9:=i2.stop hge2;rw[show Qs (rl.map ((λp=>Zh p (nn:Int))∘λe=>ZX e.2))=0 from h9,Zn,QCD])) tL
theorem uk(hF:Fits F w)(hy:X4 F y)(ht:vG y):Qf prog 105 [y.v] w F (.bool (shS y)):=by
 have hnl:=hy.jL;have hrl:=hy.Ka;have hsl:=hy.P0;have hnn:=ht.nn;have hrn:=ht.rn;have hsn:=ht.sn;refine QU.intro (G:=λF=>X4 F y) func105 rfl tH rfl rfl hF (λF' hF'=>hy.le hF')<|wa<|Qp rfl (vs:=[_,_,_]) rfl λb1=>wZ rfl<|QG ?_
 refine ZZ [(1,_)] [(21,.bool (shN y))] wk ?_ ?_
 ·refine QB<|QA (QH I Hj VU)<|QA (Qe I VU .here .h1)<|QA (Qg I Kw)<|wB 2 I ?_
  refine Qn (t:=10) rfl (λhb10=>?_) λhb10=>?_
  ·refine wB 12 I ?_;exact JY ⟨rfl,(congrArg (λb=>some (aa b)) (by unfold shN;rw[hb10];rfl)),trivial⟩ we tM
  refine QL I I<|QA (QH I VY Z6)<|QL I I<|QA (Qe I Z6 .here (.skip .h1))<|QL I I<|QA (Qg I VJ)<|wB 4 I ?_
  refine Qn (t:=16) rfl (λhb16=>?_) λhb16=>?_
  ·refine wB 6 I ?_;exact JY ⟨rfl,(congrArg (λb=>some (aa b)) (by unfold shN;rw[hb10,hb16];rfl)),trivial⟩ we tM
  refine QL I I<|QA (QH I YM J0)<|QL I I<|QA (Qe I J0 .here (.skip (.skip .h1)))<|QL I I<|QA (Qg I XF)<|wB 4 I ?_
  exact JY ⟨rfl,(congrArg (λb=>some (aa b)) (by unfold shN;rw[hb10,hb16];rfl)),trivial⟩ we tM
 simp only[ab,ae];refine QQ I (λhc2=>?_) λhc2=>?_
 ·have h21:shN y=true:=hc2;refine wA 6 I ?_;exact wg I I (congrArg aa (by unfold shS;rw[h21];rfl)) tL
 have h21:shN y=false:=hc2;refine wC 9 I<|J9 (ι:=Wo y.rl shP) [(1,_)] (λi=>[(3,.int .i64 ((i.i:Nat):Int))]) (λi=>y.rl.length-i.i) (Wo.start _ _) wk wk λi=>?_
 simp only[ab,ae];have hi:=i.le;refine wA 4 I<|QA (QH I VY Z6)<|QA (Qe I Z6 .here (.skip .h1))<|QA (Qg I VJ)<|wD 3 I ?_
 refine QQ I (λhc2=>?_) λhc2=>?_
 ·have hlt:i.i<y.rl.length:=tD<|wi hc2
  have hem:=Qw hlt;have hpl:=(ht.rl _ hem).1;have hpn:=(ht.rl _ hem).2.1;refine wC 7 I<|QA (QH I VY Z6)<|QA (Qe I Z6 .here (.skip .h1))<|wW I<|QA (Q3 (n:=y.rt.n) i.i (λF hy=>hy.rt) rfl rfl VJ Vu O)<|QA (JA (n:=y.rt.n) ((i.i)*1) (λF hy=>hy.rt) O rfl Vu (XT (f:=λe:NQ=>e.1.v) (l:=y.rl) O))<|QA (Qg I Zg)<|wD 3 I ?_
  refine QQ I (λhc2=>?_) λhc2=>?_
  ·have h35:((el y.rl i.i).1.n:Int)>70:=wi hc2;refine wA 6 I ?_
   repeat first|refine Q6 ?_|refine Qv ?_
   exact wg I I (congrArg aa (by unfold shS;rw[h21,i.hit hlt (by unfold shP;rw[decide_eq_true h35];rfl)];rfl)) tL
  have h35:¬((el y.rl i.i).1.n:Int)>70:=wj hc2;refine wC 8 I<|J9 (ι:=Wo (el y.rl i.i).2 shT) [(1,_),(3,_)] (λi2=>[(4,.int .i64 ((i2.i:Nat):Int))]) (λi2=>(el y.rl i.i).2.length-i2.i) (Wo.start _ _) wm wk λi2=>?_
  simp only[ab,ae];have hi2:=i2.le;refine wA 4 I<|QA (QH I VY Z6)<|QA (Qe I Z6 .here (.skip .h1))<|wW I<|QA (Q3 (n:=y.rt.n) i.i (λF hy=>hy.rt) rfl rfl VJ Vu O)<|QA (JA (n:=y.rt.n) ((i.i)*1) (λF hy=>hy.rt) O rfl Vu (XT (f:=λe:NQ=>e.1.v) (l:=y.rl) O))<|QA (Qg I Zg)<|wD 3 I ?_
  refine QQ I (λhc2=>?_) λhc2=>?_
  ·have hlt2:i2.i<(el y.rl i.i).2.length:=tD<|wi hc2
   refine wC 4 I ?_;refine ZZ [(1,_),(3,_),(4,_)] [(69,.bool (!(shT (el (el y.rl i.i).2 i2.i))))] wu ?_ ?_
   ·refine QB<|QA (QH I VY Z6)<|QA (Qe I Z6 .here (.skip .h1))<|wW I<|QA (Q3 (n:=y.rt.n) i.i (λF hy=>hy.rt) rfl rfl VJ Vu O)<|QA (JA (n:=y.rt.n) ((i.i)*1) (λF hy=>hy.rt) O rfl Vu (XT (f:=λe:NQ=>e.1.v) (l:=y.rl) O))<|wW I<|QA (Q3 (n:=(el y.rl i.i).1.n) (i2.i) (λF hy=>(hy.pl _ hem).1) rfl rfl Zg Xh O)<|QA (QH I Yh JM)<|QA (JA (n:=(el y.rl i.i).1.n) ((i2.i)*2+1) (λF hy=>(hy.pl _ hem).1) O rfl JM (JN (f:=VM) (l:=(el y.rl i.i).2) YR O rfl))<|QA (Qg I Q2)<|wB 2 I ?_
    refine Qn (t:=57) rfl (λhb57=>?_) λhb57=>?_
    ·refine wB 13 I ?_;exact JY ⟨rfl,rfl,rfl,(congrArg (λb=>some (aa b)) (by unfold shT;rw[av,hb57];rfl)),trivial⟩ we tM
    refine QL I I<|QA (QH I VY Z6)<|QL I I<|QA (Qe I Z6 .here (.skip .h1))<|wB 3 I<|QA (Q3 (n:=y.rt.n) i.i (λF hy=>hy.rt) rfl rfl VJ Vu O)<|QL I I<|QA (JA (n:=y.rt.n) ((i.i)*1) (λF hy=>hy.rt) O rfl Vu (XT (f:=λe:NQ=>e.1.v) (l:=y.rl) O))<|wB 3 I<|QA (Q3 (n:=(el y.rl i.i).1.n) (i2.i) (λF hy=>(hy.pl _ hem).1) rfl rfl Zg Xh O)<|QL I I<|QA (QH I GM JF)<|QL I I<|QA (JA (n:=(el y.rl i.i).1.n) ((i2.i)*2+0) (λF hy=>(hy.pl _ hem).1) O rfl JF (JN (f:=VM) (l:=(el y.rl i.i).2) YR O rfl))<|QL I I<|QA (Xc I Bw)<|wB 4 I ?_
    exact JY ⟨rfl,rfl,rfl,(congrArg (λb=>some (aa b)) (by unfold shT;rw[av,hb57];rfl)),trivial⟩ we tM
   simp only[ab,ae];refine QQ I (λhc2=>?_) λhc2=>?_
   ·have h69:shT (el (el y.rl i.i).2 i2.i)=false:=by simpa using hc2
    refine wA 6 I ?_
    repeat first|refine Q6 ?_|refine Qv ?_
    exact wg I I (congrArg aa (by unfold shS;rw[h21,i.hit hlt (by unfold shP;rw[i2.hit hlt2 h69,aW])];rfl)) tL
   have h69:shT (el (el y.rl i.i).2 i2.i)=true:=by simpa using hc2
   refine QN<|Qj<|wE 3 I<|QA (Qu I I O)<|wB 2 I ?_
   exact Ql (i2.next hlt2 h69) (by show(el y.rl i.i).2.length-(i2.i+1)<(el y.rl i.i).2.length-i2.i;omega) wu we tM
  have hge2:(el y.rl i.i).2.length<=i2.i:=tD<|wj hc2
  refine Qx ?_
  repeat first|refine QY ?_|refine QO tH ?_
  refine QZ<|Qj<|wE 3 I<|QA (Qu I I O)<|wB 2 I ?_
  exact Ql (i.next hlt (by unfold shP;rw[decide_eq_false h35,i2.stop hge2];rfl)) (by show y.rl.length-(i.i+1)<y.rl.length-i.i;omega) wm we tM
 have hge:y.rl.length<=i.i:=tD<|wj hc2
 have hra:=i.stop hge;refine Qx ?_
 repeat first|refine QY ?_|refine QO tH ?_
 refine QZ<|wE 8 I<|J9 (ι:=Wo y.sl AZ) [(1,_)] (λi3=>[(5,.int .i64 ((i3.i:Nat):Int))]) (λi3=>y.sl.length-i3.i) (Wo.start _ _) wk wk λi3=>?_
 simp only[ab,ae];have hi3:=i3.le;refine wA 4 I<|QA (QH I YM J0)<|QA (Qe I J0 .here (.skip (.skip .h1)))<|QA (Qg I XF)<|wD 3 I ?_
 refine QQ I (λhc2=>?_) λhc2=>?_
 ·have hlt3:i3.i<y.sl.length:=tD<|wi hc2
  refine wC 4 I ?_;refine ZZ [(1,_),(5,_)] [(94,.bool (!(AZ (el y.sl i3.i))))] wm ?_ ?_
  ·refine QB<|QA (QH I YM J0)<|QA (Qe I J0 .here (.skip (.skip .h1)))<|wW I<|QA (Q3 (n:=y.st.n) (i3.i) (λF hy=>hy.st) rfl rfl XF Jd O)<|QA (QH I V6 JF)<|QA (JA (n:=y.st.n) ((i3.i)*2+0) (λF hy=>hy.st) O rfl JF (JN (f:=NU) (l:=y.sl) K1 O rfl))<|QA (Xc I Bw)<|wB 2 I ?_
   refine Qn (t:=85) rfl (λhb85=>?_) λhb85=>?_
   ·refine wB 10 I ?_;exact JY ⟨rfl,rfl,(congrArg (λb=>some (aa b)) (by unfold AZ;rw[av,hb85];rfl)),trivial⟩ we tM
   refine QL I I<|QA (QH I YM J0)<|QL I I<|QA (Qe I J0 .here (.skip (.skip .h1)))<|wB 3 I<|QA (Q3 (n:=y.st.n) (i3.i) (λF hy=>hy.st) rfl rfl XF Jd O)<|QL I I<|QA (QH I We JF)<|QL I I<|QA (JA (n:=y.st.n) ((i3.i)*2+1) (λF hy=>hy.st) O rfl JF (JN (f:=NU) (l:=y.sl) K1 O rfl))<|QL I I<|QA (Xc I Bw)<|wB 4 I ?_
   exact JY ⟨rfl,rfl,(congrArg (λb=>some (aa b)) (by unfold AZ;rw[av,hb85];rfl)),trivial⟩ we tM
  simp only[ab,ae];refine QQ I (λhc2=>?_) λhc2=>?_
  ·have h94:AZ (el y.sl i3.i)=false:=by simpa using hc2
   refine wA 6 I ?_
   repeat first|refine Q6 ?_|refine Qv ?_
   exact wg I I (congrArg aa (by unfold shS;rw[h21,hra,i3.hit hlt3 h94];rfl)) tL
  have h94:AZ (el y.sl i3.i)=true:=by simpa using hc2
  refine QN<|Qj<|wE 3 I<|QA (Qu I I O)<|wB 2 I ?_
  exact Ql (i3.next hlt3 h94) (by show y.sl.length-(i3.i+1)<y.sl.length-i3.i;omega) wm we tM
 have hge3:y.sl.length<=i3.i:=tD<|wj hc2
 refine Qx ?_
 repeat first|refine QY ?_|refine QO tH ?_
 refine QZ<|wE 7 I ?_
 exact wg I I (congrArg aa (by unfold shS;rw[h21,hra,i3.stop hge3];rfl)) tL
theorem QGM{v d g:Int}(hF:Fits F w)(hGl:JE F)(hy:X4 F y)(hl:vG y)(hg:0<=g/\g<=1000):Qf prog 55 [y.v,.int .i64 v,.int .i64 d,.int .i64 g] w F (.bool (pT y v d g)):=by
 have hnl:=hy.jL;have hrl:=hy.Ka;have hsl:=hy.P0;refine QU.intro (G:=λF=>JE F/\X4 F y) func55 rfl tH rfl rfl hF (λF' hF'=>⟨hGl.le hF',hy.le hF'⟩)<|wa<|Qp rfl (vs:=[_,_,_]) rfl λb4=>wZ rfl<|QG ?_
 refine ZZ [(2,_),(3,_),(4,_)] [(38,.bool (!(yX y v g)))] wu ?_ ?_
 ·refine QB<|QA (wO I J6 .here)<|QI I (λ_ _ f k=>uk (y:=y) f k.2 hl) λ_=>QA (XL I)<|wW I ?_
  refine Qn (t:=13) rfl (λhb13=>?_) λhb13=>?_
  ·refine wB 19 I<|Jn I I<|Jn I I<|Jn I I<|Jn I I<|wB 2 I ?_
   refine QE ?_;exact JY ⟨rfl,rfl,rfl,(congrArg (λb=>some (aa b)) (by unfold yX;rw[av,hb13];rfl)),trivial⟩ we tN
  have ht:GJ y:=hl.ts (by simpa using hb13);refine QL I I<|QA (wO I J6 .here)<|QL I I<|QI I (λ_ _ f k=>QA3 (y:=y) f k.1.1 k.1.2 ht) λ_=>wB 4 I ?_
  refine Qn (t:=18) rfl (λhb18=>?_) λhb18=>?_
  ·refine wB 14 I<|Jn I I<|Jn I I<|Jn I I<|Jn I I<|wB 3 I ?_
   exact JY ⟨rfl,rfl,rfl,(congrArg (λb=>some (aa b)) (by unfold yX;rw[av,hb13,hb18];rfl)),trivial⟩ we λ_ h=>h.1.1
  refine QL I I<|QA (QH I VY Z6)<|QL I I<|QA (Qe I Z6 .here (.skip .h1))<|QL I I<|QA (Qg I VJ)<|wB 6 I ?_
  refine Qn (t:=25) rfl (λhb25=>?_) λhb25=>?_
  ·refine wB 7 I<|Jn I I<|Jn I I<|Jn I I<|Jn I I<|wB 3 I ?_
   exact JY ⟨rfl,rfl,rfl,(congrArg (λb=>some (aa b)) (by unfold yX;rw[av,hb13,hb18,hb25];rfl)),trivial⟩ we λ_ h=>h.1.1
  refine QL I I<|QA (QH I YM J0)<|QL I I<|QA (Qe I J0 .here (.skip (.skip .h1)))<|wB 5 I<|QI I (λ_ _ f k=>gU f k.1.1.2.st hsl hg (tD ht.sn)) λ_=>QL I I<|QA (XL I)<|wB 2 I ?_
  refine Qn (t:=32) rfl (λhb32=>?_) λhb32=>?_
  ·refine QL I I<|QA (QH I YM J0)<|QL I I<|QA (Qe I J0 .here (.skip (.skip .h1)))<|QL I I<|QA (Qg I XF)<|wB 6 I ?_
   exact JY ⟨rfl,rfl,rfl,(congrArg (λb=>some (aa b)) (by unfold yX;rw[av,hb13,hb18,hb25,hb32];rfl)),trivial⟩ we λ_ h=>h.1.1.1
  refine wB 8 I ?_;exact JY ⟨rfl,rfl,rfl,(congrArg (λb=>some (aa b)) (by unfold yX;rw[av,hb13,hb18,hb25,hb32];rfl)),trivial⟩ we λ_ h=>h.1.1.1
 simp only[ab,ae];refine QQ I (λhc2=>?_) λhc2=>?_
 ·have h38:yX y v g=false:=by simpa using hc2
  refine wA 6 I ?_;exact wg I I (congrArg aa (by unfold pT;rw[h38];rfl)) tL
 have h38:yX y v g=true:=by simpa using hc2
 obtain⟨hS1,he1,hv1,hs1⟩:=QFQ h38;have ht:GJ y:=hl.ts hS1;have hrn:=ht.rn;have ho:=hy.ok he1;have hon:=ho.n1;have hor:=ho.rn;refine wC 9 I<|J9 (ι:=Wo y.rl λe=>fpB (ZX e.2) (y.rt.n:Int) 4 d g) [(2,_),(3,_),(4,_)] (λi=>[(9,.int .i64 ((i.i:Nat):Int))]) (λi=>y.rl.length-i.i) (Wo.start _ _) wu wk λi=>?_
 simp only[ab,ae];have hi:=i.le;refine wA 4 I<|QA (QH I VY Z6)<|QA (Qe I Z6 .here (.skip .h1))<|QA (Qg I VJ)<|wD 3 I ?_
 refine QQ I (λhc2=>?_) λhc2=>?_
 ·have hlt:i.i<y.rl.length:=tD<|wi hc2
  have hem:=Qw hlt;refine wC 5 I<|JG we mixed tE<|QK (QH I VY Z6)<|QK (Qe I Z6 .here (.skip .h1))<|QK (QD I)<|QK (Q3 (n:=y.rt.n) i.i (λF h9=>h9.2.rt) rfl rfl VJ Vu O)<|QK (JA (n:=y.rt.n) ((i.i)*1) (λF h9=>h9.2.rt) O rfl Vu (XT (f:=λe:NQ=>e.1.v) (l:=y.rl) O))<|QK (QH I VY Z6)<|QK (Qe I Z6 .here (.skip .h1))<|QK (Qg I VJ)<|QK (QD I)<|QK (QD I)<|QR I (λ_ _ f k=>uw (q:=(el y.rl i.i).1.q) (n:=(el y.rl i.i).1.n) (cap:=(el y.rl i.i).1.cap) f k.1 (k.2.pl _ hem).1 (k.2.pl _ hem).2 (ht.tm _ hem).1 (λt htt=>tD<|(ht.tm _ hem).2.1 t htt) (tD<|(ht.tm _ hem).2.2) O O) λ_=>QK (XL I)<|Q7<|QC ?_
  refine QQ I (λhc2=>?_) λhc2=>?_
  ·have h57:fpB (ZX (el y.rl i.i).2) (y.rt.n:Int) 4 d g=false:=by simpa using hc2
   refine wA 6 I ?_
   repeat first|refine Q6 ?_|refine Qv ?_
   exact wg I I (congrArg aa (by unfold pT;rw[h38,i.hit hlt h57];rfl)) tL
  have h57:fpB (ZX (el y.rl i.i).2) (y.rt.n:Int) 4 d g=true:=by simpa using hc2
  refine QN<|Qj<|wE 3 I<|QA (Qu I I O)<|wB 2 I ?_
  exact Ql (i.next hlt h57) (by show y.rl.length-(i.i+1)<y.rl.length-i.i;omega) wv we tN
 have hge:y.rl.length<=i.i:=tD<|wj hc2
 refine Qx ?_
 repeat first|refine QY ?_|refine QO tH ?_
 refine QZ<|wE 7 I ?_
 exact wg I I (congrArg aa (by unfold pT;rw[h38,i.stop hge];rfl)) tL
def QDg{l:List (List UInt8)}(h:i<l.length)(k:decide ((el l i).length>14)=true):l.any (λs=>decide (s.length>14))=true:=List.any_eq_true.2 ⟨_,Qw h,k⟩
structure LgJ(l:List (List UInt8)) where
 i:Nat
 le:i<=l.length
 no:∀j,j<i->¬(el l j).length>14
theorem LgJ.stop{l:List (List UInt8)}(s:LgJ l)(h:l.length<=s.i):l.any (λs=>decide (s.length>14))=false:=by
 cases e:l.any (λs=>decide (s.length>14))with
 |false=>rfl
 |true =>
  obtain⟨x,hx,k⟩:=List.any_eq_true.1 e;obtain⟨j,hj,rfl⟩:=aP hx;exact absurd (wi k) (by have:=s.no j O;rwa [Jb hj]at this)
theorem QGb{q:Option Addr}{l:List (List UInt8)}(hF:Fits F w)(hR:Qy F q n 1 (l.map tx))(hn:l.length=n)(hb:n<=1000000000):Qf prog 15 [.slice q n c] w F (.bool (l.any λs=>decide (s.length>14))):=by
 refine QU.intro (G:=λF=>Qy F q n 1 (l.map tx)) func15 rfl tH rfl rfl hF (λF' hF'=>hR.le hF')<|wa<|wZ rfl<|QG<|wa<|wZ rfl<|QV<|J9 (ι:=LgJ l) [(0,_)] (λi=>[(3,.int .i64 ((i.i:Nat):Int))]) (λi=>l.length-i.i) (⟨0,ax _,λj h=>absurd h (bD _)⟩) wk wk λi=>?_
 simp only[ab,ae];have hi:=i.le;refine wA 5 I<|QA (Qg I YG)<|wD 3 I ?_
 refine QQ I (λhc=>?_) λhc=>?_
 ·have hlt:i.i<l.length:=tD<|wi hc
  refine wC 8 I<|QA (Q3 (n:=n) i.i tM rfl rfl YG JF O)<|QA (JA (n:=n) ((i.i)*1) tM O rfl JF (XT (f:=tx) (l:=l) O))<|QA (Xc I Bw)<|wD 3 I ?_
  refine QQ I (λhc=>?_) λhc=>?_
  ·have h15:(el l i.i).length>14:=tD<|wi hc
   refine wA 6 I ?_
   repeat first|refine Q6 ?_|refine Qv ?_
   exact wg I I (congrArg aa (QDg hlt (decide_eq_true h15))) tL
  have h15:¬(el l i.i).length>14:=tD<|wj hc
  refine QN<|Qj<|wE 3 I<|QA (Qu I I O)<|wB 2 I ?_
  exact Ql (⟨i.i+1,hlt,λj hj=>by rcases Nat.lt_succ_iff_lt_or_eq.1 hj with h | rfl;exact i.no j h;exact h15⟩) (by show l.length-(i.i+1)<l.length-i.i;omega) wm we tM
 have hge:l.length<=i.i:=tD<|wj hc
 refine Qx ?_
 repeat first|refine QY ?_|refine QO tH ?_
 refine QZ<|wE 7 I ?_
 exact wg I I (congrArg aa (i.stop hge)) tL
def Ff(y:Xz)(n:Int):Bool:=!(shS y)||((y.e==0)&&!(pT y n 3 6))
theorem yQ{n:Int}(h:Ff y n=false):shS y=true/\(y.e=0->pT y n 3 6=true):=by
 unfold Ff at h;simp only[ay,aD,Bool.and_eq_false_iff,beq_eq_false_iff_ne]at h;exact⟨h.1,λe=>h.2.resolve_left λk=>k e⟩
structure ATk where
 fr:List UInt8
 te:List UInt8
 bx:Sr
 bl:List (List UInt8×List UInt8)
 wh:Sr
 wl:List (List UInt8×List UInt8)
 o:Int
 b:Int
@[reducible] def ATk.v (x:ATk):Value:=.agg #[tx x.fr,tx x.te,.slice x.bx.q x.bx.n x.bx.cap,.slice x.wh.q x.wh.n x.wh.cap,.int .i64 x.o,.int .i64 x.b]
def cT(l:List (List UInt8)):Bool:=l.any λs=>decide (s.length>14)
theorem QFF{n:Int}(hF:Fits F w)(hGl:JE F)(hy:X4 F y)(hl:vG y):Qf prog 23 [y.v,.int .i64 n] w F (.bool (Ff y n)):=by
 refine QU.intro (G:=λF=>JE F/\X4 F y) func23 rfl tH rfl rfl hF (λF' hF'=>⟨hGl.le hF',hy.le hF'⟩)<|wa<|Qp rfl (vs:=[_,_,_]) rfl λb2=>wZ rfl<|wa<|QA (wO I J6 .here)<|QI rfl (λ_ _ f k=>uk (y:=y) f k.2 hl) λ_=>QA (XL rfl)<|wW rfl ?_
 refine Qn (t:=8) rfl (λhb8=>?_) λhb8=>?_
 ·refine wB 4 I<|Jn I I<|Jn I I<|Jn I I<|Jn I I<|wD 6 I ?_
  exact wg I I (congrArg aa (by unfold Ff;rw[hb8];rfl)) tL
 have ht:GJ y:=hl.ts (by simpa using hb8);refine QL I I<|QA (wO I J6 .here)<|QL I I<|QI I (λ_ _ f k=>QA3 (y:=y) f k.1.1 k.1.2 ht) λ_=>wB 4 I ?_
 refine Qn (t:=12) rfl (λhb12=>?_) λhb12=>?_
 ·refine QL I I<|QA (wO I J6 .here)<|wB 3 I<|QI I (λ_ _ f k=>QGM (y:=y) f k.1.1.1 k.1.1.2 hl tF) λ_=>QL I I<|QA (XL I)<|wD 7 I ?_
  exact wg I I (congrArg aa (by unfold Ff;rw[hb8,hb12];rfl)) tL
 refine wD 11 I ?_;exact wg I I (congrArg aa (by unfold Ff;rw[hb8,hb12];rfl)) tL
theorem QDh{q:Option Addr}{l:List Int}(hF:Fits F w)(hR:Qy F q n 1 (l.map Jo))(hn:n<=1000000000):Qf prog 29 [.slice q n c] w F (.int .i64 (Qs l)):=by
 have hln:l.length=n:=by have:=hR.1;simpa using this
 have hmap:Qs l=Qs (l.map id):=by rw[bN]
 refine QU.intro (G:=λF=>Qy F q n 1 (l.map Jo)) func29 rfl tH rfl rfl hF (λF' hF'=>hR.le hF')<|wa<|wZ rfl<|QG<|wa<|wZ rfl<|QV<|J9 (ι:=X7 l id) [(0,_)] (λi=>[(3,.int .i64 ((i.i:Nat):Int))]) (λi=>l.length-i.i) (X7.start _ _) wk wk λi=>?_
 simp only[ab,ae];have hi:=i.le;refine wA 5 I<|QA (Qg I Q2)<|wD 3 I ?_
 refine QQ I (λhc2=>?_) λhc2=>?_
 ·have hlt:i.i<l.length:=tD<|wi hc2
  have hem:=Qw hlt;refine wC 8 I<|QA (Q3 (n:=n) i.i tM rfl rfl Q2 JK O)<|QA (JA (n:=n) ((i.i)*1) tM O rfl JK (XT (f:=Jo) (l:=l) O))<|wD 3 I ?_
  refine QQ I (λhc2=>?_) λhc2=>?_
  ·have h14:id (el l i.i)≠0:=bne_iff_ne.1 hc2;refine wA 4 I<|QA (Q3 (n:=n) i.i tM rfl rfl Q2 JK O)<|QA (JA (n:=n) ((i.i)*1) tM O rfl JK (XT (f:=Jo) (l:=l) O))<|wD 4 I ?_
   repeat first|refine Q6 ?_|refine Qv ?_
   exact wg I I (congrArg (au .i64) (hmap ▸ i.hit hlt h14)) tL
  have h14:id (el l i.i)=0:=bne_eq_false_iff_eq.1 hc2;refine QN<|Qj<|wE 3 I<|QA (Qu I I O)<|wB 2 I ?_
  exact Ql (i.next hlt h14) (by show l.length-(i.i+1)<l.length-i.i;omega) wm we tM
 have hge:l.length<=i.i:=tD<|wj hc2
 refine Qx ?_
 repeat first|refine QY ?_|refine QO tH ?_
 refine QZ<|wE 7 I ?_
 exact wg I I (congrArg (au .i64) (hmap ▸ i.stop hge)) tL
section
open Go.RowKit Go.ChangeShapes Go.WideShapes Ig
section
variable{H:Type}{enc:TypeId×Value->H}{w:World}
def QGx(n:Nat):Prop:=n<=9223372036854775807
set_option maxRecDepth 100000 in
theorem QFd{cs:List Value}{x:DataW H×List MemPlace}(h:bV enc prog w 0 (λ_=>true) true m 36 cs=some x):∃(r:Sr) (l:List (List UInt8×List UInt8)),cs=[.slice r.q r.n r.cap]/\Ks (Vx w) r l/\QGx r.n:=by
 obtain⟨q,n,cap,l,h1,h2,h3,h4,_,_⟩:=Pe (f:=NU) (Q:=λ_=>True) underlying36 (show prog.cellsOf 40=2 by kernel_rfl) tF (λ_=>rfl) (λn cs x h=>by obtain⟨y,hy⟩:=xF n cs x h;exact⟨y,hy,trivial⟩) h;exact⟨⟨q,n,cap⟩,l,h1,⟨h2,h3⟩,h4⟩
theorem QAc(n:Nat)(cs:List Value)(x:DataW H×List MemPlace)(h:bV enc prog w 0 (λ_=>true) true n 9 cs=some x):∃y:List UInt8,cs=[tx y]/\y.length<=9223372036854775807:=by
 obtain⟨s,rfl,_,hs⟩:=DataW.trod_string underlying9 h;refine⟨s.data.toList,by simp[tx],?_⟩;unfold maxLen at hs;have:s.data.toList.length=s.size:=tJ;omega
set_option maxRecDepth 100000 in
theorem QBJ(m:Nat)(cs:List Value)(x:DataW H×List MemPlace)(h:bV enc prog w 0 (λ_=>true) true m 76 cs=some x):
  ∃a:NQ,cs=[a.1.v]/\(Qy (Vx w) a.1.q a.1.n 2 (a.2.flatMap VM)/\Yy (Vx w) a.2)/\a.2.length=a.1.n/\QGx a.1.n/\∀t∈a.2,QGw t:=by
 obtain⟨q,n,cap,l,h1,h2,h3,h4,h5,h6⟩:=Pe (cs:=cs) (f:=VM) (Q:=λy=>J8 (Vx w) y.r y.k/\QGw y) underlying76 (show prog.cellsOf 108=2 by kernel_rfl) tF (λ_=>rfl) ua h;exact⟨(⟨q,n,cap⟩,l),h1,⟨h2,λt ht=>(h5 t ht).1⟩,h3,h4,λt ht=>(h5 t ht).2⟩
def QFP(l:List NQ):(l.flatMap λa=>[a.1.v])=l.map λe=>e.1.v:=by
 induction l with
 |nil=>rfl
 |cons a l ih=>rw[ba,ih];rfl
set_option maxRecDepth 100000 in
theorem QEz{v:Value}{d:DataW H}{p:List MemPlace}(hv:eC prog w .any b 38 v)(h:eM enc prog w 0 (λ_=>true) true 38 v d p):∃y:Xz,v=y.v/\X4 (Vx w) y/\vG y:=by
 obtain⟨v0,v1,v2,yz0,y1,y2,n,rfl,_,_,h0,h1,h2⟩:=Joins.open_agg3 underlying38 tE tE hv h;obtain⟨q0,n0,c0,nl,e0,a1,a2,a3,a4,a5⟩:=Pe (cs:=[v0]) (f:=λy=>[tx y]) (Q:=λy=>y.length<=9223372036854775807) underlying34 (show prog.cellsOf 9=1 by kernel_rfl) tF (λ_=>rfl) QAc h0;obtain⟨q1,n1,c1,rl,e1,b1,b2,b3,b4,b5⟩:=Pe (cs:=[v1]) (f:=λa:NQ=>[a.1.v]) (Q:=λa=>(Qy (Vx w) a.1.q a.1.n 2 (a.2.flatMap VM)/\Yy (Vx w) a.2)/\a.2.length=a.1.n/\QGx a.1.n/\∀t∈a.2,QGw t) underlying35 (show prog.cellsOf 76=1 by kernel_rfl) tF (λ_=>rfl) QBJ h1;obtain⟨r2,sl,e2,s1,s2⟩:=QFd h2;obtain rfl:=(bz e0).1;obtain rfl:=(bz e1).1;obtain rfl:=(bz e2).1;rw[QGf]at a1;rw[QFP]at b1;exact⟨⟨⟨q0,n0,c0⟩,nl,⟨q1,n1,c1⟩,rl,r2,sl⟩,rfl,⟨a1,b1,λe he=>(b4 e he).1,s1.row,a2,b2,s1.len⟩,⟨a3,a5,a4,b3,s2,λe he=>⟨(b4 e he).2.1,(b4 e he).2.2.1,λt ht=>((b4 e he).1.2 t ht).2.1⟩⟩⟩
set_option maxRecDepth 100000 in
theorem QE0{v:Value}{d:DataW H}{p:List MemPlace}(hv:eC prog w .any b 36 v)(h:eM enc prog w 0 (λ_=>true) true 36 v d p):∃(r:Sr) (l:List (List UInt8×List UInt8)),v=r.v/\Ks (Vx w) r l/\QGx r.n:=by
 obtain⟨q,n,cap,l,h1,h2,h3,h4⟩:=QBU hv h;exact⟨⟨q,n,cap⟩,l,h1,⟨h2,h3⟩,h4⟩
end
end
def eqI8(a:Int):It .eql (.int .i64 a) (.int .i64 a)=some (.bool true):=by simp[It]
structure WnJ(xs:List Rat) where
 i:Nat
 v:Value
 ob:List (Nat×Obj)
 le:i<=xs.length
 hr:Q8 22 1 v i (((xs.take i).map JP).map tx) ob
def WnJ.next{xs:List Rat}(s:WnJ xs)(h:s.i<xs.length){v:Value}{ob:List (Nat×Obj)}{x:Rat}(hx:x=el xs s.i)(hr:Q8 22 1 v (s.i+1) (((xs.take s.i).map JP).map tx++[tx (JP x)]) ob):WnJ xs:=⟨s.i+1,v,ob,h,by rw[XE h,bB,bB,<-hx];exact hr⟩
structure QxR(F:Gs)(r:Sr)(vs:List XP):Prop where
 row:Qy F r.q r.n 2 (vs.flatMap LP)
 len:vs.length=r.n
def QxR.le{F':Gs}{r:Sr}{vs:List XP}(h:QxR F r vs)(k:Gs.le F F'):QxR F' r vs:=⟨h.row.le k,h.len⟩
def QEi(x:XP):∀v∈LP x,v.oneCell'=true:=λv hv=>by
 simp only[LP,bG,bm,or_false]at hv;rcases hv with rfl | rfl<;>rfl
def QEh(h:∀s∈l,Xd s.1 s.2=0):l.flatMap NU=(lV l).flatMap LP:=by
 induction l with
 |nil=>rfl
 |cons s l ih =>
  have h1:=Ku (h s (.head _));show NU s++l.flatMap NU=LP (JB s)++(lV l).flatMap LP;rw[ih λu hu=>h u (.tail _ hu)];congr 1;show[tx s.1,tx s.2]=[tx (JP (Qz s.1)),tx (JP (Qz s.2))];rw[<-(XM h1.1).1,<-(XM h1.2.1).1]
def Ks.q{r:Sr}(hx:Ks F r l)(h:∀s∈l,Xd s.1 s.2=0):QxR F r (lV l):=⟨by rw[<-QEh h];exact hx.row,by rw[Yg];exact hx.len⟩
def QHh(a b:Rat):Gx a b=a\/Gx a b=b:=by unfold Gx;split<;>simp
def Ip(c:Rat×Rat)(bs:List (Rat×Rat))(ks:List Int)(i:Nat):Rat×Rat:=(eP i).foldl (λa j=>Jg a (Y5 (el bs j) (Qm ks j))) c
def vI(c:Rat×Rat)(bs:List (Rat×Rat))(ks:List Int)(i:Nat):Ip c bs ks (i+1)=Jg (Ip c bs ks i) (Y5 (el bs i) (Qm ks i)):=by
 unfold Ip;rw[ep,aT];rfl
def QAZ(c:Rat×Rat)(bs:List (Rat×Rat))(ks:List Int)(i:Nat):VT c bs ks (i+1)=if Qm ks i>0 then Jg (VT c bs ks i) (Y5 (el bs i) (Qm ks i))else VT c bs ks i:=by
 unfold VT;rw[ep,aT];rfl
theorem QC6(x y:Rat):Dv x y<=x/\Dv x y<=y:=by rw[O9];grind
theorem QC7(x y:Rat):x<=Gx x y/\y<=Gx x y:=by rw[CA];grind
def QGU(a b:Rat×Rat):(QBe a b).1<=(QBe a b).2:=by
 unfold QBe;exact bK (QC6 _ _).1 (bK (QC6 _ _).1 (bK (QC7 _ _).1 (QC7 _ _).1))
def QDW(b:Rat×Rat):Y5 b 0=(1,1):=by
 rw[pow_eq];have h1:b.1^(0:Int).toNat=1:=by show b.1^0=1;exact bJ _
 have h2:b.2^(0:Int).toNat=1:=by show b.2^0=1;exact bJ _
 unfold QDX;rw[h1,h2,O9,CA];simp
theorem QAr(h:a.1<=a.2):Jg a (1,1)=a:=by
 rw[jw];unfold QBe;simp only[Rat.mul_one,O9,CA];obtain⟨x,y⟩:=a;simp only at h;simp only[eN,if_true];by_cases k:y<=x
 ·have:x=y:=Rat.le_antisymm h k;subst this;simp
 rw[if_pos h,if_neg k]
def gV{c:Rat}{bs:List (Rat×Rat)}(hk:∀i,0<=Qm ks i):∀i,Ip (c,c) bs ks i=VT (c,c) bs ks i/\(Ip (c,c) bs ks i).1<=(Ip (c,c) bs ks i).2
 |0=>⟨rfl,eN⟩
 |i+1=>by
  obtain⟨h1,h2⟩:=gV hk i;rw[vI,QAZ,<-h1];by_cases g:Qm ks i>0
  ·rw[if_pos g];exact⟨rfl,by rw[jw];exact QGU _ _⟩
  have:Qm ks i=0:=tD<|hk i
  rw[if_neg g,this,QDW,QAr h2];exact⟨rfl,h2⟩
theorem QEv(n:Int)(ha:Ux m a):Ux (n.toNat*m+1) (Y5 a n):=by
 have key:∀x:Rat,JW x<=m->JW (x^n.toNat)<=n.toNat*m+1:=λx hx=>ag (VP x _) (Nat.add_le_add_right (Nat.mul_le_mul_left _ hx) _);have h:=Dt (k:=n.toNat*m+1) (r:=a.1^n.toNat) (l:=[a.2^n.toNat]) (key _ ha.1) λx hx=>by
  obtain rfl:=List.mem_singleton.1 hx;exact key _ ha.2
 unfold Y5;refine⟨?_,h.2⟩;dsimp only;split
 ·exact ag QEW O
 exact h.1
def yp(h:∀k∈ks,0<=k)(i:Nat):0<=Qm ks i:=by
 rcases eG i ks.length with g | g
 ·exact h _ (by rw[Z9 g];exact ee g)
 unfold Qm;rw[dif_neg O];exact Int.le_refl _
def Uy(bs:List (Rat×Rat))(l:List Tm):Rat×Rat:=l.foldl (λa t=>QCw a (Ip (t.1,t.1) bs t.2 t.2.length)) (0,0)
theorem QGN{bs:List (Rat×Rat)}{l:List Tm}(h:∀t∈l,∀k∈t.2,0<=k):Uy bs l=J3 bs l:=by
 unfold Uy J3;have:∀(l:List Tm) (a:Rat×Rat),(∀t∈l,∀k∈t.2,0<=k)->l.foldl (λa t=>QCw a (Ip (t.1,t.1) bs t.2 t.2.length)) a=l.foldl (λa t=>Vz a (VT (t.1,t.1) bs t.2 t.2.length)) a:=by
  intro l
  induction l with
  |nil=>exact λ_ _=>rfl
  |cons t l ih =>
   intro a h;rw[er,er,(gV (yp (h t (List.mem_cons_self ..))) _).1];exact ih _ λu hu=>h u (aN _ hu)
 exact this l (0,0) h
def QDT{bs:List (Rat×Rat)}(h:i<ps.length):Uy bs ((ps.take (i+1)).map R6)=QCw (Uy bs ((ps.take i).map R6)) (Ip (Qz (el ps i).f,Qz (el ps i).f) bs (el ps i).k (el ps i).k.length):=by
 unfold Uy;rw[XE h,bB,aT];rfl
theorem QEl{b:Rat×Rat}(hF:Fits F w)(ha:Ux 45000 a)(hb:Ux 45000 b):Qf prog 121 [kh a,kh b] w F (kh (Jg a b)):=by
 have h:=ur hF ha hb;rw[<-jw]at h;exact h
theorem QEq{b:Rat×Rat}(hF:Fits F w)(ha:Ux 100000 a)(hb:Ux 100000 b):Qf prog 127 [kh a,kh b] w F (kh (QCw a b)):=uz hF ha hb
structure NtI(n:Nat) where
 i:Nat
 le:i<=n
def ja{l:List Int}(h:k<l.length):Qm l k∈l:=by rw[Z9 h];exact ee h
def DG.drop{l:List Int}(hd:DG B9 l)(k:Nat):DG B9 (l.drop k):=λx hx=>hd x (aV hx)
def QCn(l:List XP):(l.flatMap LP).length=l.length*2:=Dq (f:=LP) uh l
theorem QGJ{a:XP}{n:Int}(hF:Fits F w)(ha:Xf a 2000)(hn:0<=n/\n<=12):Qf prog 228 [kh a,.int .i64 n] w F (kh (Y5 a n)):=by
 have h:=gQ (a:=a) (n:=n) hF ha hn;rw[<-pow_eq]at h;exact h
structure jT(Z D T S:Nat)(ps:List V0)(bs:List XP):Prop where
 poc:ke Z D T bs.length (ps.map R6)
 ck:∀t∈ps,Jp t.f=0
 sz:∀x∈bs,Xf x S
 s1:S<=2000
 n1:Z+D*(S+1)<=45000
 n2:CO Z D T S<=90000
def jT.pw(h:jT Z D T S ps bs){t:V0}(ht:t∈ps):t.k.length=bs.length/\∀k∈t.k,0<=k/\k<=12:=⟨h.poc.pl _ (aq (f:=R6) ht),h.poc.pw _ (aq (f:=R6) ht)⟩
def jT.refs(h:jT Z D T S ps bs){t:V0}(ht:t∈ps){i:Nat}(hi:i<=bs.length):Xf (Ip (Qz t.f,Qz t.f) bs t.k i) 45000:=by
 rw[(gV (yp λk hk=>((h.pw ht).2 k hk).1) i).1];have h1:=Cm h.poc I h.sz (aq (f:=R6) ht) i hi;refine Xf.mono h1 (ag (bX (aO _ (ag (Dl _ hi) (h.poc.sum _ (aq (f:=R6) ht)))) Z) h.n1)
def jT.QI6(h:jT Z D T S ps bs){t:V0}(ht:t∈ps){i:Nat}(hi:i<bs.length):Xf (Y5 (el bs i) (Qm t.k i)) 45000:=by
 have h1:=QEv (Qm t.k i) (show Ux S (el bs i)from h.sz _ (Qw hi));have h2:=(h.pw ht).2 (Qm t.k i) (ja (by rw[(h.pw ht).1];exact hi));have h3:(Qm t.k i).toNat*S<=12*2000:=aS O h.s1;exact⟨ag h1.1 O,ag h1.2 O⟩
theorem vJ(h:∀t∈ps,∀k∈t.k,0<=k)(i:Nat):Uy bs ((ps.take i).map R6)=J3 bs ((ps.map R6).take i):=by
 rw[<-ey];exact QGN λt ht k hk=>by
  rw[ey]at ht;obtain⟨s,hs,rfl⟩:=List.mem_map.1 (aM ht);exact h s hs k hk
theorem jT.ev(h:jT Z D T S ps bs){i:Nat}(hi:i<=ps.length):Xf (Uy bs ((ps.take i).map R6)) 90000:=by
 rw[vJ λt ht k hk=>((h.pw ht).2 k hk).1];have h1:=Ii h.poc I h.sz i (by rw[aj];exact hi);refine h1.mono (ag ?_ h.n2);unfold CO;exact bX (aO _ (ag hi (by have:=h.poc.len;rw[aj]at this;exact this))) 2
theorem ux{q:Option Addr}(hF:Fits F w)(hR:Qy F q n 2 (ps.flatMap VM))(hP:Yy F ps)(hln:ps.length=n)(hS:QxR F rb bs)(ho:jT Z D T S ps bs)(hb:n<=1000000/\rb.n<=1000000):
  Qf prog 136 [.slice q n cap,rb.v] w F (kh (J3 bs (ps.map R6))):=by
 have hsn:=hS.len;refine QU.intro (G:=λF=>Qy F q n 2 (ps.flatMap VM)/\Yy F ps/\QxR F rb bs) func136 rfl tH rfl rfl hF (λF' hF'=>⟨hR.le hF',hP.le hF',hS.le hF'⟩)<|wa<|Qc Xa λb4=>wY<|wa<|QI rfl (λ_ _ f k=>VC f) λ_=>Qc Xa λb5=>QW (vs:=[_,_]) rfl rfl rfl Jd rfl .here .h2 wm<|wD 5 I<|wZ rfl<|QV<|JU (ι:=NtI ps.length) [(0,_),(1,_),(4,_),(5,_)] (λi=>[(6,.int .i64 ((i.i:Nat):Int))]) (λi=>[(b5,.cells [tx (JP (Uy bs ((ps.take i.i).map R6)).1),tx (JP (Uy bs ((ps.take i.i).map R6)).2)].toArray 40 (0,0)),(b4,.cells [tx [],tx []].toArray 40 (0,0))]) (λi F=>True) (λi=>ps.length-i.i) (⟨0,ax _⟩) wv wk ((by show bc (α:=Nat×Obj) [(b5,.cells [tx (JP ((0,0):Rat×Rat).1),tx (JP ((0,0):Rat×Rat).2)].toArray 40 (0,0)),(b4,.cells [tx [],tx []].toArray 40 (0,0))] _;rw[show JP ((0,0):Rat×Rat).1=[48]from by decide +kernel];exact aC _)) tL λi=>?_
 simp only[ab,ae];have hi:=i.le;have hze:=ho.ev hi;refine wA 5 I<|QA (Qg I Zg)<|wD 3 I ?_
 refine QQ I (λhc2=>?_) λhc2=>?_
 ·have hlt:i.i<ps.length:=tD<|wi hc2
  have hem:=Qw hlt;have htc:=ho.ck _ hem;obtain⟨hkl,hkp⟩:=ho.pw hem;have hrl:=(hP _ hem).2.1;refine wC 8 I<|QA (Q3 (n:=n) i.i (λF h9=>h9.1.1.1) rfl rfl Zg Xh O)<|QA (QH I GM JF)<|QA (JA (n:=n) ((i.i)*2+0) (λF h9=>h9.1.1.1) O rfl JF (JN (f:=VM) (l:=ps) YR O rfl))<|QI I (λ_ _ f k=>VC f) λ_=>Qc Xa λb7=>QW (vs:=[_,_]) I I I Jd I .here .h2 wm<|wD 9 I<|JU (ι:=NtI bs.length) [(0,_),(1,_),(4,_),(5,_),(6,_),(7,_)] (λi2=>[(8,.int .i64 ((i2.i:Nat):Int))]) (λi2=>[(b7,.cells [tx (JP (Ip (Qz (el ps i.i).f,Qz (el ps i.i).f) bs (el ps i.i).k i2.i).1),tx (JP (Ip (Qz (el ps i.i).f,Qz (el ps i.i).f) bs (el ps i.i).k i2.i).2)].toArray 40 (0,0)),(b5,.cells [tx (JP (Uy bs ((ps.take i.i).map R6)).1),tx (JP (Uy bs ((ps.take i.i).map R6)).2)].toArray 40 (0,0)),(b4,.cells [tx [],tx []].toArray 40 (0,0))]) (λi2 F=>True) (λi2=>bs.length-i2.i) (⟨0,ax _⟩) wz wk ((by show bc (α:=Nat×Obj) [(b7,.cells [tx (JP ((Qz (el ps i.i).f,Qz (el ps i.i).f):Rat×Rat).1),tx (JP ((Qz (el ps i.i).f,Qz (el ps i.i).f):Rat×Rat).2)].toArray 40 (0,0)),(b5,.cells [tx (JP (Uy bs ((ps.take i.i).map R6)).1),tx (JP (Uy bs ((ps.take i.i).map R6)).2)].toArray 40 (0,0)),(b4,.cells [tx [],tx []].toArray 40 (0,0))] _;dsimp only;rw[<-(XM htc).1];exact aC _)) tL λi2=>?_
  simp only[ab,ae];have hj:=i2.le;have hz2:=ho.refs hem hj;refine wA 5 I<|QA (Qg I XF)<|wD 3 I ?_
  refine QQ I (λhc2=>?_) λhc2=>?_
  ·have hlt2:i2.i<bs.length:=tD<|wi hc2
   have hsm:=(ho.sz _ (Qw hlt2)).mono ho.s1;have hdg:=hkp (Qm (el ps i.i).k i2.i) (ja O);have hpz:=ho.QI6 hem hlt2;refine wC 4 I<|Jq 15 we mixed tE tE ?_
   simp only[List.take_succ_cons,eu,aY,List.drop_zero];refine QK (wN I Jd .here)<|QK (QD I)<|QK (QD I)<|QK (Q3 (n:=rb.n) (i2.i) (λF h9=>h9.1.1.1.1.2.2.row) rfl rfl XF Jd O)<|QK (JZ (n:=rb.n) (vs:=[tx (JP (el bs (i2.i)).1),tx (JP (el bs (i2.i)).2)]) ((i2.i)*2) (λF h9=>h9.1.1.1.1.2.2.row) O rfl Jd I λj v hv=>JN (f:=LP) (l:=bs) uh O hv)<|QK (QD I)<|QK (QD I)<|QK (Q3 (n:=n) i.i (λF h9=>h9.1.1.1.1.1) rfl rfl Zg Xh O)<|QK (QH I Yh JM)<|QK (JA (n:=n) ((i.i)*2+1) (λF h9=>h9.1.1.1.1.1) O rfl JM (JN (f:=VM) (l:=ps) YR O rfl))<|QK (QD I)<|QK (Q3 (n:=(el ps i.i).r.n) (i2.i) (λF h9=>((h9.1.1.1.1.2.1 _ hem)).1) rfl rfl Q2 JK O)<|QK (JA (n:=(el ps i.i).r.n) ((i2.i)*1) (λF h9=>((h9.1.1.1.1.2.1 _ hem)).1) O rfl JK (Jz (o:=(el ps i.i).k) O))<|QR I (λ_ _ f k=>QGJ (a:=el bs i2.i) f hsm hdg) λ_=>QR I (λ_ _ g h=>QEl (a:=(Ip (Qz (el ps i.i).f,Qz (el ps i.i).f) bs (el ps i.i).k i2.i)) (b:=Y5 (el bs i2.i) (Qm (el ps i.i).k i2.i)) g hz2 hpz) λ_=>ZS<|QW (vs:=[_,_]) I I I Jd I .here .h2 wm<|QE<|Qj<|wE 3 I<|QA (Qu I I O)<|wB 2 I ?_
   exact Ql (⟨i2.i+1,hlt2⟩) (by show bs.length-(i2.i+1)<bs.length-i2.i;omega) w6 ((by show bc (α:=Nat×Obj) [(b7,.cells [tx (JP (Ip (Qz (el ps i.i).f,Qz (el ps i.i).f) bs (el ps i.i).k (i2.i+1)).1),tx (JP (Ip (Qz (el ps i.i).f,Qz (el ps i.i).f) bs (el ps i.i).k (i2.i+1)).2)].toArray 40 (0,0)),(b5,.cells [tx (JP (Uy bs ((ps.take i.i).map R6)).1),tx (JP (Uy bs ((ps.take i.i).map R6)).2)].toArray 40 (0,0)),(b4,.cells [tx [],tx []].toArray 40 (0,0))] _;rw[vI];exact aC _)) λF h=>⟨h.1.1.1,trivial⟩
  have hge2:i2.i=bs.length:=tD<|wj hc2
  refine Qx ?_
  repeat first|refine QY ?_|refine QO tH ?_
  refine QZ<|QC<|QB<|QA (wN I Jd .u1)<|QA (wN I Jd .here)<|QI I (λ_ _ g h=>QEq (a:=(Uy bs ((ps.take i.i).map R6))) (b:=(Ip (Qz (el ps i.i).f,Qz (el ps i.i).f) bs (el ps i.i).k i2.i)) g (Xf.mono hze tF) (Xf.mono hz2 tF)) λ_=>QW (vs:=[_,_]) I I I Jd I .u1 .h2 wm<|QE<|Qj<|wE 3 I<|QA (Qu I I O)<|wB 2 I ?_
  have ek:(el ps i.i).k.length=i2.i:=O;exact Ql (⟨i.i+1,hlt⟩) (by show ps.length-(i.i+1)<ps.length-i.i;omega) wy (.cons _ (by show bc (α:=Nat×Obj) [(b5,.cells [tx (JP (Uy bs ((ps.take (i.i+1)).map R6)).1),tx (JP (Uy bs ((ps.take (i.i+1)).map R6)).2)].toArray 40 (0,0)),(b4,.cells [tx [],tx []].toArray 40 (0,0))] _;rw[QDT hlt,ek];exact aC _)) λF h=>⟨h.1.1.1.1,trivial⟩
 have hge:i.i=ps.length:=tD<|wj hc2
 refine Qx ?_
 repeat first|refine QY ?_|refine QO tH ?_
 refine QZ<|QC<|wa<|QA (wN I Jd .here)<|QW (vs:=[_,_]) I I I Jd I .u1 .h2 wm<|wY<|QX ?_
 exact QP (()) I (.JX (c:=[_,_]) I Jd .u1 .nil) (by rw[hge,vJ (λt ht k hk=>((ho.pw ht).2 k hk).1),bI (by rw[aj];exact ai _)]) tL
def QA5(h:i<y.rl.length):el y.rs i=(el y.rl i).2.map R6:=by
 unfold Xz.rs;rw[Jb (by simpa using h),List.getElem_map,Jb h,Mo]
theorem ui(l:List XP):∀v∈l.flatMap LP,v.oneCell'=true:=λv hv=>by obtain⟨s,_,h⟩:=List.mem_flatMap.1 hv;exact QEi s v h
def Sw(l:List Rat):Nat:=l.foldr (λr q=>r.den*q) 1
def Mw:∀l:List Rat,0<Sw l
 |[]=>bQ
 |r::l=>bR r.den_pos (Mw l)
theorem xX:∀ {l:List Rat} {r:Rat},r∈l->r.den ∣ Sw l
 |a::l,r,h=>by
  rcases List.mem_cons.1 h with rfl | h
  ·exact Nat.dvd_mul_right _ _
  exact Nat.dvd_trans (xX h) (Nat.dvd_mul_left _ _)
def QCu:∀ {l:List Rat},(∀r∈l,JW r<=k)->sz ((Sw l:Nat):Int)<=l.length*k+1
 |[],_=>by rw[List.length_nil,bj];decide
 |r::l,h=>by
  have h1:=QCu λx hx=>h x (aN _ hx);have h2:sz (r.den:Int)<=k:=ag (bw _ _) (h r tJ);have h3:=K8 (r.den:Int) ((Sw l:Nat):Int);rw[<-aQ]at h3;show sz ((r.den*Sw l:Nat):Int)<=_;rw[ah,aX];omega
structure SmS(Z T D m:Nat)(rs:List (List Tm)):Prop where
 N4:∀p∈rs,∀u∈p,JW u.1<=Z/\Zz u.2 (m+1)<=D/\u.2.length=m+1/\∀k∈u.2,0<=k/\k<=12
 len:∀p∈rs,p.length<=T
 hn:rs.length=m
def QHp{Q B:Nat}{r:Rat}(h0:0<Q)(hd:r.den ∣ Q)(hs:JW r<=B):Cl Q 1 B r:=Cl.of r h0 hd (ag (bF _ _) hs)
def Uc(vb:List XP):List Rat:=vb.flatMap λs=>[s.1,s.2]
theorem QAA:∀vb:List XP,(Uc vb).length=2*vb.length
 |[]=>rfl
 |a::vb=>by show([a.1,a.2]++Uc vb).length=_;rw[ak,QAA vb,ah];simp;omega
def cy{x:XP}(h:x∈vb):x.1∈Uc vb/\x.2∈Uc vb:=⟨List.mem_flatMap.2 ⟨x,h,tJ⟩,List.mem_flatMap.2 ⟨x,h,tJ⟩⟩
def QEa:∀(ks:List Int) (m:Nat),(∀k∈ks,0<=k)->ks.length=m->((Zz ks m:Nat):Int)=ks.sum:=by
 intro ks;have key:∀(m:Nat) (ks:List Int),(∀k∈ks,0<=k)->m<=ks.length->((Zz ks m:Nat):Int)=(ks.take m).sum:=by
  intro m
  induction m with
  |zero=>intro ks _ _;rw[eu];rfl
  |succ m ih =>
   intro ks h hm;show((Zz ks m+(Qm ks m).toNat:Nat):Int)=_;rw[XE (show m<ks.length by omega),List.sum_append,Int.natCast_add,ih ks h O];have h1:=h (Qm ks m) (ja O);have h2:el ks m=Qm ks m:=(YW O).symm;rw[h2];simp;omega
 intro m h hl;rw[key m ks h O,<-hl,aK]
theorem QGh{d z:Nat}(h:Uz s d=true)(hz:10^d<=2^z):JW (Qz s)<=z:=by
 simp only[Uz,ar,decide_eq_true_eq,beq_iff_eq]at h;obtain⟨_,hc,h1,h2⟩:=h;have hs:=(XM hc).1;generalize Qz s=x at hs;have key:∀n:Nat,(ao n).length<=d->n<2^z:=λn hn=>by
  have a:=Hb (Jy n);rw[Xi]at a;exact aE (aE a (bP tF hn)) hz
 have e:numOf (JP x)=Ze x.num:=by
  unfold numOf;by_cases h:x.den=1
  ·obtain⟨h1,h2⟩:=LL h;rw[h2,aK,h1]
  exact(EB h).2.2.1
 rw[hs,e,QAM]at h1;have hn:sz x.num<=z:=(XD _ _).2 (key _ O);have hd:sz (x.den:Int)<=z:=by
  refine(XD _ _).2 ?_;rw[aF];by_cases g:x.den=1
  ·have:(1:Nat)<=10^d:=Nat.one_le_pow _ _ tF;have hx:d≠0:=by
    intro h0;have:=Kn x.num.natAbs;have h3:(ao x.num.natAbs).length≠0:=λq=>this (List.length_eq_zero_iff.1 q);omega
   have:1<10^d:=Nat.one_lt_pow hx tF;omega
  refine key _ ?_;rw[hs]at h2;unfold CS at h2;rw[if_neg λe=>g ((LM x).1 e),(EB g).2.2.2]at h2;omega
 exact Nat.max_le.2 ⟨hn,hd⟩
theorem QGF{v:Int}(h:pT y v 3 6=true)(hr:y.rl.length=y.rt.n):SmS 20 4 3 y.rl.length y.rs/\(y.rl.length:Int)<=v:=by
 unfold pT at h;rw[ar,aB]at h;obtain⟨h0,h1⟩:=h;refine⟨⟨λp hp u hu=>?_,λp hp=>?_,by unfold Xz.rs;rw[aj]⟩,by rw[hr];exact(QFQ h0).2.2.1⟩
 ·obtain⟨e,he,rfl⟩:=List.mem_map.1 hp;obtain⟨x,hx,rfl⟩:=List.mem_map.1 hu;have h2:=h1 e he;unfold fpB at h2;split at h2
  ·cases h2
  rename_i hg;rw[bh,List.any_eq_false]at h2;have h3:=h2 x hx;rw[Bool.not_eq_true,ay,aD,decide_eq_false_iff_not]at h3;have h4:Zh (ZX e.2) (y.rt.n:Int)=0:=by
   rcases Decidable.em (Zh (ZX e.2) (y.rt.n:Int)=0)with g | g
   ·exact g
   exact absurd (Or.inr g) hg
  have h5:=Wv ((H4 h4).term x hx);have hlen:x.2.length=y.rl.length+1:=tD h5.1;refine⟨QGh h3.2 tF,?_,hlen,h5.2.1⟩;have h6:=QEa x.2 (y.rl.length+1) (λk hk=>(h5.2.1 k hk).1) hlen;show Zz x.2 (y.rl.length+1)<=3;have:=h3.1;omega
 obtain⟨e,he,rfl⟩:=List.mem_map.1 hp;have h2:=h1 e he;unfold fpB at h2;split at h2
 ·cases h2
 rename_i hg;have h3:¬((ZX e.2).length:Int)>4:=λg=>hg (Or.inl g);unfold Xq;rw[aj];omega
structure SmY(y:Xz)(m:Nat):Prop where
 s:SmS 20 4 3 m y.rs
 rl:y.rl.length=m
 pl:∀e∈y.rl,e.2.length=e.1.n/\e.1.n<=1000/\∀t∈e.2,Jp t.f=0
structure ShB(m:Nat)(x:List XP):Prop where
 len:x.length=m
 sz:∀a∈x,Xf a 160
 ord:Nv x
theorem SmS.po{rs:List (List Tm)}(h:SmS Z T D m rs){i:Nat}(hi:i<rs.length):ke Z D T (m+1) (el rs i) :=
 ⟨h.len _ (Qw hi),λu hu=>(h.N4 _ (Qw hi) u hu).1,λu hu=>(h.N4 _ (Qw hi) u hu).2.1,λu hu=>(h.N4 _ (Qw hi) u hu).2.2.1,λu hu k hk=>(h.N4 _ (Qw hi) u hu).2.2.2 k hk⟩
theorem ShB.rv{t:XP}{x:List XP}(h:SmY y m)(hx:ShB m x)(ht:Xf t 160){i:Nat}(hi:i<y.rl.length):jT 20 3 4 160 (el y.rl i).2 (t::x):=by
 have hp:=h.s.po (i:=i) (by rw[h.s.hn,<-h.rl];exact hi);rw[QA5 hi]at hp;exact⟨by rw[ah,hx.len];exact hp,(h.pl _ (Qw hi)).2.2,λa ha=>by
  rcases List.mem_cons.1 ha with rfl | ha
  ·exact ht
  exact hx.sz a ha,tF,tF,tF⟩
theorem ShB.ev{t:XP}{x:List XP}(h:SmY y m)(hx:ShB m x)(ht:Xf t 160){i:Nat}(hi:i<y.rl.length):Xf (J3 (t::x) (el y.rs i)) 2100:=by
 have h1:=Wf (h.s.po (i:=i) (by rw[h.s.hn,<-h.rl];exact hi)) (bs:=t::x) (S:=160) (by rw[ah,hx.len]) λa ha=>by
  rcases List.mem_cons.1 ha with rfl | ha
  ·exact ht
  exact hx.sz a ha
 exact h1.mono tF
def dM{a d:Nat}(h:a<=c)(k:b<=d):a*b<=c*d:=aS h k
section
variable{y:Xz}{m n:Nat}{fr t2:Rat}{x on:List XP}(h:SmY y m)(hm:m<=2)(hx:ShB m x)(ho:ShB m on)(hf:JW fr<=56)(ht:JW t2<=56)(hlt:fr<=t2)(hn:n<=3)
include h hm hx ho hf ht hlt hn
omit h hm hlt hn in
omit hlt hn in
omit hm hlt in
omit h hm hx ho hf ht hlt in
end
def Wl.sl(b:Wl)(k:Nat):List (List UInt8×List UInt8):=if k=0 then b.wl else b.ll
def QGA{a b:Rat}(ha:JW a<=k)(hb:JW b<=k):JW (E2 a b)<=k:=by unfold E2;split<;>assumption
theorem QGV(m x:Rat):Gx m x=E2 m x:=by
 have h1:=Uj m x;have h2:=K3 x m;unfold Gx E2;by_cases h:Yw m x>=0
 ·rw[if_pos h];have h3:=h1.1 h;rw[if_neg (λk=>by have:=h2.1 k;grind)]
 rw[if_neg h];rw[if_pos (h2.2 (by have:¬x<=m:=λk=>h (h1.2 k);grind))]
section
variable{P:Program}{N:Nat}{m:Sl}{Y:World->Prop}{ty:TypeId}
theorem cA{T e:TypeId}{x:Operand}{lo:Option Operand}{vl:Option Value}{q:Option Addr}{sz:Nat}{g:Bool}(l:Nat)(hx:ev m x=some (.slice q n c))(el:Is m lo=some vl)(hl:vl=some (.int .i64 (l:Int)))(hT:Gp P T=some e)(hs:Z5 P e=some (g,sz))(hln:l<=n)(hc:n<=c):
  Qt P N m Y (.slice T x lo none none) ty (.slice (if c=l then q else q.map λa=>a.add (l*sz)) (n-l) (c-l)):=λa w _ _ _ _ ha _=>by
 subst hl;have hlc:l<=c:=ag hln hc;have hrun:(eF T (.slice q n c) (some (.int .i64 (l:Int))) none none).run P w = .ok (.slice (if c=l then q else q.map λa=>a.add (l*sz)) (n-l) (c-l)) w:=by
  simp[eF,run_underlying (Q5 hT),Instr.sliceBounds,Instr.sliceBound,asIntOf,hc,hln,hlc,K4 hs]
 simp[execOp,ha.ev hx,ha.Is el,Instr.sliceAt,run_underlying (Q5 hT),hrun]
end
theorem Qy.drop{q:Option Addr}{sz:Nat}{cs:List Value}(h:Qy F q n sz cs)(hc:n<=c)(l:Nat):Qy F (if c=l then q else q.map λa=>a.add (l*sz)) (n-l) sz (cs.drop (l*sz)):=by
 refine⟨by rw[aL,h.1,Nat.sub_mul],λh0=>?_⟩;obtain⟨b,off,arr,T,e1,e2,e3⟩:=h.2 O;subst e1;rw[if_neg O];refine⟨b,off+l*sz,arr,T,by rw[bY,BP],e2,λj u hu=>?_⟩;rw[eE];rw[List.getElem?_drop]at hu;exact e3 _ u hu
def R9(P:List Tm)(i:Nat)(k:List Int):Bool:=decide (i<P.length)&&decide ((el P i).2=k)
def Ch(P:List Tm)(i:Nat)(k:List Int):Nat:=if R9 P i k=true then i+1 else i
def uT(P:List Tm)(i:Nat)(t:Tm):Rat:=if R9 P i t.2=true then(el P i).1+t.1 else t.1
theorem cC(t:Tm):∀ {P:List Tm} {i:Nat},i<=P.length->(∀x∈P.take i,before x.2 t.2=true)->(i<P.length->before (el P i).2 t.2=false) ->
  Z0 P t=P.take i++(if uT P i t=0 then[]else[(uT P i t,t.2)])++P.drop (Ch P i t.2)
 |[],i,h,_,_=>by
  obtain rfl:i=0:=by simpa using h
  simp[Z0,uT,Ch,R9]
 |y::P,0,_,_,h=>by
  have hb:before y.2 t.2=false:=h tJ;have e1:el (y::P) 0=y:=rfl;unfold Z0 uT Ch R9;rw[e1,if_neg (by rw[hb];decide)];by_cases e:y.2=t.2
  ·simp[e];split<;>rfl
  simp[e];split<;>rfl
 |y::P,i+1,hi,h1,h2=>by
  have e1:el (y::P) (i+1)=el P i:=rfl;have ih:=cC t (P:=P) (i:=i) (by simpa using hi) (λx hx=>h1 x (by simp[hx])) (λh=>by have:=h2 tK;rwa [e1]at this);have hb:=h1 y tJ;have es:R9 (y::P) (i+1) t.2=R9 P i t.2:=by unfold R9;rw[e1];simp
  have eS:uT (y::P) (i+1) t=uT P i t:=by unfold uT;rw[es,e1]
  have eJ:Ch (y::P) (i+1) t.2=Ch P i t.2+1:=by unfold Ch;rw[es];split<;>rfl
  rw[eS,eJ];show Z0 (y::P) t=(y::P.take i)++_++(y::P).drop (Ch P i t.2+1);rw[aY];unfold Z0;rw[if_pos hb,ih];simp
def uf{q:Option Addr}{l sz:Nat}(h:(if c=l then q else q.map λa=>a.add (l*sz))=none):q=none:=by
 split at h
 ·exact h
 simpa using h
def QDN(P:List Tm):(Vg P).length=P.length:=by simp[Vg]
def OO{P:List Tm}(h:ZX ps=Vg P):ps.length=P.length:=by
 have:=congrArg eL h
 rwa [QDF,QDN]at this
def vw{P:List Tm}(h:ZX ps=Vg P){i:Nat}(hi:i<ps.length):(el ps i).f=JP (el P i).1/\(el ps i).k=(el P i).2:=by
 have hl:=OO h;have h1:(ZX ps)[i]?=(Vg P)[i]?:=by rw[h]
 unfold ZX Vg at h1;rw[bZ,bZ,bH hi,bH (show i<P.length by omega)]at h1;simp only[bY,Option.some.injEq,Prod.mk.injEq]at h1;rw[Jb hi,Jb (show i<P.length by omega)];exact h1
def uV(r:Rat):(JP r==[48])=decide (r=0):=by
 rw[af,beq_iff_eq,decide_eq_true_eq];constructor
 ·intro h;have e:JP (0:Rat)=[48]:=tG;have h1:=congrArg Qz (h.trans e.symm)
  rwa [vt,vt]at h1
 rintro rfl;decide +kernel
structure PlJ(ps:List V0)(P:List Tm)(k:List Int) where
 i:Nat
 v:Value
 ob:List (Nat×Obj)
 le:i<=ps.length
 hr:Q8 108 2 v i ((ps.take i).flatMap VM) ob
 hb:∀x∈P.take i,before x.2 k=true
structure PlE(ps:List V0)(P:List Tm)(k:List Int) extends PlJ ps P k where
 stop:i<P.length->before (el P i).2 k=false
def QAJ{P:List Tm}{k:List Int}(h:i<P.length)(hb:∀x∈P.take i,before x.2 k=true)(e:before (el P i).2 k=true):∀x∈P.take (i+1),before x.2 k=true:=by
 intro x hx;rw[XE h]at hx;rcases List.mem_append.1 hx with hx | hx
 ·exact hb x hx
 rw[List.mem_singleton.1 hx];exact e
def QDG{l:List V0}:∀v∈l.flatMap VM,v.oneCell'=true:=by
 intro v hv;obtain⟨t,_,h⟩:=List.mem_flatMap.1 hv;exact jc t v h
def QAK(l:List V0):(l.flatMap VM).length=l.length*2:=by
 induction l with
 |nil=>rfl
 |cons t l ih=>rw[ba,ak,ih,ah,YR];omega
def vc(l:List V0)(j:Nat):(l.flatMap VM).drop (j*2)=(l.drop j).flatMap VM:=by
 induction l generalizing j with
 |nil=>simp
 |cons t l ih =>
  cases j with
  |zero=>simp
  |succ j =>
   rw[aY,<-ih j,ba,show(j+1)*2=2+j*2 by omega,<-List.drop_drop];rfl
def jb(a b:List V0):ZX (a++b)=ZX a++ZX b:=by simp[ZX]
def IW(a b:List Tm):Vg (a++b)=Vg a++Vg b:=by simp[Vg]
def QFh(a:List V0)(i:Nat):ZX (a.take i)=(ZX a).take i:=by simp[ZX]
def QAs(a:List Tm)(i:Nat):Vg (a.take i)=(Vg a).take i:=by simp[Vg]
def QFi(a:List V0)(i:Nat):ZX (a.drop i)=(ZX a).drop i:=by simp[ZX]
def QAt(a:List Tm)(i:Nat):Vg (a.drop i)=(Vg a).drop i:=by simp[Vg]
theorem QEj{q:Option Addr}{r:Sr}{k:List Int}{y:Rat}{P:List Tm}(hF:Fits F w)(hR:Qy F q n 2 (ps.flatMap VM))(hA:Yy F ps)(hn:ps.length=n)(hcap:n<=cap)(hK:J8 F r k)(hP:ZX ps=Vg P)(hz:∀t∈P,JW t.1<=100000)(hy:JW y<=100000)(hw:∀t∈P,t.2.length=k.length/\PW t.2)(hk:PW k)(hl:n<=1000000):
  QU prog 292 [.slice q n cap,.agg #[tx (JP y),.slice r.q r.n r.cap]] w F (λ(c:NQ)=>c.1.v) (λc F=>QED F c.1 c.2 (Vg (Z0 P (y,k)))):=by
 have hPl:=OO hP;have hRJ0:=hR.cM;have hk0:=hK.1.cM;have hkl:=hK.2.1;have hk2:=hk.2;refine QU.intro (G:=λF=>Qy F q n 2 (ps.flatMap VM)/\Yy F ps/\J8 F r k) func292 rfl tH rfl rfl hF (λF' hF'=>⟨hR.le hF',hA.le hF',hK.le hF'⟩)<|wa<|Qp rfl (vs:=[_,_]) rfl λb3=>wZ rfl<|QG<|DP (b:=b3) .here<|QB<|wZ rfl<|wa<|wX rfl<|QE<|QC ?_
 refine Us (ι:=PlE ps P k) [(0,_),(3,_)] (λx=>[(5,x.v),(6,.int .i64 ((x.i:Nat):Int))]) (λx=>x.ob) (λx F=>True) wm ?_ ?_
 ·refine QV<|JU (ι:=PlJ ps P k) [(0,_),(3,_)] (λi=>[(5,i.v),(6,.int .i64 ((i.i:Nat):Int))]) (λi=>i.ob) (λi F=>True) (λi=>ps.length-i.i) (⟨0,_,[],ax _,.nil,tJ⟩) wm wm we tL λi=>?_
  simp only[ab,ae];have hi:=i.le;refine QG<|QG<|JG we mixed tE<|QK (QD I)<|QK (QD I)<|QK (Qg I Zg)<|QK (QT I I I)<|QK (QD I) ?_
  refine Gg (t:=12) rfl (λhb12=>?_) λhb12=>?_
  ·have hlt:i.i<ps.length:=tD<|wi hb12
   have htm:=Qw hlt;obtain⟨ef,ek⟩:=vw hP hlt;have hPm:=Qw (show i.i<P.length by omega);obtain⟨hwl,hwp⟩:=hw _ hPm;refine XA I I<|QK (QD I)<|XA I I<|QK (QD I)<|XA I I<|QK (Q3 (n:=n) i.i (λF h9=>h9.1.1.1) rfl rfl Zg Xh O)<|XA I I<|QK (QH I Yh JM)<|XA I I<|QK (JA (n:=n) ((i.i)*2+1) (λF h9=>h9.1.1.1) O rfl JM (JN (f:=VM) (l:=ps) YR O rfl))<|XA I I<|QK (QH I Yh JM)<|XA I I<|QK (JA (n:=1) ((0)*2+1) (λF h9=>(Qy.of (n:=1) (sz:=2) h9.1.2 I)) O rfl JM I)<|XA I I<|QR I (λ_ _ f k=>vO f (k.1.1.2.1 _ htm) k.1.1.2.2 (by rw[ek];exact hwp) hk (by rw[ek];exact hwl)) λ_=>?_
   rw[ek];refine QK (Qh I I I)<|Q7<|QC ?_
   refine QQ I (λhc=>?_) λhc=>?_
   ·refine wC 8 I<|QA (Q3 (n:=n) i.i (λF h9=>h9.1.1.1.1) rfl rfl Zg Xh O)<|QA (JZ (n:=n) (vs:=[tx (el ps i.i).f,.slice (el ps i.i).r.q (el ps i.i).r.n (el ps i.i).r.cap]) ((i.i)*2) (λF h9=>h9.1.1.1.1) O rfl Xh I λj v hv=>JN (f:=VM) (l:=ps) YR O hv)<|Qb I (Q5 Zg) Xh KV I I λb27=>?_
    refine Z4 (bs1:=[]) (ob:=i.ob) (n:=i.i) (k:=1) (sz:=2) (news:=VM (el ps i.i)) I I Zg Xh KV I kC i.hr (Src.row (off:=0) tO (λj v hv=>by rw[aR];show((VM (el ps i.i)).toArray)[j]?=some v;rw[aJ];exact hv) rfl) O O (jc _) (λv28 ob28 hr28=>?_);rw[show(ps.take i.i).flatMap VM++VM (el ps i.i)=(ps.take (i.i+1)).flatMap VM from by rw[XE hlt,aA];simp]at hr28;refine wD 5 I<|QA (Qu I I O)<|wB 2 I<|Qj ?_
    exact Ql (⟨i.i+1,v28,ob28,hlt,hr28,QAJ O i.hb hc⟩) (by show ps.length-(i.i+1)<ps.length-i.i;omega) wv we λF h=>⟨h.1.1.1,trivial⟩
   refine Qx ?_
   repeat first|refine QY ?_|refine QO tH ?_
   refine QZ ?_;exact Za (⟨i,λ_=>hc⟩) wv we λF ⟨⟨⟨⟨hR,hA,hK⟩,hz3⟩,_⟩,_⟩=>⟨⟨⟨hR,hA,hK⟩,hz3⟩,trivial⟩
  have hge:i.i=ps.length:=tD<|wj hb12
  refine Jj I I I<|Jj I I I<|Jj I I I<|Jj I I I<|Jj I I I<|Jj I I I<|Jj I I I<|Jj I I I<|QK (Qd I I I)<|Q7<|QC<|Yj I<|Qx ?_
  repeat first|refine QY ?_|refine QO tH ?_
  refine QZ ?_;exact Za (⟨i,λh=>absurd h O⟩) wv we λF ⟨⟨⟨hR,hA,hK⟩,hz3⟩,_⟩=>⟨⟨⟨hR,hA,hK⟩,hz3⟩,trivial⟩
 intro x;simp only[ab,ae];have hi:=x.le;refine wa<|QA (QH I GM JF)<|QA (JA (n:=1) ((0)*2+0) (λF h9=>(Qy.of (n:=1) (sz:=2) h9.1.2 I)) O rfl JF I)<|wD 3 I ?_
 refine ZZ [(0,_),(3,_),(5,_)] [(6,.int .i64 (((Ch P x.i k):Nat):Int)),(7,tx (JP (uT P x.i (y,k))))] wu ?_ ?_
 ·refine QG<|JG we mixed tE<|QK (QD I)<|QK (QD I)<|QK (Qg I Zg)<|QK (QT I I I)<|QK (QD I) ?_
  refine Gg (t:=37) rfl (λhb37=>?_) λhb37=>?_
  ·have hlt:x.i<ps.length:=tD<|wi hb37
   have htm:=Qw hlt;obtain⟨ef,ek⟩:=vw hP hlt;have hPm:=Qw (show x.i<P.length by omega);obtain⟨hwl,hwp⟩:=hw _ hPm;refine XA I I<|QK (QD I)<|XA I I<|QK (QD I)<|XA I I<|QK (Q3 (n:=n) (x.i) (λF h9=>h9.1.1.1) rfl rfl Zg Xh O)<|XA I I<|QK (QH I Yh JM)<|XA I I<|QK (JA (n:=n) ((x.i)*2+1) (λF h9=>h9.1.1.1) O rfl JM (JN (f:=VM) (l:=ps) YR O rfl))<|XA I I<|QK (QH I Yh JM)<|XA I I<|QK (JA (n:=1) ((0)*2+1) (λF h9=>(Qy.of (n:=1) (sz:=2) h9.1.2 I)) O rfl JM I)<|XA I I<|QR I (λ_ _ f k=>uo f (k.1.1.2.1 _ htm) k.1.1.2.2 (by rw[ek];have:=hwp.2;omega)) λ_=>?_
   rw[ek];refine QK (Qh I I I)<|Q7<|QC ?_
   refine QQ I (λhc=>?_) λhc=>?_
   ·refine QG<|JG we mixed tE<|QK (QD I)<|QK (QD I)<|QK (Q3 (n:=n) (x.i) (λF h9=>h9.1.1.1.1) rfl rfl Zg Xh O)<|QK (QH I GM JF)<|QK (JA (n:=n) ((x.i)*2+0) (λF h9=>h9.1.1.1.1) O rfl JF (JN (f:=VM) (l:=ps) YR O rfl))<|QK (QH I GM JF)<|QK (JA (n:=1) ((0)*2+0) (λF h9=>(Qy.of (n:=1) (sz:=2) h9.1.1.2 I)) O rfl JF I) ?_
    rw[ef];refine QR I (λ_ _ f k=>xW f (hz _ hPm) hy) (λ_=>QK (QF I)<|Q7<|wE 3 I<|QA (Qu I I O)<|wB 2 I ?_);have hs:R9 P x.i k=true:=by unfold R9;rw[hc,decide_eq_true (show x.i<P.length by omega)];rfl
    exact JY ⟨rfl,rfl,rfl,(congrArg (λz:Int=>some (au .i64 z)) (by unfold Ch;rw[if_pos hs];omega)),(congrArg (λr:Rat=>some (tx (JP r))) (by unfold uT;rw[if_pos hs])),trivial⟩ we λ_ h=>h.1.1
   refine QN ?_;have hs:¬R9 P x.i k=true:=by unfold R9;rw[hc,aW];decide
   exact JY ⟨rfl,rfl,rfl,(congrArg (λz:Nat=>some (au .i64 (z:Int))) (by unfold Ch;rw[if_neg hs])),(congrArg (λr:Rat=>some (tx (JP r))) (by unfold uT;rw[if_neg hs])),trivial⟩ we tN
  have hge:x.i=ps.length:=tD<|wj hb37
  refine Jj I I I<|Jj I I I<|Jj I I I<|Jj I I I<|Jj I I I<|Jj I I I<|Jj I I I<|Jj I I I<|QK (Qd I I I)<|Q7<|QC<|Yj I<|QN ?_
  have hs:¬R9 P x.i k=true:=by unfold R9;rw[decide_eq_false (show ¬x.i<P.length by omega),Bool.false_and];decide
  exact JY ⟨rfl,rfl,rfl,(congrArg (λz:Nat=>some (au .i64 (z:Int))) (by unfold Ch;rw[if_neg hs])),(congrArg (λr:Rat=>some (tx (JP r))) (by unfold uT;rw[if_neg hs])),trivial⟩ we tM
 simp only[ab,ae];have hJ:x.i<=(Ch P x.i k)/\(Ch P x.i k)<=n:=by
  unfold Ch;split
  ·rename_i hs;unfold R9 at hs;rw[ar,decide_eq_true_eq]at hs;omega
  omega
 have hpl:=cC (y,k) (P:=P) (i:=x.i) O x.hb x.stop;have hat:ZX (ps.take x.i)=Vg (P.take x.i):=by rw[QFh,hP,QAs]
 have hdr:ZX (ps.drop (Ch P x.i k))=Vg (P.drop (Ch P x.i k)):=by rw[QFi,hP,QAt]
 have htl:(ps.take x.i).length=x.i:=by rw[bp];omega
 refine wA 4 I<|QI I (λ_ _ f k=>QCm f) λ_=>QA (XL I)<|QE<|QC ?_
 refine QQ I (λhc=>?_) λhc=>?_
 ·have hs0:(uT P x.i (y,k))≠0:=by rw[uV]at hc;simpa using hc
  refine wA 3 I<|Gf (Q5 Q2) JK λb62=>QA (QH I Yh JM)<|QA (JA (n:=1) ((0)*2+1) (λF h9=>(Qy.of (n:=1) (sz:=2) h9.1.1.2 I)) O rfl JM I)<|ZL (bs':=x.ob++[(b62,.cells ([]++[]:List Value).toArray 3 (0,0))]) (aI (l₁:=[_]))<|Z4 (ob:=[(b62,.cells ([]++[]:List Value).toArray 3 (0,0))]) (n:=0) (k:=r.n) (sz:=1) (news:=k.map Jo) rfl rfl Q2 JK R4 I F6 (.some rfl rfl (ai _) tF) (Src.gR hk0 (λF h9=>h9.1.1.1.2.2.1) (by simp[hkl])) O O (CI k) λv65 ob65 hr65=>?_
  rw[aR,ae]at hr65;obtain⟨r65,hv65,hn65,hc65,hfix65⟩:=Q8.fix (w0:=w) (F0:=F) (bs1:=x.ob) (G:=_) hr65;refine Zj hfix65 ?_;rw[hv65];dsimp only[Sr.v];refine QA (Q4 I BC KV (wV I I I))<|Qb I (Q5 Zg) Xh KV I I λb67=>?_
  refine Z4 (bs1:=[]) (ob:=x.ob) (n:=x.i) (k:=1) (sz:=2) (news:=VM (⟨JP (uT P x.i (y,k)),r65,k⟩:V0)) I I Zg Xh KV I kC x.hr (Src.row (off:=0) tO (λj v hv=>by rw[aR];show((VM (⟨JP (uT P x.i (y,k)),r65,k⟩:V0)).toArray)[j]?=some v;rw[aJ];exact hv) rfl) O O (jc _) (λv68 ob68 hr68=>?_);refine wD 8 I<|QA (cA (Ch P x.i k) rfl rfl rfl Zg Xh hJ.2 hcap)<|Z4 (bs1:=[]) (ob:=ob68) (n:=(x.i+1)) (k:=n-(Ch P x.i k)) (sz:=2) (news:=(ps.drop (Ch P x.i k)).flatMap VM) rfl rfl Zg Xh KV I kC hr68 (Src.gR (λe=>tD<|hRJ0 (uf e)) (λF h9=>by have:=h9.1.1.1.1.1.1.drop hcap (Ch P x.i k);rwa [vc]at this) (by rw[QAK,aL,hn])) O O QDG λv73 ob73 hr73=>?_
  obtain⟨rr,hv73,hrn,hrc,hfix⟩:=Q8.fix (w0:=w) (F0:=F) (bs1:=[]) (G:=_) hr73;refine Zj hfix ?_;rw[hv73];refine wD 4 I ?_;exact QP ((rr,(ps.take x.i++[(⟨JP (uT P x.i (y,k)),r65,k⟩:V0)]++ps.drop (Ch P x.i k)))) I (wT I) (rfl) (λF ⟨⟨⟨⟨⟨⟨⟨hR,hA,hK⟩,hz3⟩,_⟩,_⟩,hrow65⟩,hs67⟩,hrow⟩=>⟨by rw[hrn];rw[show(ps.take x.i).flatMap VM++VM (⟨JP (uT P x.i (y,k)),r65,k⟩:V0)++(ps.drop (Ch P x.i k)).flatMap VM=(ps.take x.i++[(⟨JP (uT P x.i (y,k)),r65,k⟩:V0)]++ps.drop (Ch P x.i k)).flatMap VM from by rw[aA,aA];simp]at hrow;exact hrow,
 λt ht=>by
  rcases List.mem_append.1 ht with ht | ht
  ·rcases List.mem_append.1 ht with ht | ht
   ·exact hA t (aM ht)
   rw[List.mem_singleton.1 ht];exact⟨by rw[hn65];exact hrow65,by rw[hn65];exact hkl,by rw[hn65];exact hc65⟩
  exact hA t (aV ht),
 by rw[hpl,if_neg hs0,jb,jb,IW,IW,hat,hdr];rfl,by rw[hrn];exact hrc,by rw[hrn,ak,ak,htl,aL,hn];rfl⟩)
 ·have hs0:(uT P x.i (y,k))=0:=by rw[uV]at hc;simpa using hc
  refine wC 7 I<|QA (cA (Ch P x.i k) rfl rfl rfl Zg Xh hJ.2 hcap)<|Z4 (bs1:=[]) (ob:=x.ob) (n:=x.i) (k:=n-(Ch P x.i k)) (sz:=2) (news:=(ps.drop (Ch P x.i k)).flatMap VM) rfl rfl Zg Xh KV I kC x.hr (Src.gR (λe=>tD<|hRJ0 (uf e)) (λF h9=>by have:=h9.1.1.1.1.drop hcap (Ch P x.i k);rwa [vc]at this) (by rw[QAK,aL,hn])) O O QDG λv73 ob73 hr73=>?_
  obtain⟨rr,hv73,hrn,hrc,hfix⟩:=Q8.fix (w0:=w) (F0:=F) (bs1:=[]) (G:=_) hr73;refine Zj hfix ?_;rw[hv73];refine wD 4 I ?_;exact QP ((rr,(ps.take x.i++ps.drop (Ch P x.i k)))) I (wT I) (rfl) (λF ⟨⟨⟨⟨⟨hR,hA,hK⟩,hz3⟩,_⟩,_⟩,hrow⟩=>⟨by rw[hrn];rw[<-aA]at hrow;exact hrow,
 λt ht=>by
  rcases List.mem_append.1 ht with ht | ht
  ·exact hA t (aM ht)
  exact hA t (aV ht),
 by rw[hpl,if_pos hs0,jb,aU,IW,hat,hdr],by rw[hrn];exact hrc,by rw[hrn,ak,htl,aL,hn]⟩)
def QED.QJD{s:Sr}{ts:List V0}{L:List Tm}(h:QED F s ts (Vg L)):s.n=L.length:=by
 rw[<-h.2.2.2.2];exact OO h.2.2.1
def QBa{L:List Tm}(h:i<L.length):XO (L.take (i+1))=Z0 (XO (L.take i)) (el L i):=by
 rw[XE h];unfold XO;rw[aT];rfl
structure NoJ(n:Nat) where
 i:Nat
 c:NQ
 le:i<=n
structure OtJ(g:List Tm->List Tm)(L:List Tm) where
 i:Nat
 v:Value
 ob:List (Nat×Obj)
 out:List V0
 le:i<=L.length
 hr:Q8 108 2 v out.length (out.flatMap VM) ob
 ho:ZX out=Vg (g (L.take i))
 hl:out.length<=i
def vd{v:Nat}{L:List Tm}(h:i<L.length):ZT v (L.take (i+1))=ZT v (L.take i)++TU v (el L i):=by
 rw[XE h];unfold ZT;rw[aA];simp
def QDy(o:List V0)(t:V0):o.flatMap VM++VM t=(o++[t]).flatMap VM:=by rw[aA];simp
def Yy.snoc{o:List V0}{t:V0}(h:Yy F o)(k:J8 F t.r t.k):Yy F (o++[t]):=λx hx=>by
 rcases List.mem_append.1 hx with hx | hx
 ·exact h x hx
 rw[List.mem_singleton.1 hx];exact k
def QAw{l:List Tm}{t:Tm}(h:t∈l):JW t.1+1<=Yr l:=by
 unfold Yr
 induction l with
 |nil=>cases h
 |cons x l ih =>
  rw[List.map_cons,List.sum_cons];rcases List.mem_cons.1 h with rfl | h
  ·omega
  have:=ih h;omega
theorem QDS{q:Option Addr}{N:Nat}{ts:List V0}{L:List Tm}(hF:Fits F w)(hR:Qy F q n 2 (ts.flatMap VM))(hA:Yy F ts)(hn:ts.length=n)(hT:ZX ts=Vg L)(hw:∀t∈L,t.2.length=N/\PW t.2)(hz:Yr L<=90000)(hl:n<=100000):
  QU prog 230 [.slice q n cap] w F (λ(c:NQ)=>c.1.v) (λc F=>QED F c.1 c.2 (Vg (XO L))):=by
 have hLl:=OO hT;refine QU.intro (G:=λF=>Qy F q n 2 (ts.flatMap VM)/\Yy F ts) func230 rfl tH rfl rfl hF (λF' hF'=>⟨hR.le hF',hA.le hF'⟩)<|wa<|wZ rfl<|wa<|wZ rfl<|QG<|wa<|wZ rfl<|QV<|JU (ι:=NoJ n) [(0,_)] (λi=>[(3,i.c.1.v),(4,.int .i64 ((i.i:Nat):Int))]) (λi=>[]) (λi F=>QED F i.c.1 i.c.2 (Vg (XO (L.take i.i)))) (λi=>n-i.i) (⟨0,(⟨none,0,0⟩,[]),ax _⟩) wk wm we (λF _=>⟨Qy.nil F none 2,λ_ h=>(by cases h),rfl,ai _,rfl⟩) λi=>?_
 simp only[ab,ae];have hi:=i.le;refine wA 5 I<|QA (Qg I QCk)<|wD 3 I ?_
 refine QQ I (λhc=>?_) λhc=>?_
 ·have hlt:i.i<n:=tD<|wi hc
  have htm:=Qw (show i.i<ts.length by omega);obtain⟨ef,ek⟩:=vw hT (show i.i<ts.length by omega);have hLm:=Qw (show i.i<L.length by omega);obtain⟨hwl,hwp⟩:=hw _ hLm;have hst:=OW L i.i;have hnl:=QDi (L.take i.i);rw[bp]at hnl;refine wC 8 I<|QA (Q3 (n:=n) i.i (λF h9=>h9.1.1) rfl rfl QCk Xh O)<|QA (JZ (n:=n) (vs:=[tx (el ts i.i).f,.slice (el ts i.i).r.q (el ts i.i).r.n (el ts i.i).r.cap]) ((i.i)*2) (λF h9=>h9.1.1) O rfl Xh I λj v hv=>JN (f:=VM) (l:=ts) YR O hv) ?_
  rw[ef];refine QI I (λw F hF ⟨⟨hR,hA⟩,hC⟩=>QEj (k:=(el L i.i).2) hF hC.1 hC.2.1 hC.2.2.2.2 hC.2.2.2.1 (by rw[<-ek];exact hA _ htm) hC.2.2.1 (λt ht=>ag (QDO ht) O) (tD<|QAw hLm)
   (λt ht=>by obtain⟨y,hy,e⟩:=QDe ht;rw[<-e,hwl];exact hw y (aM hy)) hwp (by rw[hC.QJD];omega)) λc16=>?_
  refine wB 2 I<|Qj<|wE 3 I<|QA (Qu I I O)<|wB 2 I ?_
  exact Ql (⟨i.i+1,c16,hlt⟩) (by show n-(i.i+1)<n-i.i;omega) wu we λF h=>⟨h.1.1,by rw[QBa O];exact h.2⟩
 have hge:i.i=n:=tD<|wj hc
 refine Qx ?_
 repeat first|refine QY ?_|refine QO tH ?_
 refine QZ<|wE 8 I ?_
 exact QP (i.c) rfl (wT I) (rfl) λF h9=>by have h:=h9.2;rwa [hge,show L.take n=L from bI O]at h
theorem ki{q:Option Addr}{N v:Nat}{L:List Tm}(hF:Fits F w)(hR:Qy F q n 2 (ps.flatMap VM))(hA:Yy F ps)(hn:ps.length=n)(hT:ZX ps=Vg L)(hv:v<N)(hw0:∀t∈L,t.2.length=N/\PW t.2)(hsz:∀t∈L,JW t.1<=90000)(hw:∀t∈ZT v L,t.2.length=N/\PW t.2)(hz:Yr (ZT v L)<=90000)(hl:n<=10000):
  QU prog 138 [.slice q n cap,.int .i64 (v:Nat)] w F (λ(c:NQ)=>c.1.v) (λc F=>QED F c.1 c.2 (Vg (XO (ZT v L)))):=by
 have hLl:=OO hT;refine QU.intro (G:=λF=>Qy F q n 2 (ps.flatMap VM)/\Yy F ps) func138 rfl tH rfl rfl hF (λF' hF'=>⟨hR.le hF',hA.le hF'⟩)<|wa<|wZ rfl<|wa<|wZ rfl<|QG<|wa<|wZ rfl<|QV<|JU (ι:=OtJ (ZT v) L) [(0,_),(1,_)] (λi=>[(5,i.v),(6,.int .i64 ((i.i:Nat):Int))]) (λi=>i.ob) (λi F=>Yy F i.out) (λi=>L.length-i.i) (⟨0,_,[],[],ax _,.nil,rfl,ai _⟩) wm wm we (λ_ _ _ h=>by cases h) λi=>?_
 simp only[ab,ae];have hi:=i.le;refine wA 5 I<|QA (Qg I Zg)<|wD 3 I ?_
 refine QQ I (λhc=>?_) λhc=>?_
 ·have hlt:i.i<L.length:=tD<|wi hc
  have hlp:i.i<ps.length:=O;have htm:=Qw hlp;obtain⟨ef,ek⟩:=vw hT hlp;have hLm:=Qw hlt;have hil:=i.hl;obtain⟨hwl,hwp⟩:=hw0 _ hLm;have hkn:=(hA _ htm).2.1;have hkl:(el ps i.i).k.length=N:=by rw[ek];exact hwl
  have hvn:v<(el ps i.i).r.n:=O;have hk1:=hwp.2;have hdb:0<=Qm (el ps i.i).k v/\Qm (el ps i.i).k v<=1000000:=by rw[ek];exact hwp.el O
  have hk0:=(hA _ htm).1.cM;refine wC 8 I<|QA (Q3 (n:=n) i.i (λF h9=>h9.1.1) rfl rfl Zg Xh O)<|QA (QH I Yh JM)<|QA (JA (n:=n) ((i.i)*2+1) (λF h9=>h9.1.1) O rfl JM (JN (f:=VM) (l:=ps) YR O rfl))<|wW I<|QA (Q3 (n:=(el ps i.i).r.n) (v) (λF h9=>((h9.1.2 _ htm)).1) rfl rfl Q2 JK O)<|QA (JA (n:=(el ps i.i).r.n) ((v)*1) (λF h9=>((h9.1.2 _ htm)).1) O rfl JK (Jz (o:=(el ps i.i).k) O))<|wD 9 I ?_
  refine QQ I (λhc=>?_) λhc=>?_
  ·have hkp:=wi hc;refine wa<|Gf (Q5 Q2) JK λb25=>wB 2 I<|QA (Q3 (n:=n) i.i (λF h9=>h9.1.1) rfl rfl Zg Xh O)<|QA (QH I Yh JM)<|QA (JA (n:=n) ((i.i)*2+1) (λF h9=>h9.1.1) O rfl JM (JN (f:=VM) (l:=ps) YR O rfl))<|ZL (bs':=i.ob++[(b25,.cells ([]++[]:List Value).toArray 3 (0,0))]) (aI (l₁:=[_]))<|Z4 (ob:=[(b25,.cells ([]++[]:List Value).toArray 3 (0,0))]) (n:=0) (k:=(el ps i.i).r.n) (sz:=1) (news:=(el ps i.i).k.map Jo) rfl rfl Q2 JK R4 I F6 (.some rfl rfl (ai _) tF) (Src.gR hk0 (λF h9=>(h9.1.2 _ htm).1) (by simp[hkn])) O O (CI _) λv31 ob31 hr31=>?_
   rw[aR,ae]at hr31;obtain⟨bb,cap3,rest,rfl,rfl,e1,e2,e3,e4⟩:=Q8.pos hr31 O;refine wD 8 I<|QA (X3 I I O)<|QA (JL (i:=v) rfl rfl Q2 JK O)<|QW (vs:=[_]) I I I JK I (Own.skip .here i.ob) (BB (by first | omega | (simp only[bC];omega)) ((Qm (el ps i.i).k (v)-1))) wk<|QE<|QC ?_
   obtain⟨r9,hv9,hrn,hrc,hfix9⟩:=Q8.fix (w0:=w) (F0:=F) (bs1:=i.ob) (G:=_) (Q8.some (T:=3) (sz:=1) (b:=bb) (n:=(el ps i.i).r.n) (cap:=cap3) (l:=((el ps i.i).k.set v (Qm (el ps i.i).k v-1)).map Jo) (rest:=rest) (by simpa using e1) (by simpa using e2) e3 e4);refine jH hfix9 ?_;rw[hv9];dsimp only[Sr.v];refine JG tQ mixed tE<|QK (QD I)<|QK (QD I)<|QK (QD I)<|QK (Q3 (n:=n) i.i (λF h9=>h9.1.1.1) rfl rfl Zg Xh O)<|QK (QH I GM JF)<|QK (JA (n:=n) ((i.i)*2+0) (λF h9=>h9.1.1.1) O rfl JF (JN (f:=VM) (l:=ps) YR O rfl))<|QK (QD I)<|QR I (λ_ _ f k=>QA8 f ⟨O,O⟩) λ_=>?_
   rw[ef];refine QR I (λ_ _ f h=>C3 f (ag (hsz _ hLm) tF) (by have h2:=GK (Qm (el ps i.i).k v);have h3:=IY hdb;omega)) (λ_=>QK (QD I)<|QK (Q4 I BC KV (wV I I I)) ?_);refine Qo I (Q5 QCk) Xh KV I I (λb48=>?_) (λw h=>h.imp tQ λF h=>h.1.1);rw[<-aU i.ob];refine Yz (ob:=i.ob) (n:=i.out.length) (k:=1) (sz:=2) (news:=VM (⟨JP ((el L i.i).1*((Qm (el ps i.i).k v:Int):Rat)),r9,((el ps i.i).k.set v (Qm (el ps i.i).k v-1))⟩:V0)) I I QCk Xh KV I kC i.hr (Src.row (off:=0) tO (λj u hu=>by rw[aR];show((VM (⟨JP ((el L i.i).1*((Qm (el ps i.i).k v:Int):Rat)),r9,((el ps i.i).k.set v (Qm (el ps i.i).k v-1))⟩:V0)).toArray)[j]?=some u;rw[aJ];exact hu) rfl) O O (jc _) we (λ_ h=>h.1.1.1) (λv49 ob49 hr49=>?_);rw[QDy]at hr49;refine QK (QF I)<|Q7<|Qj<|wE 3 I<|QA (Qu I I O)<|wB 2 I ?_
   exact Ql (⟨i.i+1,v49,ob49,i.out++[(⟨JP ((el L i.i).1*((Qm (el ps i.i).k v:Int):Rat)),r9,((el ps i.i).k.set v (Qm (el ps i.i).k v-1))⟩:V0)],hlt,by rw[ak];exact hr49,by rw[jb,i.ho,vd hlt,IW,show TU v (el L i.i)=[((el L i.i).1*((Qm (el L i.i).2 v:Int):Rat),(el L i.i).2.set v (Qm (el L i.i).2 v-1))]from if_pos (by rw[<-ek];exact hkp)];show _++[(JP ((el L i.i).1*((Qm (el ps i.i).k v:Int):Rat)),((el ps i.i).k.set v (Qm (el ps i.i).k v-1)))]=_;rw[ek];rfl,by rw[ak];simp;omega⟩) (by show L.length-(i.i+1)<L.length-i.i;omega) wv (by rw[aU];exact aC _) λF ⟨⟨⟨⟨⟨⟨hR,hA⟩,hO⟩,hrow9⟩,_⟩,_⟩,hs48⟩=>⟨⟨hR,hA⟩,hO.snoc ⟨by rw[hrn];exact hrow9,by rw[hrn,bC];exact hkn,by rw[hrn];exact hrc⟩⟩
  have hkp:=wj hc;refine QN<|Qj<|wE 3 I<|QA (Qu I I O)<|wB 2 I ?_
  exact Ql (⟨i.i+1,i.v,i.ob,i.out,hlt,i.hr,by rw[i.ho,vd hlt,show TU v (el L i.i)=[]from if_neg (by rw[<-ek];exact hkp),aU],O⟩) (by show L.length-(i.i+1)<L.length-i.i;omega) wv we tM
 have hge:i.i=L.length:=tD<|wj hc
 have hil:=i.hl;refine Qx ?_
 repeat first|refine QY ?_|refine QO tH ?_
 refine QZ<|wE 3 I ?_
 obtain⟨r,hv,hrn,hrc,hfix⟩:=Q8.fix (w0:=w) (F0:=F) (bs1:=[]) (G:=_) i.hr;refine Zj hfix ?_;rw[hv];refine wW I<|QI I (λ_ _ f k=>QDS (N:=N) (ts:=i.out) (L:=ZT v L) f (by rw[hrn];exact k.2) k.1.2 hrn.symm (by have h:=i.ho;rwa [hge,aK]at h) hw hz O) λc51=>wD 4 I ?_
 exact QP (c51) rfl (wT I) (rfl) tO
def QHd(a:XP):Rat:=Gx (P9 a.1) (P9 a.2)
theorem dQ(a:XP):QHd a=ML a:=by
 have hg:∀x y:Rat,E2 x y=if x<y then y else x:=λx y=>by
  unfold E2;have:=K3 y x;by_cases h:x<y
  ·rw[if_pos h,if_pos (this.2 h)]
  rw[if_neg h,if_neg (λk=>h (this.1 k))]
 have hm:∀x y:Rat,Gx x y=if y<=x then x else y:=λx y=>by
  unfold Gx;have:=Uj x y;by_cases h:y<=x
  ·rw[if_pos h,if_pos (this.2 h)]
  rw[if_neg h,if_neg (λk=>h (this.1 k))]
 unfold QHd ML;simp only[List.foldl,hg,hm];unfold P9
 grind
def IX(x:Rat):JW (P9 x)=JW x:=by
 unfold P9;split
 ·exact Vh x
 rfl
def OV{a:XP}(h:Xf a k):JW (ML a)<=k:=by
 rw[<-dQ];exact DC (by rw[IX];exact h.1) (by rw[IX];exact h.2)
structure QHz(y:Xz)(t:XP)(vb:List XP):Prop where
 ev:∃Z D T S,∀i,i<y.rl.length->jT Z D T S (el y.rl i).2 (t::vb)
 sz:∀i,i<y.rl.length->Xf (J3 (t::vb) (el y.rs i)) 100000
 pl:∀e∈y.rl,e.2.length=e.1.n/\e.1.n<=1000
theorem QCp{a:XP}(hF:Fits F w)(ha:Xf a 100000):Qf prog 135 [kh a] w F (tx (JP (ML a))):=by
 refine QU.intro (G:=λF=>True) func135 rfl tH rfl rfl hF tL<|wa<|Qp rfl (vs:=[_,_]) rfl λb1=>wZ rfl<|QG<|JG we mixed tE<|QK (QH rfl V6 JF)<|QK (Qe rfl JF .here .h1)<|QR rfl (λ_ _ f k=>QFm (d:=a.1) f) λ_=>QK (QH rfl We JF)<|QK (Qe rfl JF .here (.skip .h1))<|QR rfl (λ_ _ f k=>QFm (d:=a.2) f) λ_=>QR rfl (λ_ _ f k=>C4 (x:=P9 a.1) (y:=P9 a.2) f (by rw[IX];exact ha.1) (by rw[IX];exact ha.2)) λ_=>QK (QF I)<|Q7<|QC<|QX ?_
 exact wg I I (by rw[<-dQ];rfl) tL
theorem QDQ{t:XP}(hF:Fits F w)(hy:X4 F y)(hb:QxR F rb vb)(hbn:rb.n<=1000/\y.rt.n<=1000)(ho:QHz y t vb):QU prog 43 [y.v,kh t,rb.v] w F (λ(c:Sr)=>c.v) (λc F=>NxR F c (K9 y.rs (t::vb))):=by
 have hbl:=hb.len;have hrl:=hy.Ka;have hrs:y.rs.length=y.rl.length:=by unfold Xz.rs;rw[aj]
 obtain⟨Z,D,T,S,hev⟩:=ho.ev;refine QU.intro (G:=λF=>X4 F y/\QxR F rb vb) func43 rfl tH rfl rfl hF (λF' hF'=>⟨hy.le hF',hb.le hF'⟩)<|wa<|Qp rfl (vs:=[_,_,_]) rfl λb3=>Qp rfl (vs:=[_,_]) rfl λb4=>wZ rfl<|wa<|QA (wN I Jd .here)<|Y2 rfl (Q5 XF) Jd Xa rfl rfl λb11=>wW rfl<|ZL (aI (l₁:=[_]))<|Z4 (bs1:=[_,_]) (ob:=[_]) (n:=1) (k:=rb.n) (sz:=2) (news:=vb.flatMap LP) rfl rfl XF Jd Xa rfl QAH (.some (l:=[t].flatMap LP) (rest:=[]) rfl rfl (ai _) tF) (Src.gR hb.row.cM (λF h9=>h9.2.row) (by rw[QCn,hbl])) O O (ui _) λv13 ob13 hr13=>?_
 obtain⟨⟨rq,rn,rc⟩,hv2,hrn,hrc,hfix⟩:=Q8.fix (w0:=w) (F0:=F) (bs1:=[_,_]) (G:=_) hr13;dsimp only at hrn hrc hfix;subst hrn;refine Zj hfix ?_;rw[hv2];dsimp only[Sr.v];refine wD 15 I<|JU (ι:=WnJ (K9 y.rs (t::vb))) [(3,_),(7,_)] (λi=>[(8,i.v),(9,.int .i64 ((i.i:Nat):Int))]) (λi=>(b4,.cells [tx (JP t.1),tx (JP t.2)].toArray 40 (0,0))::(b3,.cells #[.slice y.nm.q y.nm.n y.nm.cap,.slice y.rt.q y.rt.n y.rt.cap,.slice y.st.q y.st.n y.st.cap] 38 (0,0))::i.ob) (λi F=>True) (λi=>y.rl.length-i.i) (⟨0,.slice none 0 0,[],ax _,.nil⟩) wm wm we tL λi=>?_
 simp only[ab,ae];have hi:=i.le;rw[DD]at hi;refine wA 4 I<|QA (QH I VY Z6)<|QA (Qe I Z6 .u1 (.skip .h1))<|QA (Qg I VJ)<|wD 3 I ?_
 refine QQ I (λhc2=>?_) λhc2=>?_
 ·have hlt2:i.i<y.rl.length:=tD<|wi hc2
  have hem2:=Qw hlt2;refine wC 6 I<|QA (QH I VY Z6)<|QA (Qe I Z6 .u1 (.skip .h1))<|wW I<|QA (Q3 (n:=y.rt.n) i.i (λF h9=>h9.1.1.1.rt) rfl rfl VJ Vu O)<|QA (JA (n:=y.rt.n) ((i.i)*1) (λF h9=>h9.1.1.1.rt) O rfl Vu (XT (f:=λe:NQ=>e.1.v) (l:=y.rl) O))<|wW I<|QI I (λ_ _ f k=>ux (Z:=Z) (D:=D) (T:=T) (S:=S) (ps:=(el y.rl i.i).2) (bs:=t::vb) (rb:=⟨rq,1+rb.n,rc⟩) (q:=(el y.rl i.i).1.q) (n:=(el y.rl i.i).1.n) (cap:=(el y.rl i.i).1.cap) f (k.1.1.1.pl _ hem2).1 (k.1.1.1.pl _ hem2).2 (ho.pl _ hem2).1 ⟨k.1.2,by rw[ah,hbl,eK]⟩ (hev _ hlt2) ⟨tD<|(ho.pl _ hem2).2,by dsimp only;omega⟩) λ_=>?_
  rw[<-QA5 hlt2];refine QI I (λ_ _ f k=>QCp (a:=(J3 (t::vb) (el y.rs i.i))) f (ho.sz _ hlt2)) (λ_=>Qb I (Q5 YG) JF Im I I λb30=>?_);refine Z4 (bs1:=[_,_]) (ob:=i.ob) (n:=i.i) (k:=1) (sz:=1) (news:=[tx (JP (ML (J3 (t::vb) (el y.rs i.i))))]) I I YG JF Im I QDD i.hr (Src.row (off:=0) tO (λj q hq=>by rw[aR];rw[aJ];exact hq) rfl) O O (λv hv=>by rw[List.mem_singleton.1 hv];rfl) (λv31 ob31 hr31=>?_);refine wB 2 I<|Qj<|wE 3 I<|QA (Qu I I O)<|wB 2 I ?_
  exact Ql (i.next (by rw[DD];omega) (x:=ML (J3 (t::vb) (el y.rs i.i))) (by rw[jX O]) hr31) (by show y.rl.length-(i.i+1)<y.rl.length-i.i;omega) wv (.cons_cons _ (.cons_cons _ we)) λF h=>⟨h.1.1.1.1,trivial⟩
 have hge2:i.i=y.rl.length:=tD<|wj hc2
 refine Qx ?_
 repeat first|refine QY ?_|refine QO tH ?_
 refine QZ<|wE 3 I ?_
 obtain⟨⟨rq2,rn2,rc2⟩,hv3,hrn2,hrc2,hfix2⟩:=Q8.fix (w0:=w) (F0:=F) (bs1:=[_,_]) (G:=_) i.hr;dsimp only at hrn2 hrc2 hfix2;subst hrn2;refine Zj hfix2 ?_;rw[hv3];dsimp only[Sr.v];refine wD 5 I ?_;exact QP ((⟨rq2,i.i,rc2⟩:Sr)) I (wT I) (rfl) λF ⟨⟨⟨⟨hy,hb⟩,hall⟩,_⟩,hrow⟩=>(by have e:i.i=(K9 y.rs (t::vb)).length:=(by rw[DD];omega);exact⟨by have h9:=hrow;rw[e,aK]at h9;rw[e];exact h9,e,hrc2⟩)
structure QH3(y:Xz)(t:XP)(vb:List XP):Prop where
 dv:∀e∈y.rl,∀v,v<vb.length->∃L,ZX e.2=Vg L/\Xq (ZX e.2)=L/\(∀t∈L,t.2.length=vb.length+1/\PW t.2)/\(∀t∈L,JW t.1<=90000)/\(∀t∈ZT (v+1) L,t.2.length=vb.length+1/\PW t.2)/\Yr (ZT (v+1) L)<=90000
 ev:∀e∈y.rl,∀v,v<vb.length->∀ps:List V0,ZX ps=Vg (XO (ZT (v+1) (Xq (ZX e.2))))->∃Z D T S,jT Z D T S ps (t::vb)
 ln:∀e∈y.rl,∀v,v<vb.length->(XO (ZT (v+1) (Xq (ZX e.2)))).length<=100000
 sz:∀i,i<y.rs.length->∀v,v<vb.length->Xf (J3 (t::vb) (XO (ZT (v+1) (el y.rs i)))) 90000
 sm:∀i,i<y.rs.length->∀k,k<=vb.length->JW (Mz y.rs (t::vb) i k)<=100000
 mo:∀i,i<=y.rs.length->JW (VK y.rs (t::vb) vb.length i)<=100000
 pl:∀e∈y.rl,e.2.length=e.1.n/\e.1.n<=1000
def vP:[48]=JP ((0:Int):Rat):=tG
def QDM(p:List Tm):Xq (Vg p)=p:=by
 unfold Xq Vg;rw[aZ]
 conv=>rhs;rw[<-bN p]
 refine bT λt _=>?_;show(Qz (JP t.1),t.2)=t;rw[vt]
def QHN(h:i<y.rl.length):el y.rs i=Xq (ZX (el y.rl i).2):=by rw[QA5 h,Mo]
def vu{L:List Tm}(h:ZX ps=Vg L):ps.map R6=L:=by
 rw[Mo,h];exact QDM L
theorem gT{t:XP}(hF:Fits F w)(hy:X4 F y)(hb:QxR F rb vb)(hbn:rb.n<=1000/\y.rt.n<=1000)(ho:QH3 y t vb):Qf prog 45 [y.v,kh t,rb.v] w F (tx (JP (VK y.rs (t::vb) vb.length y.rs.length))):=by
 have hbl:=hb.len;have hrl:=hy.Ka;have hrs:y.rs.length=y.rl.length:=by unfold Xz.rs;rw[aj]
 refine QU.intro (G:=λF=>X4 F y/\QxR F rb vb) func45 rfl tH rfl rfl hF (λF' hF'=>⟨hy.le hF',hb.le hF'⟩)<|wa<|Qp rfl (vs:=[_,_,_]) rfl λb3=>Qp rfl (vs:=[_,_]) rfl λb4=>wZ rfl<|wa<|QA (wN I Jd .here)<|Y2 rfl (Q5 XF) Jd Xa rfl rfl λb13=>wW rfl<|ZL (aI (l₁:=[_]))<|Z4 (bs1:=[_,_]) (ob:=[_]) (n:=1) (k:=rb.n) (sz:=2) (news:=vb.flatMap LP) rfl rfl XF Jd Xa rfl QAH (.some (l:=[t].flatMap LP) (rest:=[]) rfl rfl (ai _) tF) (Src.gR hb.row.cM (λF h9=>h9.2.row) (by rw[QCn,hbl])) O O (ui _) λv15 ob15 hr15=>?_
 obtain⟨⟨rq,rn,rc⟩,hv2,hrn,hrc,hfix⟩:=Q8.fix (w0:=w) (F0:=F) (bs1:=[_,_]) (G:=_) hr15;dsimp only at hrn hrc hfix;subst hrn;refine Zj hfix ?_;rw[hv2];dsimp only[Sr.v];refine wD 15 I<|J9 (ι:=NtI y.rl.length) [(2,_),(3,_),(7,_)] (λi=>[(8,tx (JP (VK y.rs (t::vb) vb.length i.i))),(9,.int .i64 ((i.i:Nat):Int))]) (λi=>y.rl.length-i.i) (⟨0,ax _⟩) wu ⟨(congrArg (λs=>some (tx s)) vP),rfl,trivial⟩ λi=>?_
 simp only[ab,ae];have hi:=i.le;refine wA 4 I<|QA (QH I VY Z6)<|QA (Qe I Z6 .u1 (.skip .h1))<|QA (Qg I VJ)<|wD 3 I ?_
 refine QQ I (λhc2=>?_) λhc2=>?_
 ·have hlt2:i.i<y.rl.length:=tD<|wi hc2
  have hem2:=Qw hlt2;refine wC 16 I<|J9 (ι:=NtI vb.length) [(2,_),(3,_),(7,_),(8,_),(9,_)] (λi2=>[(10,tx (JP (Mz y.rs (t::vb) i.i i2.i))),(11,.int .i64 ((i2.i:Nat):Int))]) (λi2=>vb.length-i2.i) (⟨0,ax _⟩) wy ⟨(congrArg (λs=>some (tx s)) vP),rfl,trivial⟩ λi2=>?_
  simp only[ab,ae];have hi2:=i2.le;refine wA 5 I<|QA (Qg I XF)<|wD 3 I ?_
  refine QQ I (λhc2=>?_) λhc2=>?_
  ·have hlt3:i2.i<vb.length:=tD<|wi hc2
   obtain⟨L,hL1,hLe,hL3,hL4,hL5,hL6⟩:=ho.dv _ hem2 _ hlt3;refine wC 6 I<|QA (QH I VY Z6)<|QA (Qe I Z6 .u1 (.skip .h1))<|wW I<|QA (Q3 (n:=y.rt.n) i.i (λF h9=>h9.1.1.rt) rfl rfl VJ Vu O)<|QA (JA (n:=y.rt.n) ((i.i)*1) (λF h9=>h9.1.1.rt) O rfl Vu (XT (f:=λe:NQ=>e.1.v) (l:=y.rl) O))<|wW I<|QA (Qu I I O)<|QI I (λ_ _ f k=>ki (q:=(el y.rl i.i).1.q) (n:=(el y.rl i.i).1.n) (cap:=(el y.rl i.i).1.cap) (N:=vb.length+1) (v:=i2.i+1) (ps:=(el y.rl i.i).2) (L:=L) f (k.1.1.pl _ hem2).1 (k.1.1.pl _ hem2).2 (ho.pl _ hem2).1 hL1 O hL3 hL4 hL5 hL6 (tD<|(ho.pl _ hem2).2)) λc37=>JQ _ (λw F hF ⟨⟨⟨hy,hb⟩,hall⟩,h37⟩=>And.intro h37.2.2.1 h37.2.2.2.2) λhn37=>?_
   obtain⟨hn37,hm37⟩:=hn37;refine wW I ?_;rw[<-hLe]at hn37;obtain⟨Z,D,T,S,hrv⟩:=ho.ev _ hem2 _ hlt3 _ hn37;have hc37:c37.1.n<=1000000:=by have h8:=congrArg eL (vu hn37);rw[aj]at h8;have:=ho.ln _ hem2 _ hlt3;omega
   refine QI I (λ_ _ f k=>ux (Z:=Z) (D:=D) (T:=T) (S:=S) (ps:=c37.2) (bs:=t::vb) (rb:=⟨rq,1+rb.n,rc⟩) (q:=c37.1.q) (n:=c37.1.n) (cap:=c37.1.cap) f k.2.1 k.2.2.1 k.2.2.2.2.2 ⟨k.1.2,by rw[ah,hbl,eK]⟩ hrv ⟨hc37,by dsimp only;omega⟩) (λ_=>?_);rw[vu hn37,<-QHN hlt2];refine QI I (λ_ _ f k=>QCp (a:=(J3 (t::vb) (XO (ZT (i2.i+1) (el y.rs i.i))))) f ((ho.sz _ O _ hlt3).mono tF)) (λ_=>QI I (λ_ _ f k=>xW (x:=(Mz y.rs (t::vb) i.i i2.i)) (y:=ML (J3 (t::vb) (XO (ZT (i2.i+1) (el y.rs i.i))))) f (ho.sm _ O _ O) (OV ((ho.sz _ O _ hlt3).mono tF))) λ_=>wB 2 I<|Qj<|wE 3 I<|QA (Qu I I O)<|wB 2 I ?_);exact Ql (⟨i2.i+1,hlt3⟩) (by show vb.length-(i2.i+1)<vb.length-i2.i;omega) w6 we λF h=>h.1.1.1.1
  have hge3:i2.i=vb.length:=tD<|wj hc2
  rw[hge3];refine Qx ?_
  repeat first|refine QY ?_|refine QO tH ?_
  refine QZ<|wE 4 I<|QI I (λ_ _ f k=>C4 (x:=(VK y.rs (t::vb) vb.length i.i)) (y:=Mz y.rs (t::vb) i.i vb.length) f (ho.mo _ O) (ho.sm _ O _ (ai _))) λ_=>wB 2 I<|Qj<|wE 3 I<|QA (Qu I I O)<|wB 2 I ?_
  exact Ql (⟨i.i+1,hlt2⟩) (by show y.rl.length-(i.i+1)<y.rl.length-i.i;omega) ⟨rfl,rfl,rfl,(congrArg (λq=>some (tx (JP q))) (QGV _ _)),rfl,trivial⟩ we tN
 have hge2:i.i=y.rs.length:=tD<|wj hc2
 refine Qx ?_
 repeat first|refine QY ?_|refine QO tH ?_
 refine QZ<|wE 8 I ?_
 exact wg I I (by rw[hge2]) tL
theorem QGg{v:Int}(hl:vG y)(hr:y.rl.length=y.rt.n)(hyo:vF y)(hs:shS y=true)(h:pT y v 3 6=true):SmY y y.rl.length/\(y.rl.length:Int)<=v:=by
 have h1:=QGF h hr;refine⟨⟨h1.1,rfl,λe he=>⟨(hl.rl e he).1,?_,λt ht=>?_⟩⟩,h1.2⟩
 ·unfold shS at hs;simp only[ar,aB]at hs;have h2:=hs.2.1 e he;unfold shP at h2;simp only[ar,bh,decide_eq_false_iff_not]at h2;omega
 have h2:=hyo.pl e he;exact(Wv (h2.term (t.f,t.k) (aq (f:=λt:V0=>(t.f,t.k)) ht))).2.2.2
theorem QHK(h:∀s∈l,s.1.length<=40/\s.2.length<=40)(hc:∀s∈l,Xd s.1 s.2=0)(hm:l.length=m):ShB m (lV l):=by
 refine⟨by rw[Yg];exact hm,λa ha=>?_,λi hi=>?_⟩
 ·obtain⟨s,hs,rfl⟩:=List.mem_map.1 ha;have h1:=Ku (hc s hs);have h2:=h s hs;exact⟨OU (k:=40) h1.1 tF h2.1,OU (k:=40) h1.2.1 tF h2.2⟩
 obtain⟨s,hs,e⟩:=List.mem_map.1 (Qw hi);have e':JB s=el (lV l) i:=e;rw[<-e'];have h1:=(Ku (hc s hs)).2.2;have h2:=K3 (Qz s.1) (Qz s.2);show Qz s.1<=Qz s.2;exact Rat.not_lt.1 λk=>h1 (h2.2 k)
def QGG(h:Ts l=true)(hb:YZ m l=0):ShB m (lV l):=QHK (AY h).2 (XZ hb).2 (XZ hb).1
def Cl.cQ{x y:Rat}(hx:Cl D 1 b x)(hy:Cl E 1 c y):Cl (D*E) 1 (b+c) (x*y):=by
 obtain⟨z,rfl,h1⟩:=hx;obtain⟨u,rfl,h2⟩:=hy;rw[aG]at h1 h2;refine⟨z*u,?_,?_⟩
 ·rw[Rat.divInt_mul_divInt,aG,aG,aG,aQ]
 rw[eB,aG,bA]
 calc z.natAbs*u.natAbs<=(2^b*D)*(2^c*E):=aS h1 h2
  _=2^b*2^c*(D*E):=by ac_rfl
theorem Cl.dvd{x:Rat}(h:Cl D 1 b x)(h0:0<E)(hd:D ∣ E)(hb:b<=c):Cl E 1 c x:=by
 obtain⟨k,rfl⟩:=hd;obtain⟨z,rfl,h1⟩:=h;have hk:(k:Int)≠0:=by rintro hk;simp only[Int.natCast_eq_zero]at hk;subst hk;simp at h0
 refine⟨z*k,?_,?_⟩
 ·rw[aG,aG,aQ,Rat.divInt_mul_right hk]
 rw[aG]at h1 ⊢;rw[eB,aF,<-eD];exact aS (ag h1 (aO _ (bP tF hb))) (ai _)
def Cl.QHW{x:Rat}(h:Cl E 1 b x):∀k,Cl (E^k) 1 (k*b) (x^k)
 |0=>by rw[bJ,bj,bL];exact .one 1 0 bQ
 |k+1=>by
  rw[Rat.pow_succ,aX,Nat.one_mul,Nat.pow_succ];exact(Cl.QHW h k).cQ h
def KA.cQ{x y:Rat×Rat}(h:KA D 1 b x)(k:KA E 1 c y):KA (D*E) 1 (b+c) (Jg x y):=by
 have h11:=h.1.cQ k.1;have h12:=h.1.cQ k.2;have h21:=h.2.cQ k.1;have h22:=h.2.cQ k.2;exact E7 (P:=Cl (D*E) 1 (b+c)) _ _ h11 h11 λz hz=>by
  simp only[bG,bm,or_false]at hz;rcases hz with rfl | rfl | rfl<;>assumption
def KA.Y5{x:Rat×Rat}(h:KA E 1 b x)(n:Int):KA (E^n.toNat) 1 (n.toNat*b) (Y5 x n):=by
 have h1:=h.1.QHW n.toNat;have h2:=h.2.QHW n.toNat;have h3:=E7 (P:=Cl (E^n.toNat) 1 (n.toNat*b)) [x.2^n.toNat] (x.1^n.toNat,x.1^n.toNat) h1 h1 λz hz=>by rw[List.mem_singleton.1 hz];exact h2
 unfold YtjcphjpkimmmjaaGreatDoor.Y5;refine⟨?_,h3.2⟩;dsimp only;split
 ·exact .zero 1 _
 exact h3.1
def QHA{F bf M:Nat}{u:Tm}(hu:Cl F 1 bf u.1)(hb:∀i,i<bs.length->KA E 1 M (el bs i))(hk:∀k∈u.2,0<=k):∀i,i<=bs.length->i<=u.2.length->KA (F*E^Zz u.2 i) 1 (bf+Zz u.2 i*M) (VT (u.1,u.1) bs u.2 i):=by
 intro i
 induction i with
 |zero=>intro _ _;show KA (F*E^0) 1 (bf+0*M) (u.1,u.1);rw[bL,bS,bj,eI];exact⟨hu,hu⟩
 |succ i ih =>
  intro hi hi2;have ih:=ih O O;rw[Wp];show KA (F*E^(Zz u.2 i+(Qm u.2 i).toNat)) 1 (bf+(Zz u.2 i+(Qm u.2 i).toNat)*M) _;rw[aX,bA];split
  ·have h1:=(hb i O).Y5 (Qm u.2 i);have h2:=ih.cQ h1;rw[<-eD,<-eE];exact h2
  rename_i hg;have:(Qm u.2 i).toNat=0:=O;rw[this,bL,bS,bj,eI];exact ih
def QGi{F bf M:Nat}{p:List Tm}(hF:0<F)(hE:0<E)(hp:∀u∈p,Cl F 1 bf u.1/\u.2.length=bs.length/\(∀k∈u.2,0<=k)/\Zz u.2 bs.length<=D)(hb:∀i,i<bs.length->KA E 1 M (el bs i)):∀k,k<=p.length->KA (F*E^D) 1 (bf+D*M+k) (J3 bs (p.take k)):=by
 have h0:0<F*E^D:=bR hF (eO hE);intro k
 induction k with
 |zero=>intro _;exact⟨.zero 1 _,.zero 1 _⟩
 |succ k ih =>
  intro hk;have ih:=ih O;have hu:=hp _ (Qw (show k<p.length by omega));rw[MU hk,hu.2.1];have h1:=QHA hu.1 hb hu.2.2.1 bs.length (ai _) (by rw[hu.2.1];exact ai _);have hd:F*E^Zz (el p k).2 bs.length ∣ F*E^D:=Nat.mul_dvd_mul (eH _) (Nat.pow_dvd_pow E hu.2.2.2);have hm:Zz (el p k).2 bs.length*M<=D*M:=aO _ hu.2.2.2;have h2:KA (F*E^D) 1 (bf+D*M+k) (VT ((el p k).1,(el p k).1) bs (el p k).2 bs.length):=⟨h1.1.dvd h0 hd O,h1.2.dvd h0 hd O⟩;exact KA.add h0 ih h2
def QEb{v:Nat}(hv:v<ks.length)(hk:0<Qm ks v):∀m,(m<=v->Zz (ks.set v (Qm ks v-1)) m=Zz ks m)/\(v<m->Zz (ks.set v (Qm ks v-1)) m+1=Zz ks m):=by
 intro m
 induction m with
 |zero=>exact⟨λ_=>rfl,λh=>absurd h (bD _)⟩
 |succ m ih =>
  have hd:∀j,j≠v->Qm (ks.set v (Qm ks v-1)) j=Qm ks j:=λj hj=>by
   rw[Br hv,if_neg hj]
  refine⟨λh=>?_,λh=>?_⟩
  ·show Zz _ m+(Qm _ m).toNat=Zz ks m+(Qm ks m).toNat;rw[ih.1 O,hd m O]
  show Zz _ m+(Qm _ m).toNat+1=Zz ks m+(Qm ks m).toNat;rcases eG v m with g | g
  ·have:=ih.2 g;rw[hd m O];omega
  have e:m=v:=O;subst e;rw[ih.1 (ai _)];have h1:Qm (ks.set m (Qm ks m-1)) m=Qm ks m-1:=by
   rw[Br hv,if_pos rfl]
  rw[h1];omega
theorem vT{F:Nat}{Pw:List Int->Prop}(h0:0<F):∀ {p:List Tm} {t:Tm},(∀u∈p,Cl F 1 b u.1/\Pw u.2)->(Cl F 1 b t.1/\Pw t.2)->∀u∈Z0 p t,Cl F 1 (b+1) u.1/\Pw u.2
 |[],t,_,ht=>λu hu=>by
  unfold Z0 at hu;split at hu
  ·cases hu
  rw[List.mem_singleton.1 hu];exact⟨ht.1.mono h0 (ai _) O,ht.2⟩
 |x::p,t,hp,ht=>λu hu=>by
  have hw:∀a:Tm,(Cl F 1 b a.1/\Pw a.2)->Cl F 1 (b+1) a.1/\Pw a.2:=λa ha=>⟨ha.1.mono h0 (ai _) O,ha.2⟩;have hx:=hp x tJ;have hp':∀u∈p,Cl F 1 b u.1/\Pw u.2:=λu hu=>hp u (by simp[hu]);unfold Z0 at hu;split at hu
  ·rcases List.mem_cons.1 hu with rfl | hu
   ·exact hw _ hx
   exact vT h0 hp' ht u hu
  split at hu
  ·split at hu
   ·exact hw _ (hp' u hu)
   rcases List.mem_cons.1 hu with rfl | hu
   ·exact⟨Cl.add h0 hx.1 ht.1,ht.2⟩
   exact hw _ (hp' u hu)
  split at hu
  ·exact hw _ (hp u hu)
  rcases List.mem_cons.1 hu with rfl | hu
  ·exact hw _ ht
  exact hw _ (hp u hu)
theorem QDc{F:Nat}{Pw:List Int->Prop}(h0:0<F){l:List Tm}(h:∀u∈l,Cl F 1 b u.1/\Pw u.2):∀u∈XO l,Cl F 1 (b+l.length) u.1/\Pw u.2:=by
 have key:∀(l p:List Tm) (c:Nat),b<=c->(∀u∈l,Cl F 1 b u.1/\Pw u.2)->(∀u∈p,Cl F 1 c u.1/\Pw u.2)->∀u∈l.foldl Z0 p,Cl F 1 (c+l.length) u.1/\Pw u.2:=by
  intro l
  induction l with
  |nil=>intro p c _ _ hp;exact hp
  |cons t l ih =>
   intro p c hc hl hp u hu;have ht:=hl t tJ;have h1:=ih (Z0 p t) (c+1) O (λu hu=>hl u (by simp[hu])) (vT h0 hp ⟨ht.1.mono h0 (ai _) hc,ht.2⟩) u hu;rw[ah];exact⟨h1.1.mono h0 (ai _) O,h1.2⟩
 exact key l [] b (ai _) h λu hu=>by cases hu
def QDb(l:List Tm):(XO l).length<=l.length:=by
 have key:∀(l p:List Tm),(l.foldl Z0 p).length<=p.length+l.length:=by
  intro l
  induction l with
  |nil=>intro p;exact ai _
  |cons t l ih =>
   intro p;have h1:=ih (Z0 p t);have h2:=qL p t;rw[ah];show(l.foldl Z0 (Z0 p t)).length<=_;omega
 exact ag (key l []) tJ
def QAE(v:Nat):∀l:List Tm,(ZT v l).length<=l.length
 |[]=>ai _
 |t::l=>by
  show(TU v t++ZT v l).length<=_;have h1:=QAE v l;have h2:(TU v t).length<=1:=by unfold TU;split<;>simp
  rw[ak,ah];omega
def QFS{v:Nat}{l:List Tm}{u:Tm}(h:u∈ZT v l):∃t∈l,0<Qm t.2 v/\u=(t.1*((Qm t.2 v:Int):Rat),t.2.set v (Qm t.2 v-1)):=by
 obtain⟨t,ht,hu⟩:=List.mem_flatMap.1 h;unfold TU at hu;split at hu
 ·rename_i hg;exact⟨t,ht,hg,List.mem_singleton.1 hu⟩
 cases hu
def wtQ(x:Rat):Nat:=sz x.num+sz (x.den:Int)
def wtL(l:List Rat):Nat:=(l.map wtQ).sum
def QEs:∀l:List Rat,sz ((Sw l:Nat):Int)<=wtL l+1/\∀x∈l,sz x.num+sz ((Sw l:Nat):Int)<=wtL l+1
 |[]=>⟨tF,λx hx=>by cases hx⟩
 |r::l=>by
  have ih:=QEs l;have h1:=K8 (r.den:Int) ((Sw l:Nat):Int);rw[<-aQ]at h1;have e:wtL (r::l)=wtQ r+wtL l:=by simp[wtL]
  have e2:Sw (r::l)=r.den*Sw l:=rfl;rw[e,e2];unfold wtQ;refine⟨tD ih.1,λx hx=>?_⟩;rcases List.mem_cons.1 hx with rfl | hx
  ·have:=ih.1;omega
  have:=ih.2 x hx;omega
def mxN:List Rat->Nat
 |[]=>0
 |r::l=>max (sz r.num) (mxN l)
def QFA:∀ {l:List Rat} {x:Rat},x∈l->sz x.num<=mxN l
 |r::l,x,h=>by
  rcases List.mem_cons.1 h with rfl | h
  ·exact bF _ _
  exact ag (QFA h) (bw _ _)
theorem QC4:∀ {l:List Rat},l≠[]->∃x∈l,mxN l=sz x.num
 |[r],_=>⟨r,tJ,by simp[mxN]⟩
 |r::q::l,_=>by
  obtain⟨x,hx,e⟩:=QC4 (l:=q::l) tJ;show ∃y∈r::q::l,max (sz r.num) (mxN (q::l))=sz y.num;rcases Nat.le_total (sz r.num) (mxN (q::l))with g | g
  ·rw[Nat.max_eq_right g,e];exact⟨x,.tail _ hx,rfl⟩
  rw[Nat.max_eq_left g];exact⟨r,.head _,rfl⟩
def QEN:∀ {l:List Rat},(∀x∈l,wtQ x<=k)->wtL l<=l.length*k
 |[],_=>ax _
 |r::l,h=>by
  have h1:=QEN λx hx=>h x (aN _ hx);have h2:=h r tJ;have e:wtL (r::l)=wtQ r+wtL l:=by simp[wtL]
  rw[e,ah,aX];omega
def QF8(k:Nat):10^k<=2^((10*k+2)/3):=by
 have h:∀q,10^(3*q)<=2^(10*q):=λq=>by
  rw[bO,bO];exact bW tF q
 obtain⟨q,r,hr,rfl⟩:∃q r,r<3/\k=3*q+r:=⟨k/3,k%3,Nat.mod_lt _ tF,O⟩;have e:(10*(3*q+r)+2)/3=10*q+(10*r+2)/3:=O;rw[e,bA,bA];refine aS (h q) ?_;obtain rfl | rfl | rfl:r=0\/r=1\/r=2:=O
 all_goals decide
def QCh(u:Nat){k:Nat}(hk:0<k)(h:(ao u).length<=k):sz ((u:Nat):Int)<=(10*k+2)/3:=by
 rw[bU]at h;rw[XD,aF];have h1:¬10^k<=u:=λe=>tD ((RP (u:=u) hk).2 e);exact aE (ei h1) (QF8 k)
def QCg(z:Int){k:Nat}(hk:0<k)(h:(Ze z).length<=k):sz z<=(10*k+2)/3:=by
 have e:sz z=sz (z.natAbs:Int):=by unfold sz;simp
 rw[e];refine QCh _ hk ?_;rcases bM z 0 with g | g
 ·rw[Yo g,ah]at h;omega
 rwa [XJ g]at h
theorem QG9(x:Rat){k:Nat}(hk:0<k)(h:(JP x).length<=k):wtQ x<=(10*k+4)/3+1:=by
 unfold wtQ;unfold JP at h;split at h
 ·rename_i hd;rw[hd];have h1:=QCg _ hk h;have h2:sz ((1:Nat):Int)<=1:=tF;omega
 rw[ak,ah]at h;have a:0<(Ze x.num).length:=List.length_pos_iff.2 (by
  rcases bM x.num 0 with g | g
  ·rw[Yo g];simp
  rw[XJ g];exact Kn _)
 have b:0<(ao x.den).length:=List.length_pos_iff.2 (Kn _);have h1:=QCg x.num a (ai _);have h2:=QCh x.den b (ai _);omega
def jV(h:Jp s=0){k:Nat}(hk:0<k)(hl:s.length<=k):wtQ (Qz s)<=(10*k+4)/3+1:=QG9 _ hk (by rw[<-(XM h).1];exact hl)
def QFE:(2:Nat)^1990<=lim:=tG
theorem QBn{r:Rat}(h:JW r<=1990):Jh r=false:=by
 unfold Jh Dp;have a:∀z:Int,sz z<=1990->decide (lim<=z.natAbs)=false:=λz hz=>by
  have h1:=(XD z 1990).1 hz;exact decide_eq_false (Nat.not_le.2 (aE h1 QFE))
 rw[a _ (ag (bF _ _) h),a _ (ag (bw _ _) h)];rfl
def QDL{p:Pt}(h:∀x∈p,Jp x.1=0):p=Vg (Xq p):=by
 unfold Vg Xq;rw[aZ]
 conv=>lhs;rw[<-bN p]
 refine bT λx hx=>?_;show x=(JP (Qz x.1),x.2);rw[<-(XM (h x hx)).1]
def pk{rs:List (List Tm)}(h:SmS 20 4 3 m rs){p:List Tm}(hp:p∈rs){v:Nat}(hv:v<m):(∀u∈ZT (v+1) p,Cl (Sw (p.map (·.1))) 1 22 u.1/\(u.2.length=m+1/\(∀k∈u.2,0<=k/\k<=12)/\Zz u.2 (m+1)<=2))/\(ZT (v+1) p).length<=4:=by
 have hF:=Mw (p.map (·.1));refine⟨λu hu=>?_,ag (QAE _ _) (h.len p hp)⟩;obtain⟨t,ht,hd,rfl⟩:=QFS hu;have h1:=h.N4 p hp t ht;have hvl:v+1<t.2.length:=by rw[h1.2.2.1];omega
 have hd12:=h1.2.2.2 (Qm t.2 (v+1)) (ja hvl);have hs:=(QEb hvl hd (m+1)).2 O;have hk3:Qm t.2 (v+1)<=3:=by
  have:=jW t.2 (j:=v+1) (m:=m+1) O;have:=h1.2.1;omega
 refine⟨?_,by dsimp only;rw[bC];exact h1.2.2.1,λk hk=>?_,by dsimp only;have:=h1.2.1;omega⟩
 ·have c1:Cl (Sw (p.map (·.1))) 1 20 t.1:=QHp hF (xX (aq (f:=λu:Tm=>u.1) ht)) h1.1;have c2:Cl 1 1 2 ((Qm t.2 (v+1):Int):Rat):=Cl.of _ bQ (by rw[Rat.den_intCast];exact eH _) (by rw[Rat.num_intCast];exact(XD _ 2).2 O);have c3:=c1.cQ c2;rw[bS]at c3;exact c3
 rcases List.mem_or_eq_of_mem_set hk with g | g
 ·exact h1.2.2.2 k g
 omega
theorem pV{rs:List (List Tm)}(h:SmS 20 4 3 m rs){p:List Tm}(hp:p∈rs):sz ((Sw (p.map (·.1)):Nat):Int)<=81:=by
 have h1:=QCu (l:=p.map (·.1)) (k:=20) λr hr=>by
  obtain⟨u,hu,rfl⟩:=List.mem_map.1 hr;exact(h.N4 p hp u hu).1
 have h2:=h.len p hp;rw[aj]at h1;omega
theorem dK{rs:List (List Tm)}(h:SmS 20 4 3 m rs){p:List Tm}(hp:p∈rs){v:Nat}(hv:v<m):(∀u∈XO (ZT (v+1) p),Cl (Sw (p.map (·.1))) 1 26 u.1/\(u.2.length=m+1/\(∀k∈u.2,0<=k/\k<=12)/\Zz u.2 (m+1)<=2))/\(XO (ZT (v+1) p)).length<=4:=by
 have h1:=pk h hp hv;have hF:=Mw (p.map (·.1));refine⟨λu hu=>?_,ag (QDb _) h1.2⟩;have h2:=QDc (Pw:=λl=>l.length=m+1/\(∀k∈l,0<=k/\k<=12)/\Zz l (m+1)<=2) hF h1.1 u hu;exact⟨h2.1.mono hF (ai _) (tD h1.2),h2.2⟩
def QBb{rs:List (List Tm)}(h:SmS 20 4 3 m rs){p:List Tm}(hp:p∈rs){v:Nat}(hv:v<m):ke 120 2 4 (m+1) (XO (ZT (v+1) p)):=by
 have h1:=dK h hp hv;refine⟨h1.2,λu hu=>?_,λu hu=>(h1.1 u hu).2.2.2,λu hu=>(h1.1 u hu).2.1,λu hu=>(h1.1 u hu).2.2.1⟩;have h2:=(h1.1 u hu).1.JW (Mw _);have h3:=pV h hp;omega
def gJ:∀ {l:List Tm},(∀u∈l,JW u.1<=k)->Yr l<=l.length*(k+1)
 |[],_=>ax _
 |u::l,h=>by
  have h1:=gJ λx hx=>h x (aN _ hx);have h2:=h u tJ;have e:Yr (u::l)=(JW u.1+1)+Yr l:=by simp[Yr]
  rw[e,ah,aX];omega
def QBG{l:List Int}(h1:l.length=m+1)(h2:∀k∈l,0<=k/\k<=12)(hm:m<=3):PW l:=⟨λk hk=>tD<|h2 k hk,O⟩
def QGW(a:XP):ML a=a.1\/ML a = -a.1\/ML a=a.2\/ML a = -a.2:=by
 rw[<-dQ];unfold QHd;have hr:∀x:Rat,P9 x=x\/P9 x = -x:=λx=>by unfold P9;split<;>simp
 rcases QHh (P9 a.1) (P9 a.2)with e | e<;>rw[e]
 ·rcases hr a.1 with g | g<;>simp[g]
 rcases hr a.2 with g | g<;>simp[g]
def QHi{a:XP}(h:KA D 1 b a):Cl D 1 b (ML a):=by
 rcases QGW a with e | e | e | e<;>rw[e]
 ·exact h.1
 ·exact h.1.neg
 ·exact h.2
 exact h.2.neg
section
variable{y:Xz}{m:Nat}{t:XP}{vb:List XP}(h:SmY y m)(hm:m<=3)(hx:ShB m vb)(ht:JW t.1<=56/\JW t.2<=56)
include h hx ht
theorem QCj:∀x∈t::vb,Xf x 160:=λx hxm=>by
 rcases List.mem_cons.1 hxm with rfl | hxm
 ·exact⟨O,O⟩
 exact hx.sz x hxm
theorem QGE:QHz y t vb:=⟨⟨20,3,4,160,λi hi=>hx.rv h ⟨O,O⟩ hi⟩,λi hi=>(hx.ev h ⟨O,O⟩ hi).mono tF,λe he=>⟨(h.pl e he).1,(h.pl e he).2.1⟩⟩
include hm
theorem QGI:QFr y.rs (t::vb):=by
 have hrs:y.rs.length=y.rl.length:=by unfold Xz.rs;rw[aj]
 have hev:∀i,i<y.rs.length->Xf (J3 (t::vb) (el y.rs i)) 2100:=λi hi=>hx.ev h ⟨O,O⟩ O;refine⟨λi hi=>Bn (h.s.po hi) (by rw[ah,hx.len]) O (QCj h hx ht) tF tF tF tF,λi hi=>(hev i hi).mono tF,λx hxm=>?_⟩;obtain⟨p,hp,rfl⟩:=List.mem_map.1 hxm;obtain⟨i,hi,rfl⟩:=aP hp;rw[<-Jb hi];exact ag (OV (hev i hi)) tF
theorem pj{p:List Tm}(hp:p∈y.rs){v:Nat}(hv:v<m):Xf (J3 (t::vb) (XO (ZT (v+1) p))) 1800 :=
 (Wf (QBb h.s hp hv) (bs:=t::vb) (S:=160) (by rw[ah,hx.len]) (QCj h hx ht)).mono tF
theorem QGY(hi:i<y.rs.length):∀k,k<=m->JW (Mz y.rs (t::vb) i k)<=2+k*1801:=by
 intro k
 induction k with
 |zero=>intro _;show JW ((0:Int):Rat)<=_;decide
 |succ k ih =>
  intro hk;have ih:=ih O;have h1:=OV (pj h hm hx ht (Qw hi) (v:=k) O);have h2:=Kz (Mz y.rs (t::vb) i k) (ML (J3 (t::vb) (XO (ZT (k+1) (el y.rs i)))));show JW (Mz y.rs (t::vb) i k+_)<=_;omega
theorem zr(hi:i<y.rs.length){k:Nat}(hk:k<=m):JW (Mz y.rs (t::vb) i k)<=6000:=by
 have:=QGY h hm hx ht hi k hk;omega
theorem zz:∀i,i<=y.rs.length->JW (VK y.rs (t::vb) m i)<=6000
 |0,_=>by show JW ((0:Int):Rat)<=_;decide
 |i+1,hi=>QGA (zz i O) (zr h hm hx ht O (ai _))
theorem QGZ(hck:∀e∈y.rl,∀u∈e.2,Jp u.f=0):QH3 y t vb:=by
 have hmem:∀e∈y.rl,Xq (ZX e.2)∈y.rs:=λe he=>aq (f:=λe:NQ=>Xq (ZX e.2)) he;refine⟨λe he v hv=>⟨Xq (ZX e.2),QDL λx hxm=>?_,rfl,λu hu=>?_,λu hu=>?_,λu hu=>?_,?_⟩,λe he v hv ps hps=>⟨120,2,4,160,?_⟩,λe he v hv=>?_,λi hi v hv=>?_,λi hi k hk=>?_,λi hi=>?_,λe he=>⟨(h.pl e he).1,(h.pl e he).2.1⟩⟩
 ·obtain⟨u,hu,rfl⟩:=List.mem_map.1 hxm;exact hck e he u hu
 ·have h1:=h.s.N4 _ (hmem e he) u hu;exact⟨by rw[hx.len];exact h1.2.2.1,QBG h1.2.2.1 h1.2.2.2 hm⟩
 ·have h1:=h.s.N4 _ (hmem e he) u hu;omega
 ·have h1:=((pk h.s (hmem e he) (v:=v) (by rw[<-hx.len];exact hv)).1 u hu).2;exact⟨by rw[hx.len];exact h1.1,QBG h1.1 h1.2.1 hm⟩
 ·have h1:=pk h.s (hmem e he) (v:=v) (by rw[<-hx.len];exact hv);have h2:=gJ (l:=ZT (v+1) (Xq (ZX e.2))) (k:=105) λu hu=>by
   have h2:=(h1.1 u hu).1.JW (Mw _);have h3:=pV h.s (hmem e he);omega
  have h3:=dM h1.2 (ai (105+1));omega
 ·have hv':v<m:=by rw[<-hx.len];exact hv
  have hpo:=QBb h.s (hmem e he) hv';have hL:=vu hps;refine⟨by rw[hL,ah,hx.len];exact hpo,λu hu=>?_,QCj h hx ht,tF,tF,tF⟩;have h1:(u.f,u.k)∈ZX ps:=aq (f:=λu:V0=>(u.f,u.k)) hu;rw[hps]at h1;obtain⟨w,hw,e2⟩:=List.mem_map.1 h1;have e3:JP w.1=u.f:=congrArg Prod.fst e2;rw[<-e3];exact QD2 (cW (hpo.N4 w hw) tF)
 ·have h1:=dK h.s (hmem e he) (v:=v) (by rw[<-hx.len];exact hv);exact ag h1.2 tF
 ·exact(pj h hm hx ht (Qw hi) (by rw[<-hx.len];exact hv)).mono tF
 ·exact ag (zr h hm hx ht hi (by rw[<-hx.len];exact hk)) tF
 rw[hx.len];exact ag (zz h hm hx ht i hi) tF
theorem QGa:QCV y.rs (t::vb) m:=by
 have key:∀p∈y.rs,∃i,i<y.rs.length/\el y.rs i=p:=λp hp=>by
  obtain⟨i,hi,e⟩:=aP hp;exact⟨i,hi,by rw[Jb hi];exact e⟩
 refine⟨λp hp u hu=>?_,λp hp=>ag (h.s.len p hp) tF,λp hp u hu=>?_,λp hp v hv=>?_,λp hp v hv=>?_,λp hp v hv=>?_,λp hp v hv=>(pj h hm hx ht hp hv).mono tF,λp hp v hv=>ag (OV (pj h hm hx ht hp hv)) tF,λi hi k hk=>ag (zr h hm hx ht hi hk) tF,λi hi=>ag (zz h hm hx ht i hi) tF⟩
 ·have h1:=h.s.N4 p hp u hu;exact⟨QBG h1.2.2.1 h1.2.2.2 hm,by rw[h1.2.2.1];omega⟩
 ·have h1:=h.s.N4 p hp u hu;omega
 ·have h1:=pk h.s hp hv;have h2:=gJ (l:=ZT (v+1) p) (k:=105) λu hu=>by
   have h2:=(h1.1 u hu).1.JW (Mw _);have h3:=pV h.s hp;omega
  have h3:=dM h1.2 (ai (105+1));omega
 ·exact ag (dK h.s hp hv).2 tF
 exact Bn (QBb h.s hp hv) (by rw[ah,hx.len]) O (QCj h hx ht) tF tF tF tF
theorem QFD(hwt:∀r∈Uc vb,wtQ r<=135)(hwu:wtQ t.1<=49/\wtQ t.2<=49):∀i,i<=y.rs.length->Jh (VK y.rs (t::vb) m i)=false:=by
 have hone:∀i,i<y.rs.length->Jh (Mz y.rs (t::vb) i m)=false:=λi hi=>by
  have hp:=Qw hi;have hF:=Mw ((el y.rs i).map (·.1));have hE:=Mw (t.1::t.2::Uc vb);have hends:∀r∈t.1::t.2::Uc vb,Cl (Sw (t.1::t.2::Uc vb)) 1 (mxN (t.1::t.2::Uc vb)) r:=λr hr=>Cl.of r hE (xX hr) (QFA hr);have hb:∀j,j<(t::vb).length->KA (Sw (t.1::t.2::Uc vb)) 1 (mxN (t.1::t.2::Uc vb)) (el (t::vb) j):=λj hj=>by
   rcases List.mem_cons.1 (Qw hj)with g | g
   ·rw[g];exact⟨hends _ (.head _),hends _ (.tail _ (.head _))⟩
   exact⟨hends _ (.tail _ (.tail _ (cy g).1)),hends _ (.tail _ (.tail _ (cy g).2))⟩
  have hw:=QEs (t.1::t.2::Uc vb);obtain⟨x,hxm,hxe⟩:=QC4 (l:=t.1::t.2::Uc vb) tJ;have hw2:=hw.2 x hxm;rw[<-hxe]at hw2;have hw3:=QEN (l:=Uc vb) hwt;have hlen:(Uc vb).length<=6:=by rw[QAA,hx.len];omega
  have hw4:=dM hlen (ai 135);have hw5:wtL (t.1::t.2::Uc vb)=wtQ t.1+(wtQ t.2+wtL (Uc vb)):=by simp[wtL]
  generalize Sw (t.1::t.2::Uc vb)=E at hE hb hw2;generalize mxN (t.1::t.2::Uc vb)=M at hb hw2;have hfs:=pV h.s hp;have h0:0<Sw ((el y.rs i).map (·.1))*E^2:=bR hF (eO hE);have hsum:∀k,k<=m->Cl (Sw ((el y.rs i).map (·.1))*E^2) 1 (30+2*M+k) (Mz y.rs (t::vb) i k):=by
   intro k
   induction k with
   |zero=>intro _;show Cl _ 1 _ ((0:Int):Rat);rw[Rat.intCast_zero];exact .zero 1 _
   |succ k ih =>
    intro hk;have ih:=ih O;have hn:=dK h.s hp (v:=k) O;have h1:=QGi (D:=2) hF hE (p:=XO (ZT (k+1) (el y.rs i))) (bs:=t::vb) (λu hu=>⟨(hn.1 u hu).1,by rw[ah,hx.len];exact(hn.1 u hu).2.1,λk hk=>((hn.1 u hu).2.2.1 k hk).1,by rw[ah,hx.len];exact(hn.1 u hu).2.2.2⟩) hb _ (ai _);rw[aK]at h1;have h2:=(QHi h1).mono h0 (ai _) (c:=30+2*M+k) (tD hn.2);exact Cl.add h0 ih h2
  have h3:=(hsum m (ai _)).JW h0;have h4:=K8 ((Sw ((el y.rs i).map (·.1)):Nat):Int) ((E^2:Nat):Int);have h5:=K8 ((E:Nat):Int) ((E:Nat):Int);rw[<-aQ]at h4 h5;rw[show E^2=E*E from Nat.pow_two E]at h3 h4;exact QBn O
 intro i
 induction i with
 |zero=>intro _;show Jh ((0:Int):Rat)=false;decide +kernel
 |succ i ih =>
  intro hi;show Jh (E2 (VK y.rs (t::vb) m i) (Mz y.rs (t::vb) i m))=false;unfold E2;split
  ·exact hone i O
  exact ih O
end
theorem QDP{r:Sr}(h:Ts l=true)(hn:l.length=r.n):BS r l :=
 ⟨tD<|(AY h).1,λs hs=>tD<|(AY h).2 s hs⟩
def eqS8(a:List UInt8):It .eql (tx a) (tx a)=some (.bool true):=by simp[It,tx]
def plF(y:Xz)(t:List UInt8×List UInt8)(l:List (List UInt8×List UInt8)):List Int:=[Xd t.1 t.2,YZ y.rt.n l]
def QHX{t:List UInt8×List UInt8}(h:y.e=0->y.rt.n=y.nm.n):V3 y t l=if y.e=0 then Qs (plF y t l)else y.e:=by
 unfold V3 plF;by_cases g:y.e=0
 ·rw[h g,if_pos g,g,Zn]
 rw[if_neg g,Zf g]
def QEe{t:List UInt8×List UInt8}(h:Xd t.1 t.2=0):eQ #[tx t.1,tx t.2]=kh (JB t):=by
 have h1:=Ku h;show eQ #[tx t.1,tx t.2] = .agg #[tx (JP (Qz t.1)),tx (JP (Qz t.2))];rw[<-(XM h1.1).1,<-(XM h1.2.1).1]
theorem QFC(l:List Rat):Qs ((l.map JP).map MN)=if l.any Jh=true then 4 else 0:=by
 induction l with
 |nil=>rfl
 |cons a l ih =>
  show Qs (MN (JP a)::(l.map JP).map MN)=if(Jh a||l.any Jh)=true then 4 else 0
  rw[QDj];cases Jh a
  ·rw[if_neg tF,Zn,ih,Bool.false_or]
  rw[if_pos rfl,Bool.true_or,if_pos rfl];rfl
theorem QA4{t:List UInt8×List UInt8}(hc:Xd t.1 t.2=0)(hF:Fits F w)(hy:X4 F y)(hb:QxR F rb vb)(hbn:rb.n<=1000/\y.rt.n<=1000)(ho:QHz y (JB t) vb):QU prog 43 [y.v,.agg #[tx t.1,tx t.2],rb.v] w F (λ(c:Sr)=>c.v) (λc F=>NxR F c (K9 y.rs (JB t::vb))):=by
 rw[QEe hc];exact QDQ hF hy hb hbn ho
theorem QGK{t:List UInt8×List UInt8}(hc:Xd t.1 t.2=0)(hF:Fits F w)(hy:X4 F y)(hb:QxR F rb vb)(hbn:rb.n<=1000/\y.rt.n<=1000)(ho:QH3 y (JB t) vb):Qf prog 45 [y.v,.agg #[tx t.1,tx t.2],rb.v] w F (tx (JP (VK y.rs (JB t::vb) vb.length y.rs.length))):=by
 rw[QEe hc];exact gT hF hy hb hbn ho
theorem QFf{t:List UInt8×List UInt8}{r:Sr}(hF:Fits F w)(hGl:JE F)(hy:X4 F y)(hl:vG y)(hx:Ks F r l)(hn:r.n<=9223372036854775807):Qf prog 6 [y.v,.agg #[tx t.1,tx t.2],r.v] w F (.bool true):=by
 have hyo:=hy.ok;have hsl:=hy.P0;have hrl:=hy.Ka;have hx1:=hx.len;refine QU.intro (G:=λF=>JE F/\X4 F y/\Ks F r l) func6 rfl tH rfl rfl hF (λF' hF'=>⟨hGl.le hF',hy.le hF',hx.le hF'⟩)<|wa<|Qp rfl (vs:=[_,_,_]) rfl λb3=>Qp rfl (vs:=[_,_]) rfl λb4=>wZ rfl<|QG ?_
 refine ZZ [(2,_),(3,_),(4,_)] [(27,.bool ((Ff y 3||cT [t.1,t.2]||!(Ts l))))] wu ?_ ?_
 ·refine QB<|QA (wO I J6 .u1)<|QI I (λ_ _ f k=>QFF (y:=y) f k.1 k.2.1 hl) λ_=>wW I ?_
  refine Qn (t:=15) rfl (λhb15=>?_) λhb15=>?_
  ·refine wB 13 I ?_;exact JY ⟨rfl,rfl,rfl,(congrArg (λb=>some (aa b)) (by rw[hb15];rfl)),trivial⟩ we tN
  refine QL I I<|QA (QH I V6 JF)<|QL I I<|QA (Qe I JF .here .h1)<|QL I I<|QA (QH I We JF)<|QL I I<|QA (Qe I JF .here (.skip .h1))<|QL I I<|Qb I (Q5 YG) JF Im I I λb20=>QL I I<|QI I (λ_ _ f k=>QGb (l:=[t.1,t.2]) f (Qy.of (n:=2) (sz:=1) (cs:=[t.1,t.2].map tx) k.2 I) rfl tF) λ_=>wB 2 I ?_
  refine Qn (t:=23) rfl (λhb23=>?_) λhb23=>?_
  ·refine wB 5 I ?_;exact JY ⟨rfl,rfl,rfl,(congrArg (λb=>some (aa b)) (by rw[hb15,show cT [t.1,t.2]=true from hb23];rfl)),trivial⟩ we λ_ h=>h.1.1.1
  refine wB 3 I<|QI I (λ_ _ f k=>um f k.1.1.1.2.2 hn) λ_=>QL I I<|QA (XL I)<|wB 2 I ?_
  exact JY ⟨rfl,rfl,rfl,(congrArg (λb=>some (aa b)) (by rw[hb15,show cT [t.1,t.2]=false from hb23];rfl)),trivial⟩ we λ_ h=>h.1.1.1.1
 simp only[ab,ae];refine QQ I (λhc2=>?_) λhc2=>?_
 ·refine wa<|QI I (λ_ _ f k=>CX f k.1) λ_=>wD 4 I ?_
  exact wg I I (rfl) tL
 have hnot:Ff y 3=false/\cT [t.1,t.2]=false/\Ts l=true:=by
  simp only[ay,aD]at hc2;exact⟨hc2.1.1,hc2.1.2,hc2.2⟩
 obtain⟨hg1,hlo,hsh⟩:=hnot;have htl:t.1.length<=14/\t.2.length<=14:=by unfold cT at hlo;simp at hlo;omega
 have ht:GJ y:=hl.ts (yQ hg1).1;have hcA:BS r l:=QDP hsh hx1;have hlA:=(AY hsh).1;have hpe:=QHX (y:=y) (t:=t) (l:=l) λh=>(hyo h).rn;have hall:(V3 y t l)=0->y.e=0/\Xd t.1 t.2=0/\YZ y.rl.length l=0/\(SmY y y.rl.length/\y.rl.length<=3)/\ShB y.rl.length (lV l)/\(JW (JB t).1<=56/\JW (JB t).2<=56):=λh0=>by
  unfold V3 at h0;have hye:y.e=0:=Q9 h0 _ (.head _);have hct:Xd t.1 t.2=0:=Q9 h0 _ (.tail _ (.head _));have hbo:YZ y.nm.n l=0:=Q9 h0 _ (.tail _ (.tail _ (.head _)));have hsm:=QGg hl hrl (hyo hye) (yQ hg1).1 ((yQ hg1).2 hye);rw[show y.nm.n=y.rl.length by rw[hrl,(hyo hye).rn]]at hbo;have hcs:=Ku hct;exact⟨hye,hct,hbo,⟨hsm.1,tD hsm.2⟩,QGG hsh hbo,OU (k:=14) hcs.1 tF htl.1,OU (k:=14) hcs.2.1 tF htl.2⟩
 have hsd:(V3 y t l)=0->QFr y.rs (JB t::lV l):=λh0=>by
  obtain⟨_,_,_,hsm,hxb,htz⟩:=hall h0;exact QGI hsm.1 hsm.2 hxb htz
 have hlp:(V3 y t l)=0->QCV y.rs (JB t::lV l) l.length:=λh0=>by
  obtain⟨_,_,hbo,hsm,hxb,htz⟩:=hall h0;rw[(XZ hbo).1];exact QGa hsm.1 hsm.2 hxb htz
 refine wC 4 I<|QA (wO I J6 .u1)<|QA (wN I Jd .here)<|wW I<|QI I (λ_ _ f k=>Oa (y:=y) (t:=t) (r:=r) (l:=l) f k.1 k.2.1 ht O k.2.2 hcA hsd) λc33=>JQ _ (λ_ _ f k=>k.2.2.1) λn33=>wD 9 I<|QA (wO I J6 .u1)<|QA (wN I Jd .here)<|wW I<|QI I (λ_ _ f k=>SD (y:=y) (t:=t) (r:=r) (l:=l) f k.1.1 k.1.2.1 ht O k.1.2.2 hcA hlp) λ_=>wB 3 I ?_
 refine wD 6 I<|QA (wO I J6 .u1)<|QI I (λ_ _ f k=>QA3 (y:=y) f k.1.1.1 k.1.1.2.1 ht) λ_=>wD 3 I ?_
 refine ZZ [(2,_),(3,_),(4,_),(7,_),(8,_),(9,_),(10,_)] [(11,.int .i64 ((V3 y t l)))] w6 ?_ ?_
 ·refine wA 6 I ?_;refine QQ I (λhc2=>?_) λhc2=>?_
  ·have h46:y.e=0:=eq_of_beq hc2;refine JG we mixed tE<|QK (wN I Jd .here)<|QR I (λ_ _ f k=>Ov f O) λ_=>QK (QH I VY Z6)<|QK (Qe I Z6 .u1 (.skip .h1))<|QK (Qg I VJ)<|QK (QD I)<|QR I (λ_ _ f k=>gW (n:=y.rt.n) f k.1.1.1.1.2.2 hcA) λ_=>?_
   refine Qo I (Q5 Q2) JK R4 I I (λb54=>?_) (λw h=>h.imp tP λF h=>h.1.1);refine QR I (λ_ _ f k=>QDh (l:=plF y t l) f (Qy.of (n:=2) (sz:=1) (cs:=(plF y t l).map Jo) k.2 I) tF) (λ_=>QK (QF I)<|Q7 ?_);exact JY ⟨rfl,rfl,rfl,rfl,rfl,rfl,rfl,(congrArg (λz=>some (au .i64 z)) (by rw[hpe,if_pos h46])),trivial⟩ we λ_ h=>h.1.1.1.1
  have h46:y.e≠0:=by simpa using hc2
  refine QN ?_;exact JY ⟨rfl,rfl,rfl,rfl,rfl,rfl,rfl,(congrArg (λz=>some (au .i64 z)) (by rw[hpe,if_neg h46])),trivial⟩ we tM
 simp only[ab,ae];refine wA 7 I ?_;refine QQ I (λhc2=>?_) λhc2=>?_
 ·have h57:(V3 y t l)≠0:=bne_iff_ne.1 hc2;have z33:c33.n=0:=by rw[n33,zS h57];rfl
  refine wb I<|QA (Qg I YG) ?_
  rw[z33];refine QA (QT (v:=.bool true) rfl rfl (rfl))<|wB 6 I ?_
  rw[zS h57];refine QA (QT (v:=.bool true) rfl rfl (eqI8 _))<|wB 5 I ?_
  rw[QC8 h57];refine QA (QT (v:=.bool true) rfl rfl (eqS8 []))<|wB 7 I<|QA (QT (v:=.bool true) rfl rfl (eqI8 _))<|wB 3 I<|QI I (λ_ _ f k=>CX f k.1.1.1.1) λ_=>wD 5 I ?_
  exact wg I I (rfl) tL
 have h57:(V3 y t l)=0:=bne_eq_false_iff_eq.1 hc2;obtain⟨hye,hct,hbo,hsm,hxb,htz⟩:=hall h57;have hrs:y.rs.length=y.rl.length:=by unfold Xz.rs;rw[aj]
 have hll:l.length=y.rl.length:=(XZ hbo).1;have hsq:=QGE hsm.1 hxb htz;have hlq:=QGZ hsm.1 hsm.2 hxb htz λe he=>(hsm.1.pl e he).2.2;have hcs:=Ku hct;have hnl:=QFD hsm.1 hsm.2 hxb htz (λq hq=>by
  obtain⟨a,ha,hq⟩:=List.mem_flatMap.1 hq;obtain⟨s,hs,rfl⟩:=List.mem_map.1 ha;have h1:=Ku ((XZ hbo).2 s hs);have h2:=(AY hsh).2 s hs;simp only[bG,bm,or_false]at hq;rcases hq with rfl | rfl
  ·exact ag (jV (k:=40) h1.1 tF h2.1) tF
  exact ag (jV (k:=40) h1.2.1 tF h2.2) tF) ⟨ag (jV (k:=14) hcs.1 tF htl.1) tF,ag (jV (k:=14) hcs.2.1 tF htl.2) tF⟩ _ (ai _)
 rw[<-hll]at hnl;have hlp0:(cS (V3 y t l) (VK y.rs (JB t::lV l) l.length y.rs.length)).1=0:=by rw[h57,zu,hnl];rfl
 have hlp2:(cS (V3 y t l) (VK y.rs (JB t::lV l) l.length y.rs.length)).2=JP (VK y.rs (JB t::lV l) l.length y.rs.length):=by rw[h57,zu,hnl];rfl
 have hst:∀s∈(K9 y.rs (JB t::lV l)).map JP,s.length<=1000000:=λs hs=>by
  obtain⟨x,hxm,rfl⟩:=List.mem_map.1 hs;obtain⟨p,hp,rfl⟩:=List.mem_map.1 hxm;obtain⟨i,hi,rfl⟩:=aP hp;rw[<-Jb hi];have h1:=OV (hxb.ev hsm.1 (t:=JB t) ⟨O,O⟩ (i:=i) O);have h2:=Ie (ML (J3 (JB t::lV l) (el y.rs i)));omega
 refine wC 4 I<|QA (wO I J6 .u1)<|QA (wN I Jd .here)<|wW I<|QI I (λ_ _ f k=>QA4 (y:=y) (t:=t) (rb:=r) (vb:=lV l) hct f k.1.1.1.2.1 (k.1.1.1.2.2.q (XZ hbo).2) ⟨O,O⟩ hsq) λc81=>JQ _ (λ_ _ f k=>k.2.2.1) λn81=>?_
 rw[DD]at n81;refine wD 7 I<|QI I (λ_ _ f k=>uv (l:=(K9 y.rs (JB t::lV l)).map JP) f k.2.1 ⟨by rw[aj,DD];exact n81.symm,hst⟩ O) λ_=>?_
 rw[QFC];refine wD 3 I ?_;refine QQ I (λhc2=>?_) λhc2=>?_
 ·have hany:(K9 y.rs (JB t::lV l)).any Jh=true:=by
   cases e:(K9 y.rs (JB t::lV l)).any Jh with
   |true=>rfl
   |false=>rw[e]at hc2;cases hc2
  have hany4:(uU (V3 y t l) (K9 y.rs (JB t::lV l))).1=4:=by rw[h57,S9,hany];rfl
  have z33:c33.n=0:=by rw[n33,h57,S9,hany];rfl
  refine wb I<|QA (Qg I YG) ?_
  rw[z33];refine QA (QT (v:=.bool true) rfl rfl (rfl))<|wB 4 I ?_
  rw[hany4];refine QA (QT (v:=.bool true) rfl rfl (eqI8 _))<|wB 3 I<|QI I (λ_ _ f k=>CX f k.1.1.1.1.1.1) λ_=>wD 5 I ?_
  exact wg I I (rfl) tL
 have hany:(K9 y.rs (JB t::lV l)).any Jh=false:=by
  cases e:(K9 y.rs (JB t::lV l)).any Jh with
  |false=>rfl
  |true=>rw[e]at hc2;cases hc2
 have hnu0:(uU (V3 y t l) (K9 y.rs (JB t::lV l))).1=0:=by rw[h57,S9,hany];rfl
 have hnu2:(uU (V3 y t l) (K9 y.rs (JB t::lV l))).2=(K9 y.rs (JB t::lV l)):=by rw[h57,S9,hany];rfl
 refine wC 5 I ?_;rw[hnu0];refine QA (QT (v:=.bool true) rfl rfl (rfl))<|wB 6 I<|QI I (λw F hF ⟨⟨⟨⟨⟨⟨hGl,hy,hx⟩,h33⟩,_⟩,_⟩,h81⟩,_⟩=>Pd (ra:=c33) (rb:=c81) (la:=(K9 y.rs (JB t::lV l)).map JP) (lb:=(K9 y.rs (JB t::lV l)).map JP) hF (by have h9:=h33.1;rw[hnu2]at h9;exact h9) h81.1 (by rw[aj,n33,hnu2]) (by rw[aj,DD];exact n81.symm) (by rw[n33,hnu2,DD];omega) rfl) λ_=>wB 5 I ?_
 rw[hlp0];refine QA (QT (v:=.bool true) rfl rfl (rfl))<|wB 5 I<|QA (wO I J6 .u1)<|QL I I<|QA (wN I Jd .here)<|wB 3 I<|QI I (λ_ _ f k=>QGK (y:=y) (t:=t) (rb:=r) (vb:=lV l) hct f k.1.1.1.1.1.1.2.1 (k.1.1.1.1.1.1.2.2.q (XZ hbo).2) ⟨O,O⟩ hlq) λ_=>?_
 rw[Yg];refine QL I I ?_;rw[hlp2];refine QA (QT (v:=.bool true) rfl rfl (eqS8 _))<|wB 3 I<|QI I (λ_ _ f k=>CX f k.1.1.1.1.1.1.1.1) λ_=>wD 5 I ?_
 exact wg I I (rfl) tL
end Go.Proofs.YtjcphjpkimmmjaaGreatDoor
