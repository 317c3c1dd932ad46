/- Steps of the proof of the theorem in the last file. -/
import Derived.Test.YtjcphjpkimmmjaaGreatDoorE0XCr
set_option linter.all false
set_option maxHeartbeats 4000000
open Go.Proofs.Tryz
open Go.Value renaming bool → aa,int → ah,okWide → bM
open List renaming cons_append → ab,nil_append → ae,length_map → ag,length_cons → ao,length_append → au,perm_append_comm → av,getElem?_toArray → aB,length_range → aC,all_eq_true → aD,range → aG,append_assoc → aK,length_set → aM,take_zero → aN,take_succ_cons → aO,mem_map_of_mem → aP,drop_succ_cons → aQ,foldl_append → aU,flatMap_cons → aV,Sublist → aW,take_length → aZ,range_succ → ba,map_append → bc,drop_zero → bh,mem_append_right → bm,mem_cons_of_mem → bw,mem_append_left → bz,not_mem_nil → bF,length_take → bG,getElem_map → bH,mem_cons → bL,map_map → bN
open Bool renaming eq_iff_iff → af,not_not → aq,and_eq_true → ar,or_eq_false_iff → ax,not_eq_false' → aE,not_eq_true' → aX,and_eq_false_iff → bp,and_false → bK
open Nat renaming le_refl → ai,mul_le_mul_right → aj,zero_le → ak,dvd_trans → aH,zero_add → aI,le_trans → aJ,dvd_mul_left → aL,mul_le_mul_left → aS,lt_of_lt_of_le → aT,dvd_mul_right → aY,mul_pos → bA,add_mul → bB,not_lt_zero → bI,zero_mul → bO,add_comm → bP
open List.Sublist renaming refl → ay,cons → bS
open Go.DataW renaming trod → aA,Trod → bR
open List.cons renaming inj → aF
open And renaming intro → aR
open Go.Lib renaming decDigits → bj
open Int renaming natAbs_natCast → bC,natCast_mul → bJ
open Go.Instr renaming buildSlice → bD,fill → bQ
namespace Go.Proofs.YtjcphjpkimmmjaaGreatDoor
variable{w:World}{F:Gs}{s:List UInt8}{B D T b c i k m n:Nat}{l:List (List UInt8×List UInt8)}{y:Xz}{on vb:List XP}{ra rb:Sr}{cs:List Value}{ls:List Sr}
open Go.RowKit Ig
theorem QEo(hF:Fits F w)(hl:s.length<=9223372036854775807):Qf prog 116 [tx s] w F (.bool (cN s)):=by
 refine QU.intro (G:=λF=>True) func116 rfl tH rfl rfl hF tL<|wa<|wZ rfl<|QG<|wa<|wZ rfl<|QV<|J9 (ι:=Wo s λc=>EK c.toNat) [(0,_)] (λi=>[(3,.int .i64 ((i.i:Nat):Int))]) (λi=>s.length-i.i) (Wo.start _ _) wk wk λi=>?_
 simp only[ab,ae];have hle:=i.le;refine wA 5 I<|QA (Xc I Zm)<|wD 3 I ?_
 refine QQ I (λhc=>?_) λhc=>?_
 ·have hi:i.i<s.length:=tD<|wi hc
  refine wC 8 I<|QA (Hh (i:=i.i) rfl rfl Zm hi) ?_
  obtain⟨c,hce⟩:∃c,c=s[i.i].toNat:=⟨_,rfl⟩;rw[<-hce];refine wD 3 I ?_;refine ZZ [(0,_),(3,_)] [(48,.bool ((!EK c)))] wm ?_ ?_
  ·refine wA 4 I ?_;refine Qn (t:=16) rfl (λhb16=>?_) λhb16=>?_
   ·refine wB 6 I ?_;refine Qn (t:=20) rfl (λhb20=>?_) λhb20=>?_
    ·refine wB 3 I<|Jn I I<|Jn I I<|wB 6 I<|Jn I I<|Jn I I<|wB 12 I ?_
     refine wB 2 I<|QA (XL I)<|QE ?_
     exact JY ⟨rfl,rfl,(congrArg (λb=>some (aa b)) (by clear hce;rw[af];simp_all [EK,Yp]<;>omega)),trivial⟩ we tM
    refine wB 6 I ?_;refine Qn (t:=23) rfl (λhb23=>?_) λhb23=>?_
    ·refine wB 8 I ?_;refine Qn (t:=28) rfl (λhb28=>?_) λhb28=>?_
     ·refine wB 3 I<|Jn I I<|Jn I I<|wB 14 I<|QA (XL I)<|QE ?_
      exact JY ⟨rfl,rfl,(congrArg (λb=>some (aa b)) (by clear hce;rw[af];simp_all [EK,Yp]<;>omega)),trivial⟩ we tM
     refine wB 6 I ?_;refine Qn (t:=31) rfl (λhb31=>?_) λhb31=>?_
     ·refine wB 8 I ?_;refine Qn (t:=36) rfl (λhb36=>?_) λhb36=>?_
      ·refine wB 11 I<|QA (XL I)<|QE ?_
       exact JY ⟨rfl,rfl,(congrArg (λb=>some (aa b)) (by clear hce;rw[af];simp_all [EK,Yp]<;>omega)),trivial⟩ we tM
      refine wB 6 I ?_;refine Qn (t:=40) rfl (λhb40=>?_) λhb40=>?_
      ·refine wB 7 I<|QA (XL I)<|QE ?_
       exact JY ⟨rfl,rfl,(congrArg (λb=>some (aa b)) (by clear hce;rw[af];simp_all [EK,Yp]<;>omega)),trivial⟩ we tM
      refine wB 6 I ?_;refine Qn (t:=44) rfl (λhb44=>?_) λhb44=>?_
      ·refine wB 3 I<|QA (XL I)<|QE ?_
       exact JY ⟨rfl,rfl,(congrArg (λb=>some (aa b)) (by clear hce;rw[af];simp_all [EK,Yp]<;>omega)),trivial⟩ we tM
      refine wB 5 I<|QA (XL I)<|QE ?_
      exact JY ⟨rfl,rfl,(congrArg (λb=>some (aa b)) (by clear hce;rw[af];simp_all [EK,Yp]<;>omega)),trivial⟩ we tM
     refine wB 12 I ?_;refine Qn (t:=40) rfl (λhb40=>?_) λhb40=>?_
     ·refine wB 7 I<|QA (XL I)<|QE ?_
      exact JY ⟨rfl,rfl,(congrArg (λb=>some (aa b)) (by clear hce;rw[af];simp_all [EK,Yp]<;>omega)),trivial⟩ we tM
     refine wB 6 I ?_;refine Qn (t:=44) rfl (λhb44=>?_) λhb44=>?_
     ·refine wB 3 I<|QA (XL I)<|QE ?_
      exact JY ⟨rfl,rfl,(congrArg (λb=>some (aa b)) (by clear hce;rw[af];simp_all [EK,Yp]<;>omega)),trivial⟩ we tM
     refine wB 5 I<|QA (XL I)<|QE ?_
     exact JY ⟨rfl,rfl,(congrArg (λb=>some (aa b)) (by clear hce;rw[af];simp_all [EK,Yp]<;>omega)),trivial⟩ we tM
    refine wB 12 I ?_;refine Qn (t:=31) rfl (λhb31=>?_) λhb31=>?_
    ·refine wB 8 I ?_;refine Qn (t:=36) rfl (λhb36=>?_) λhb36=>?_
     ·refine wB 11 I<|QA (XL I)<|QE ?_
      exact JY ⟨rfl,rfl,(congrArg (λb=>some (aa b)) (by clear hce;rw[af];simp_all [EK,Yp]<;>omega)),trivial⟩ we tM
     refine wB 6 I ?_;refine Qn (t:=40) rfl (λhb40=>?_) λhb40=>?_
     ·refine wB 7 I<|QA (XL I)<|QE ?_
      exact JY ⟨rfl,rfl,(congrArg (λb=>some (aa b)) (by clear hce;rw[af];simp_all [EK,Yp]<;>omega)),trivial⟩ we tM
     refine wB 6 I ?_;refine Qn (t:=44) rfl (λhb44=>?_) λhb44=>?_
     ·refine wB 3 I<|QA (XL I)<|QE ?_
      exact JY ⟨rfl,rfl,(congrArg (λb=>some (aa b)) (by clear hce;rw[af];simp_all [EK,Yp]<;>omega)),trivial⟩ we tM
     refine wB 5 I<|QA (XL I)<|QE ?_
     exact JY ⟨rfl,rfl,(congrArg (λb=>some (aa b)) (by clear hce;rw[af];simp_all [EK,Yp]<;>omega)),trivial⟩ we tM
    refine wB 12 I ?_;refine Qn (t:=40) rfl (λhb40=>?_) λhb40=>?_
    ·refine wB 7 I<|QA (XL I)<|QE ?_
     exact JY ⟨rfl,rfl,(congrArg (λb=>some (aa b)) (by clear hce;rw[af];simp_all [EK,Yp]<;>omega)),trivial⟩ we tM
    refine wB 6 I ?_;refine Qn (t:=44) rfl (λhb44=>?_) λhb44=>?_
    ·refine wB 3 I<|QA (XL I)<|QE ?_
     exact JY ⟨rfl,rfl,(congrArg (λb=>some (aa b)) (by clear hce;rw[af];simp_all [EK,Yp]<;>omega)),trivial⟩ we tM
    refine wB 5 I<|QA (XL I)<|QE ?_
    exact JY ⟨rfl,rfl,(congrArg (λb=>some (aa b)) (by clear hce;rw[af];simp_all [EK,Yp]<;>omega)),trivial⟩ we tM
   refine wB 10 I ?_;refine Qn (t:=23) rfl (λhb23=>?_) λhb23=>?_
   ·refine wB 8 I ?_;refine Qn (t:=28) rfl (λhb28=>?_) λhb28=>?_
    ·refine wB 3 I<|Jn I I<|Jn I I<|wB 14 I<|QA (XL I)<|QE ?_
     exact JY ⟨rfl,rfl,(congrArg (λb=>some (aa b)) (by clear hce;rw[af];simp_all [EK,Yp]<;>omega)),trivial⟩ we tM
    refine wB 6 I ?_;refine Qn (t:=31) rfl (λhb31=>?_) λhb31=>?_
    ·refine wB 8 I ?_;refine Qn (t:=36) rfl (λhb36=>?_) λhb36=>?_
     ·refine wB 11 I<|QA (XL I)<|QE ?_
      exact JY ⟨rfl,rfl,(congrArg (λb=>some (aa b)) (by clear hce;rw[af];simp_all [EK,Yp]<;>omega)),trivial⟩ we tM
     refine wB 6 I ?_;refine Qn (t:=40) rfl (λhb40=>?_) λhb40=>?_
     ·refine wB 7 I<|QA (XL I)<|QE ?_
      exact JY ⟨rfl,rfl,(congrArg (λb=>some (aa b)) (by clear hce;rw[af];simp_all [EK,Yp]<;>omega)),trivial⟩ we tM
     refine wB 6 I ?_;refine Qn (t:=44) rfl (λhb44=>?_) λhb44=>?_
     ·refine wB 3 I<|QA (XL I)<|QE ?_
      exact JY ⟨rfl,rfl,(congrArg (λb=>some (aa b)) (by clear hce;rw[af];simp_all [EK,Yp]<;>omega)),trivial⟩ we tM
     refine wB 5 I<|QA (XL I)<|QE ?_
     exact JY ⟨rfl,rfl,(congrArg (λb=>some (aa b)) (by clear hce;rw[af];simp_all [EK,Yp]<;>omega)),trivial⟩ we tM
    refine wB 12 I ?_;refine Qn (t:=40) rfl (λhb40=>?_) λhb40=>?_
    ·refine wB 7 I<|QA (XL I)<|QE ?_
     exact JY ⟨rfl,rfl,(congrArg (λb=>some (aa b)) (by clear hce;rw[af];simp_all [EK,Yp]<;>omega)),trivial⟩ we tM
    refine wB 6 I ?_;refine Qn (t:=44) rfl (λhb44=>?_) λhb44=>?_
    ·refine wB 3 I<|QA (XL I)<|QE ?_
     exact JY ⟨rfl,rfl,(congrArg (λb=>some (aa b)) (by clear hce;rw[af];simp_all [EK,Yp]<;>omega)),trivial⟩ we tM
    refine wB 5 I<|QA (XL I)<|QE ?_
    exact JY ⟨rfl,rfl,(congrArg (λb=>some (aa b)) (by clear hce;rw[af];simp_all [EK,Yp]<;>omega)),trivial⟩ we tM
   refine wB 12 I ?_;refine Qn (t:=31) rfl (λhb31=>?_) λhb31=>?_
   ·refine wB 8 I ?_;refine Qn (t:=36) rfl (λhb36=>?_) λhb36=>?_
    ·refine wB 11 I<|QA (XL I)<|QE ?_
     exact JY ⟨rfl,rfl,(congrArg (λb=>some (aa b)) (by clear hce;rw[af];simp_all [EK,Yp]<;>omega)),trivial⟩ we tM
    refine wB 6 I ?_;refine Qn (t:=40) rfl (λhb40=>?_) λhb40=>?_
    ·refine wB 7 I<|QA (XL I)<|QE ?_
     exact JY ⟨rfl,rfl,(congrArg (λb=>some (aa b)) (by clear hce;rw[af];simp_all [EK,Yp]<;>omega)),trivial⟩ we tM
    refine wB 6 I ?_;refine Qn (t:=44) rfl (λhb44=>?_) λhb44=>?_
    ·refine wB 3 I<|QA (XL I)<|QE ?_
     exact JY ⟨rfl,rfl,(congrArg (λb=>some (aa b)) (by clear hce;rw[af];simp_all [EK,Yp]<;>omega)),trivial⟩ we tM
    refine wB 5 I<|QA (XL I)<|QE ?_
    exact JY ⟨rfl,rfl,(congrArg (λb=>some (aa b)) (by clear hce;rw[af];simp_all [EK,Yp]<;>omega)),trivial⟩ we tM
   refine wB 12 I ?_;refine Qn (t:=40) rfl (λhb40=>?_) λhb40=>?_
   ·refine wB 7 I<|QA (XL I)<|QE ?_
    exact JY ⟨rfl,rfl,(congrArg (λb=>some (aa b)) (by clear hce;rw[af];simp_all [EK,Yp]<;>omega)),trivial⟩ we tM
   refine wB 6 I ?_;refine Qn (t:=44) rfl (λhb44=>?_) λhb44=>?_
   ·refine wB 3 I<|QA (XL I)<|QE ?_
    exact JY ⟨rfl,rfl,(congrArg (λb=>some (aa b)) (by clear hce;rw[af];simp_all [EK,Yp]<;>omega)),trivial⟩ we tM
   refine wB 5 I<|QA (XL I)<|QE ?_
   exact JY ⟨rfl,rfl,(congrArg (λb=>some (aa b)) (by clear hce;rw[af];simp_all [EK,Yp]<;>omega)),trivial⟩ we tM
  simp only[ab,ae];refine QQ I (λhc=>?_) λhc=>?_
  ·have hbad:EK (el s i.i).toNat=false:=by rw[Jb hi,<-hce];simpa using hc
   refine wA 6 I ?_
   repeat first|refine Q6 ?_|refine Qv ?_
   exact wg I I (congrArg aa (by unfold cN;rw[i.hit hi hbad];rfl)) tL
  have hcg:=hc;refine QN<|Qj<|wE 3 I<|QA (Qu I I O)<|wB 2 I ?_
  exact Ql (i.next hi (by rw[Jb hi,<-hce];simpa using hcg)) (by show s.length-(i.i+1)<s.length-i.i;omega) wm we tM
 have hge:s.length<=i.i:=tD<|wj hc
 refine Qx ?_
 repeat first|refine QY ?_|refine QO tH ?_
 refine QZ<|wE 4 I<|QA (Xc I Zm)<|wB 2 I ?_
 refine Qn (t:=52) rfl (λhb52=>?_) λhb52=>?_
 ·refine wB 3 I<|QA (Xc I Zm)<|wD 7 I ?_
  exact wg I I (congrArg aa (by unfold cN;rw[i.stop hge];rw[af];simp at *;simp_all<;>omega)) tL
 refine wD 8 I ?_;exact wg I I (congrArg aa (by unfold cN;rw[i.stop hge];rw[af];simp at *;simp_all<;>omega)) tL
def vH(u:Nat){k:Nat}(hk:0<k)(h:(bj u).length<=k):sz (u:Int)<=4*k:=by
 rw[Lib.decDigits_length]at h;rw[XD,bC];have h1:¬10^k<=u:=λe=>tD ((RP (u:=u) hk).2 e);have h2:10^k<=16^k:=Nat.pow_le_pow_left tF _;have h3:(16:Nat)^k=2^(4*k):=by rw[Nat.pow_mul]
 rw[<-h3];exact aT (Nat.lt_of_not_le h1) h2
def QCf(z:Int){k:Nat}(hk:0<k)(h:(Ze z).length<=k):sz z<=4*k:=by
 have e:sz z=sz (z.natAbs:Int):=by unfold sz;simp
 rw[e];refine vH _ hk ?_;rcases Int.lt_or_le z 0 with g | g
 ·rw[Yo g,ao]at h;omega
 rwa [XJ g]at h
def QF9(x:Rat){k:Nat}(hk:0<k)(h:(JP x).length<=k):JW x<=4*k:=by
 unfold JW;unfold JP at h;split at h
 ·rename_i hd;rw[hd];exact Nat.max_le.2 ⟨QCf _ hk h,aJ (show sz ((1:Nat):Int)<=1 by decide) O⟩
 rw[au,ao]at h;exact Nat.max_le.2 ⟨QCf _ hk O,vH _ hk O⟩
def OU(h:Jp s=0){k:Nat}(hk:0<k)(hl:s.length<=k):JW (Qz s)<=4*k :=
 QF9 _ hk (by rw[<-(XM h).1];exact hl)
theorem QCr{a:List UInt8}{d:Int}(hF:Fits F w)(hd:0<=d/\d<=1000):Qf prog 57 [tx a,.int .i64 d] w F (.bool (Uz a d)):=by
 have hn:=vX a;refine QU.intro (G:=λF=>True) func57 rfl tH rfl rfl hF tL<|wa<|wZ rfl<|wb rfl<|QA (Xc rfl Bw)<|wW rfl<|QA (Mx rfl rfl O)<|QA (Qu rfl rfl O)<|QA (QT rfl rfl rfl)<|wW rfl ?_
 refine Qn (t:=11) rfl (λhb11=>?_) λhb11=>?_
 ·have hl:a.length<=1000000:=by have h1:=wi hb11;omega
  refine wB 3 I<|QI I (λ_ _ f k=>Ou f (hl)) λ_=>wB 4 I ?_
  refine Qn (t:=16) rfl (λhb16=>?_) λhb16=>?_
  ·refine wB 3 I<|QI I (λ_ _ f k=>QA6 f O) λ_=>QL I I<|QI I (λ_ _ f k=>gi f ) λ_=>QL I I<|QA (Xc I Bw)<|wB 6 I ?_
   refine Qn (t:=24) rfl (λhb24=>?_) λhb24=>?_
   ·refine wB 3 I<|QI I (λ_ _ f k=>QA9 f O) λ_=>QL I I<|QA (Xc I Bw)<|wD 9 I ?_
    exact wg I I ((congrArg aa (by have h1:=wi hb11;simp[Uz,h1];simp at hb16 hb24;simp[hb16,hb24]))) tL
   refine wD 10 I ?_;exact wg I I ((congrArg aa (by have h1:=wi hb11;simp[Uz,h1];simp at hb16 hb24;simp[hb16];intro g;omega))) tL
  refine wD 18 I ?_;exact wg I I ((congrArg aa (by have h1:=wi hb11;simp at hb16;simp[Uz,h1,hb16]))) tL
 refine wD 23 I ?_;exact wg I I ((congrArg aa (by simp[Uz,hb11]))) tL
theorem gU{q:Option Addr}{n:Nat}{m d:Int}(hF:Fits F w)(hR:Qy F q n 2 (l.flatMap NU))(hl:l.length=n)(hd:0<=d/\d<=1000)(hn:n<=1000000):Qf prog 56 [.slice q n c,.int .i64 m,.int .i64 d] w F (.bool (decide ((n:Int)<=m)&&l.all (cx d))):=by
 have hln:=hl;refine QU.intro (G:=λF=>Qy F q n 2 (l.flatMap NU)) func56 rfl tH rfl rfl hF (λF' hF'=>hR.le hF')<|wa<|wZ rfl<|QG<|wb rfl<|QA (Qg rfl XF)<|wW rfl<|QA (QT rfl rfl rfl)<|QE<|QC ?_
 refine QQ I (λhc=>?_) λhc=>?_
 ·have hg:=wi hc;refine wA 6 I ?_;exact wg I I (congrArg aa (by have h1:decide ((n:Int)<=m)=false:=decide_eq_false O;rw[h1];rfl)) tL
 have hg:=wj hc;refine wC 9 I<|J9 (ι:=Wo l (cx d)) [(0,_),(2,_)] (λi=>[(7,.int .i64 ((i.i:Nat):Int))]) (λi=>l.length-i.i) (Wo.start _ _) wm wk λi=>?_
 simp only[ab,ae];refine wA 5 I<|QA (Qg I XF)<|wD 3 I ?_
 refine QQ I (λhc=>?_) λhc=>?_
 ·have hi:i.i<l.length:=tD<|wi hc
  refine wC 4 I ?_;refine ZZ [(0,_),(2,_),(7,_)] [(49,.bool (!cx d (el l i.i)))] wu ?_ ?_
  ·refine JG we mixed tE<|QK (QD I)<|QK (QD I)<|QK (Q3 (n:=n) i.i tM rfl rfl XF Jd O)<|QK (QH I V6 JF)<|QK (JA (n:=n) ((i.i)*2+0) tM O rfl JF (JN (f:=NU) (l:=l) K1 O rfl))<|QK (QD I)<|QR I (λ_ _ f k=>QCr f hd) λ_=>QK (XL I)<|QK (QD I) ?_
   refine Gg (t:=26) rfl (λhb26=>?_) λhb26=>?_
   ·refine Jj I I I<|Jj I I I<|Jj I I I<|Jj I I I<|Jj I I I<|Jj I I I<|Jj I I I<|Jj I I I<|QK (Qh I I I)<|QK (QD I)<|Jj I I I<|Jj I I I<|Jj I I I<|Jj I I I<|Jj I I I<|Jj I I I<|Jj I I I<|Jj I I I<|Jj I I I<|Jj I I I<|Jj I I I<|Jj I I I<|QK (Qh I I I)<|Q7 ?_
    exact JY ⟨rfl,rfl,rfl,(congrArg (λb=>some (aa b)) (by simp at hb26;simp[cx,hb26])),trivial⟩ we tN
   refine XA I I<|QK (QD I)<|XA I I<|QK (QD I)<|XA I I<|QK (Q3 (n:=n) i.i tM rfl rfl XF Jd O)<|XA I I<|QK (QH I We JF)<|XA I I<|QK (JA (n:=n) ((i.i)*2+1) tM O rfl JF (JN (f:=NU) (l:=l) K1 O rfl))<|XA I I<|QK (QD I)<|XA I I<|QR I (λ_ _ f k=>QCr f hd) λ_=>XA I I<|QK (XL I)<|QK (Qd I I I)<|QK (QD I) ?_
   refine Gg (t:=36) rfl (λhb36=>?_) λhb36=>?_
   ·refine Jj I I I<|Jj I I I<|Jj I I I<|Jj I I I<|Jj I I I<|Jj I I I<|Jj I I I<|Jj I I I<|Jj I I I<|Jj I I I<|Jj I I I<|Jj I I I<|QK (Qh I I I)<|Q7 ?_
    exact JY ⟨rfl,rfl,rfl,(congrArg (λb=>some (aa b)) (by simp at hb26 hb36;simp[cx,hb26,hb36])),trivial⟩ we λ_ h=>h.1.1
   refine XA I I<|QK (QD I)<|XA I I<|QK (QD I)<|XA I I<|QK (Q3 (n:=n) i.i tM rfl rfl XF Jd O)<|XA I I<|QK (QH I V6 JF)<|XA I I<|QK (JA (n:=n) ((i.i)*2+0) tM O rfl JF (JN (f:=NU) (l:=l) K1 O rfl))<|XA I I<|QK (QD I)<|XA I I<|QK (QD I)<|XA I I<|QK (Q3 (n:=n) i.i tM rfl rfl XF Jd O)<|XA I I<|QK (QH I We JF)<|XA I I<|QK (JA (n:=n) ((i.i)*2+1) tM O rfl JF (JN (f:=NU) (l:=l) K1 O rfl))<|XA I I<|QR I (λ_ _ f k=>QCs f (QDC (by simpa using hb26)) (QDC (by simpa using hb36))) λ_=>XA I I<|QK (QT I I I)<|QK (Qd I I I) ?_
   refine Q7 ?_;exact JY ⟨rfl,rfl,rfl,(congrArg (λb=>some (aa b)) (by simp at hb26 hb36;simp[cx,hb26,hb36])),trivial⟩ we λ_ h=>h.1.1.1
  simp only[ab,ae];refine QQ I (λhc=>?_) λhc=>?_
  ·refine wA 6 I ?_
   repeat first|refine Q6 ?_|refine Qv ?_
   exact wg I I (congrArg aa (by rw[i.hit hi (by simpa using hc),bK])) tL
  refine QN<|Qj<|wE 3 I<|QA (Qu I I O)<|wB 2 I ?_
  exact Ql (i.next hi (by simpa using hc)) (by show l.length-(i.i+1)<l.length-i.i;omega) wu we tM
 have hi:l.length<=i.i:=tD<|wj hc
 refine Qx ?_
 repeat first|refine QY ?_|refine QO tH ?_
 refine QZ<|wE 7 I ?_
 exact wg I I (congrArg aa (by rw[i.stop hi];have h1:decide ((n:Int)<=m)=true:=decide_eq_true O;rw[h1];rfl)) tL
def QCD(x:Int):Qs [x]=x:=by
 unfold Qs;split
 ·rename_i h;rw[h];rfl
 rfl
theorem Xer{rs:List (List Tm)}{fr t2:Rat}{x y:List XP}(h:NT x y)(ht:fr<=t2)(ho:∀i,i<on.length->(el on i).1<=(el on i).2)(hr:∀i,i<x.length->∀t∈el rs i,t.2.length<=on.length+1/\∀k∈t.2,0<=k):
  NT (YP rs fr t2 x on) (YP rs fr t2 y on):=by
 unfold YP;rw[<-h.1];refine NT.of λi hi=>uG (h.2 i hi) (Se (Yd.self (by show(0:Rat)<=t2-fr;grind)) ?_);exact TO (rs:=(fr,t2)::on) (bs:=(fr,t2)::on) (by simpa using hr i hi) λj hj=>by
  cases j with
  |zero=>exact Yd.self ht
  |succ j=>exact Yd.self (ho j (by simpa using hj))
def AZ(s:List UInt8×List UInt8):Bool:=!(decide ((s.1.length:Int)>40)||decide ((s.2.length:Int)>40))
def Ts(l:List (List UInt8×List UInt8)):Bool:=l.all AZ&&decide (l.length<=30)
def AY(h:Ts l=true):l.length<=30/\∀s∈l,s.1.length<=40/\s.2.length<=40:=by
 unfold Ts at h;rw[ar,aD,decide_eq_true_eq]at h;refine⟨h.2,λs hs=>?_⟩;have:=h.1 s hs;unfold AZ at this;simp at this;omega
theorem gW{n:Nat}{r:Sr}(hF:Fits F w)(hx:Ks F r l)(hc:BS r l):Qf prog 31 [.int .i64 (n:Int),r.v] w F (.int .i64 (YZ n l)):=by
 have hl:=hx.len;have hn:=hc.n;refine QU.intro (G:=λF=>Ks F r l) func31 rfl tH rfl rfl hF (λF' hF'=>hx.le hF')<|wa<|wZ rfl<|QG<|wb rfl<|QA (Qg rfl XF)<|wW rfl<|QA (QT rfl rfl rfl)<|QE<|QC ?_
 refine QQ I (λhc2=>?_) λhc2=>?_
 ·have h8:=bne_iff_ne.1 hc2;refine wA 6 I ?_;exact wg I I (congrArg (ah .i64) (by unfold YZ;rw[if_pos O])) tL
 have h8:=bne_eq_false_iff_eq.1 hc2;refine wC 5 I<|QI I (λ_ _ f k=>jG f k.row ⟨hl,hc.t⟩ hn) λ_=>wD 4 I ?_
 exact wg I I (congrArg (ah .i64) (by unfold YZ;rw[if_neg O])) tL
theorem Xa8{o:Int}(hF:Fits F w):Qf prog 32 [.int .i64 o] w F (.int .i64 (BD o)):=by
 refine QU.intro (G:=λF=>True) func32 rfl tH rfl rfl hF tL<|wa<|wZ rfl<|QG ?_
 refine ZZ [] [(8,.bool ((decide (o<1)||decide (o>16))))] trivial ?_ ?_
 ·refine wA 4 I ?_;refine Qn (t:=5) rfl (λhb5=>?_) λhb5=>?_
  ·refine wB 4 I ?_;exact JY ⟨(congrArg (λb=>some (aa b)) (by rw[hb5];rfl)),trivial⟩ we tM
  refine wB 6 I ?_;exact JY ⟨(congrArg (λb=>some (aa b)) (by rw[hb5];rfl)),trivial⟩ we tM
 simp only[ab,ae];refine QQ I (λhc2=>?_) λhc2=>?_
 ·have h8:=hc2;refine wA 6 I ?_;exact wg I I (congrArg (ah .i64) (by unfold BD;rw[if_pos h8])) tL
 have h8:=hc2;refine wC 8 I ?_;exact wg I I (congrArg (ah .i64) (by unfold BD;rw[if_neg (by rw[h8];decide)])) tL
theorem Xav{r:Sr}(hF:Fits F w)(hx:Ks F r l)(hc:BS r l):Qf prog 34 [r.v] w F (.int .i64 (Qs (l.map Xa0))):=by
 have hl:=hx.len;have hn:=hc.n;refine QU.intro (G:=λF=>Ks F r l) func34 rfl tH rfl rfl hF (λF' hF'=>hx.le hF')<|wa<|wZ rfl<|QG<|wa<|wZ rfl<|QV<|J9 (ι:=X7 l Xa0) [(0,_)] (λi=>[(3,.int .i64 ((i.i:Nat):Int))]) (λi=>l.length-i.i) (X7.start _ _) wk wk λi=>?_
 simp only[ab,ae];have hi:=i.le;refine wA 5 I<|QA (Qg I XF)<|wD 3 I ?_
 refine QQ I (λhc2=>?_) λhc2=>?_
 ·have hlt:i.i<l.length:=tD<|wi hc2
  have hem:=Qw hlt;refine wC 8 I<|QA (Q3 (n:=r.n) i.i (λF hx=>hx.row) rfl rfl XF Jd O)<|QA (JZ (n:=r.n) (vs:=[tx (el l i.i).1,tx (el l i.i).2]) ((i.i)*2) (λF hx=>hx.row) O rfl Jd I λj v hv=>JN (f:=NU) (l:=l) K1 O hv)<|QI I (λ_ _ f k=>Xak f (hc.t _ hem)) λ_=>wD 9 I ?_
  refine QQ I (λhc2=>?_) λhc2=>?_
  ·have h17:=bne_iff_ne.1 hc2;refine wA 7 I ?_
   repeat first|refine Q6 ?_|refine Qv ?_
   exact wg I I (congrArg (ah .i64) (i.hit hlt h17)) tL
  have h17:=bne_eq_false_iff_eq.1 hc2;refine QN<|Qj<|wE 3 I<|QA (Qu I I O)<|wB 2 I ?_
  exact Ql (i.next hlt h17) (by show l.length-(i.i+1)<l.length-i.i;omega) wm we tN
 have hge:l.length<=i.i:=tD<|wj hc2
 refine Qx ?_
 repeat first|refine QY ?_|refine QO tH ?_
 refine QZ<|wE 7 I ?_
 exact wg I I (congrArg (ah .i64) (i.stop hge)) tL
theorem um{r:Sr}(hF:Fits F w)(hx:Ks F r l)(hn:r.n<=9223372036854775807):Qf prog 24 [r.v] w F (.bool (Ts l)):=by
 have hl:=hx.len;refine QU.intro (G:=λF=>Ks F r l) func24 rfl tH rfl rfl hF (λF' hF'=>hx.le hF')<|wa<|wZ rfl<|QG<|wa<|wZ rfl<|QV<|J9 (ι:=Wo l AZ) [(0,_)] (λi=>[(3,.int .i64 ((i.i:Nat):Int))]) (λi=>l.length-i.i) (Wo.start _ _) wk wk λi=>?_
 simp only[ab,ae];have hi:=i.le;refine wA 5 I<|QA (Qg I XF)<|wD 3 I ?_
 refine QQ I (λhc2=>?_) λhc2=>?_
 ·have hlt:i.i<l.length:=tD<|wi hc2
  have hem:=Qw hlt;refine wC 4 I ?_;refine ZZ [(0,_),(3,_)] [(25,.bool (!(AZ (el l i.i))))] wm ?_ ?_
  ·refine wA 3 I<|QA (Q3 (n:=r.n) i.i (λF hx=>hx.row) rfl rfl XF Jd O)<|QA (QH I V6 JF)<|QA (JA (n:=r.n) ((i.i)*2+0) (λF hx=>hx.row) O rfl JF (JN (f:=NU) (l:=l) K1 O rfl))<|QA (Xc I Bw)<|wB 2 I ?_
   refine Qn (t:=17) rfl (λhb17=>?_) λhb17=>?_
   ·refine wB 9 I ?_;exact JY ⟨rfl,rfl,(congrArg (λb=>some (aa b)) (by unfold AZ;rw[aq,hb17];rfl)),trivial⟩ we tM
   refine wB 5 I<|QA (Q3 (n:=r.n) i.i (λF hx=>hx.row) rfl rfl XF Jd O)<|QL I I<|QA (QH I We JF)<|QL I I<|QA (JA (n:=r.n) ((i.i)*2+1) (λF hx=>hx.row) O rfl JF (JN (f:=NU) (l:=l) K1 O rfl))<|QL I I<|QA (Xc I Bw)<|wB 4 I ?_
   exact JY ⟨rfl,rfl,(congrArg (λb=>some (aa b)) (by unfold AZ;rw[aq,hb17];rfl)),trivial⟩ we tM
  simp only[ab,ae];refine QQ I (λhc2=>?_) λhc2=>?_
  ·have h25:AZ (el l i.i)=false:=by simpa using hc2
   refine wA 6 I ?_
   repeat first|refine Q6 ?_|refine Qv ?_
   exact wg I I (congrArg aa (by unfold Ts;rw[i.hit hlt h25];rfl)) tL
  have h25:AZ (el l i.i)=true:=by simpa using hc2
  refine QN<|Qj<|wE 3 I<|QA (Qu I I O)<|wB 2 I ?_
  exact Ql (i.next hlt h25) (by show l.length-(i.i+1)<l.length-i.i;omega) wm we tM
 have hge:l.length<=i.i:=tD<|wj hc2
 refine Qx ?_
 repeat first|refine QY ?_|refine QO tH ?_
 refine QZ<|wE 4 I<|QA (Qg I XF)<|wD 5 I ?_
 exact wg I I (congrArg aa (by unfold Ts;rw[i.stop hge,Bool.true_and,hl];exact decide_eq_decide.2 O)) tL
structure vG(y:Xz):Prop where
 nn:y.nm.n<=9223372036854775807
 nc:y.nm.n<=y.nm.cap
 nt:∀s∈y.nl,s.length<=9223372036854775807
 rn:y.rt.n<=9223372036854775807
 sn:y.st.n<=9223372036854775807
 rl:∀e∈y.rl,e.2.length=e.1.n/\e.1.n<=9223372036854775807/\∀t∈e.2,t.k.length=t.r.n
def shT(t:V0):Bool:=!(decide ((t.r.n:Int)>30)||decide ((t.f.length:Int)>30))
def shP(e:NQ):Bool:=!(decide ((e.1.n:Int)>70))&&e.2.all shT
def shN(y:Xz):Bool:=decide ((y.nm.n:Int)>30)||decide ((y.rt.n:Int)>30)||decide ((y.st.n:Int)>30)
def shS(y:Xz):Bool:=!(shN y)&&(y.rl.all shP&&y.sl.all AZ)
structure QId(y:Xz):Prop where
 n:y.nm.n<=30/\y.rt.n<=30/\y.st.n<=30
 r:∀e∈y.rl,e.1.n<=70/\∀t∈e.2,t.r.n<=30/\t.f.length<=30
 s:∀s∈y.sl,s.1.length<=40/\s.2.length<=40
def QHL{s:List UInt8×List UInt8}(h:AZ s=true):s.1.length<=40/\s.2.length<=40:=by
 unfold AZ at h;simp at h;omega
theorem QIJ(h:shS y=true):QId y:=by
 unfold shS at h;simp only[ar,aD]at h;obtain⟨h1,h2,h3⟩:=h;refine⟨?_,λe he=>?_,λs hs=>QHL (h3 s hs)⟩
 ·unfold shN at h1;simp at h1;omega
 have:=h2 e he;unfold shP at this;simp only[ar,aD]at this;refine⟨by have:=this.1;simp at this;omega,λt ht=>?_⟩;have h4:=this.2 t ht;unfold shT at h4;simp at h4;omega
theorem vG.t(h:vG y)(k:QId y):GJ y :=
 ⟨tD k.n,h.nc,h.nt,tD k.n,λe he=>⟨(h.rl e he).1,λt ht=>⟨tD<|(k.r e he).2 t ht,by rw[(h.rl e he).2.2 t ht];have:=(k.r e he).2 t ht;omega⟩,by rw[(h.rl e he).1];have:=(k.r e he).1;omega⟩,tD k.n,λs hs=>tD<|k.s s hs⟩
def vG.ts(h:vG y)(k:shS y=true):GJ y:=h.t (QIJ k)
def yX(y:Xz)(v g:Int):Bool:=!(!(shS y)||(y.e != 0)||decide ((y.rt.n:Int)>v)||(!(decide ((y.st.n:Int)<=v)&&y.sl.all (cx g))&&decide ((y.st.n:Int)>0)))
def pT(y:Xz)(v d g:Int):Bool:=yX y v g&&y.rl.all λe=>fpB (ZX e.2) (y.rt.n:Int) 4 d g
def QFQ{v g:Int}(h:yX y v g=true):shS y=true/\y.e=0/\(y.rt.n:Int)<=v/\(y.st.n=0\/((y.st.n:Int)<=v/\∀s∈y.sl,cx g s=true)):=by
 unfold yX at h;simp only[aX,ax,aE,bne_eq_false_iff_eq,decide_eq_false_iff_not]at h;obtain⟨⟨⟨h1,h2⟩,h3⟩,h4⟩:=h;refine⟨by simpa using h1,h2,O,?_⟩;by_cases g:y.st.n=0
 ·exact .inl g
 right;have:decide ((y.st.n:Int)>0)=true:=decide_eq_true O;rw[this,Bool.and_true]at h4;simp only[aE,ar,decide_eq_true_eq,aD]at h4;exact h4
def gK{nl:List (List UInt8)}{rl:List Pt}{sl:List (List UInt8×List UInt8)}(h1:nl.length≠0)(h2:¬nl.length>24)(h3:rl.length=nl.length/\sl.length=nl.length):Bz nl rl sl=Qs [DX nl,Qs (rl.map λp=>Zh p nl.length),Qs (sl.map λs=>Xd s.1 s.2)]:=by
 unfold Bz;rw[if_neg h1,if_neg h2,if_neg O]
theorem QHP{q:Option Addr}{l:List (List UInt8)}{v:List UInt8}(hF:Fits F w)(hR:Qy F q n 1 (l.map tx))(hn:l.length=n)(hb:n<=1000000000):Qf prog 211 [.slice q n c,tx v] w F (.bool (decide (v∈l))):=by
 refine QU.intro (G:=λF=>Qy F q n 1 (l.map tx)) func211 rfl tH rfl rfl hF (λF' hF'=>hR.le hF')<|wa<|wZ rfl<|QG<|wa<|wZ rfl<|QV<|J9 (ι:=NoI l v) [(0,_),(1,_)] (λi=>[(5,.int .i64 ((i.i:Nat):Int))]) (λi=>l.length-i.i) (⟨0,ak _,λj h=>absurd h (bI _)⟩) wm wk λi=>?_
 simp only[ab,ae];have hi:=i.le;refine wA 5 I<|QA (Qg I Kw)<|wD 3 I ?_
 refine QQ I (λhc2=>?_) λhc2=>?_
 ·have hlt:i.i<l.length:=tD<|wi hc2
  have hem:=Qw hlt;refine wC 8 I<|QA (Q3 (n:=n) i.i tM rfl rfl Kw Du O)<|QA (JA (n:=n) ((i.i)*1) tM O rfl Du (XT (f:=tx) (l:=l) O))<|wW I<|QA (VE I I)<|QE<|QC ?_
  refine QQ I (λhc2=>?_) λhc2=>?_
  ·have h17:el l i.i=v:=eq_of_beq hc2;refine wA 6 I ?_
   repeat first|refine Q6 ?_|refine Qv ?_
   exact wg I I (congrArg aa (decide_eq_true (by rw[<-h17];exact hem))) tL
  have h17:¬el l i.i=v:=by simpa using hc2
  refine QN<|Qj<|wE 3 I<|QA (Qu I I O)<|wB 2 I ?_
  exact Ql (⟨i.i+1,hlt,λj hj=>by rcases Nat.lt_succ_iff_lt_or_eq.1 hj with h | rfl;exact i.h j h;exact h17⟩) (by show l.length-(i.i+1)<l.length-i.i;omega) wu we tM
 have hge:l.length<=i.i:=tD<|wj hc2
 refine Qx ?_
 repeat first|refine QY ?_|refine QO tH ?_
 refine QZ<|wE 7 I ?_
 exact wg I I (congrArg aa (decide_eq_false (i.stop hge))) tL
theorem QHS{q:Option Addr}{l:List (List UInt8)}{v:List UInt8}(hF:Fits F w)(hR:Qy F q n 1 (l.map tx))(hn:l.length=n)(hb:n<=1000000000):Qf prog 117 [.slice q n c,tx v] w F (.bool (decide (v∈l))):=by
 refine QU.intro (G:=λF=>Qy F q n 1 (l.map tx)) func117 rfl tH rfl rfl hF (λF' hF'=>hR.le hF')<|wa<|wZ rfl<|wb rfl<|wW rfl<|QI rfl (λ_ _ f k=>QHP f k hn hb) λ_=>wZ rfl<|QX ?_
 exact wg I I (rfl) tL
theorem QA3(hF:Fits F w)(hGl:JE F)(hy:X4 F y)(ht:GJ y):Qf prog 26 [y.v] w F (.int .i64 y.e):=by
 obtain⟨⟨qn,nn,cn⟩,nl,⟨qr,nr,cr⟩,rl,⟨qs,ns,cs⟩,sl⟩:=y;have hnl:=hy.jL;have hrl:=hy.Ka;have hsl:=hy.P0;have hnn:=ht.nn;have hrn:=ht.rn;have hsn:=ht.sn;dsimp only at *
 dsimp only[Xz.v];refine QU.intro (G:=λF=>JE F/\X4 F ⟨⟨qn,nn,cn⟩,nl,⟨qr,nr,cr⟩,rl,⟨qs,ns,cs⟩,sl⟩) func26 rfl tH rfl rfl hF (λF' hF'=>⟨hGl.le hF',hy.le hF'⟩)<|wa<|Qp rfl (vs:=[_,_,_]) rfl λb1=>wZ rfl<|wa<|QA (QH rfl Hj VU)<|QA (Qe rfl VU .here .h1)<|QA (Qg rfl Kw)<|wZ rfl<|QG<|wb rfl<|QA (QT rfl rfl rfl)<|QE<|QC ?_
 refine QQ I (λhc2=>?_) λhc2=>?_
 ·have h11:nl.length=0:=by have:(nn:Int)=0:=eq_of_beq hc2;omega
  refine wA 6 I ?_;exact wg I I (congrArg (ah .i64) (by show Bz nl (rl.map λe=>ZX e.2) sl=12;unfold Bz;rw[if_pos h11])) tL
 have h11:nl.length≠0:=by have:¬(nn:Int)=0:=(by simpa using hc2);omega
 refine wC 9 I ?_;refine QQ I (λhc2=>?_) λhc2=>?_
 ·have h13:nl.length>24:=tD<|wi hc2
  refine wA 6 I ?_;exact wg I I (congrArg (ah .i64) (by show Bz nl (rl.map λe=>ZX e.2) sl=5;unfold Bz;rw[if_neg h11,if_pos h13])) tL
 have h13:¬nl.length>24:=tD<|wj hc2
 refine wC 3 I ?_;refine ZZ [(1,_),(3,_)] [(25,.bool (((nr:Int) != nn||(ns:Int) != nn)))] wm ?_ ?_
 ·refine QB<|QA (QH I VY Z6)<|QA (Qe I Z6 .here (.skip .h1))<|QA (Qg I VJ)<|wB 3 I ?_
  refine Qn (t:=19) rfl (λhb19=>?_) λhb19=>?_
  ·refine wB 7 I ?_;exact JY ⟨rfl,rfl,(congrArg (λb=>some (aa b)) (by rw[hb19];rfl)),trivial⟩ we tM
  refine QL I I<|QA (QH I YM J0)<|QL I I<|QA (Qe I J0 .here (.skip (.skip .h1)))<|QL I I<|QA (Qg I XF)<|wB 6 I ?_
  exact JY ⟨rfl,rfl,(congrArg (λb=>some (aa b)) (by rw[hb19];rfl)),trivial⟩ we tM
 simp only[ab,ae];refine QQ I (λhc2=>?_) λhc2=>?_
 ·have h25:(rl.map λe=>ZX e.2).length≠nl.length\/sl.length≠nl.length:=by simp only[Bool.or_eq_true,bne_iff_ne]at hc2;rw[ag];omega
  refine wA 6 I ?_;exact wg I I (congrArg (ah .i64) (by show Bz nl (rl.map λe=>ZX e.2) sl=2;unfold Bz;rw[if_neg h11,if_neg h13,if_pos h25])) tL
 have h25:(rl.map λe=>ZX e.2).length=nl.length/\sl.length=nl.length:=by simp only[ax,bne_eq_false_iff_eq]at hc2;rw[ag];omega
 have h25r:rl.length=nl.length:=by rw[<-h25.1,ag]
 refine wC 9 I<|J9 (ι:=X7 (aG nl.length) (EL nl)) [(1,_),(3,_)] (λi=>[(4,.int .i64 ((i.i:Nat):Int))]) (λi=>nl.length-i.i) (X7.start _ _) wm wk λi=>?_
 simp only[ab,ae];have hi:=i.le;rw[aC]at hi;refine wA 8 I ?_;refine QQ I (λhc2=>?_) λhc2=>?_
 ·have hlt:i.i<nl.length:=tD<|wi hc2
  have hem:=Qw hlt;refine wC 7 I<|QA (QH I Hj VU)<|QA (Qe I VU .here .h1)<|wW I<|QA (Q3 (n:=nn) i.i (λF h9=>h9.2.nm) rfl rfl Kw Du O)<|QA (JA (n:=nn) ((i.i)*1) (λF h9=>h9.2.nm) O rfl Du (XT (f:=tx) (l:=nl) O))<|QI I (λ_ _ f k=>QEo f (ht.nt _ hem)) λ_=>QA (XL I)<|QE<|QC ?_
  refine QQ I (λhc2=>?_) λhc2=>?_
  ·have h37:(!cN (el nl i.i))=true:=hc2;have hnE:EL nl i.i≠0:=by unfold EL;rw[if_pos h37,Zf tF];decide
   refine wA 6 I ?_
   repeat first|refine Q6 ?_|refine Qv ?_
   exact wg I I (congrArg (ah .i64) (by show Bz nl (rl.map λe=>ZX e.2) sl=8;rw[gK h11 h13 h25];have h9:=i.hit (by rw[aC];exact hlt) (by rw[ZG hlt];exact hnE);rw[ZG hlt]at h9;rw[show DX nl=EL nl i.i from h9,Zf hnE];unfold EL;rw[if_pos h37,Zf tF])) tL
  have h37:(!cN (el nl i.i))=false:=hc2;refine wC 3 I<|JG we mixed tE<|QK (QH I Hj VU)<|QK (Qe I VU .here .h1)<|QK (QD I)<|QK (NV i.i I I I Kw Du (by have:=ht.nc;dsimp only at this;omega))<|QK (QH I Hj VU)<|QK (Qe I VU .here .h1)<|QK (QD I)<|QK (Q3 (n:=nn) i.i (λF h9=>h9.1.2.nm) rfl rfl Kw Du O)<|QK (JA (n:=nn) ((i.i)*1) (λF h9=>h9.1.2.nm) O rfl Du (XT (f:=tx) (l:=nl) O))<|QR I (λ_ _ f k=>QHS f (Qy.QCd (l:=nl) k.1.2.nm hnl hi) (by rw[bG];omega) O) λ_=>Q7<|QC ?_
  refine QQ I (λhc2=>?_) λhc2=>?_
  ·have h47:decide (el nl i.i∈nl.take i.i)=true:=hc2;have hnE:EL nl i.i≠0:=by unfold EL;rw[if_neg (by rw[h37];decide),if_pos h47,Zn,Zf tF];decide
   refine wA 6 I ?_
   repeat first|refine Q6 ?_|refine Qv ?_
   exact wg I I (congrArg (ah .i64) (by show Bz nl (rl.map λe=>ZX e.2) sl=9;rw[gK h11 h13 h25];have h9:=i.hit (by rw[aC];exact hlt) (by rw[ZG hlt];exact hnE);rw[ZG hlt]at h9;rw[show DX nl=EL nl i.i from h9,Zf hnE];unfold EL;rw[if_neg (by rw[h37];decide),if_pos h47,Zn,Zf tF])) tL
  have h47:decide (el nl i.i∈nl.take i.i)=false:=hc2;refine QN<|Qj<|wE 3 I<|QA (Qu I I O)<|wB 2 I ?_
  exact Ql (i.next (by rw[aC];exact hlt) (by rw[ZG hlt];unfold EL;rw[if_neg (by rw[h37];decide),if_neg (by rw[h47];decide)];rfl)) (by show nl.length-(i.i+1)<nl.length-i.i;omega) wu we λF h=>h.1.1
 have hge:nl.length<=i.i:=tD<|wj hc2
 have hnz:DX nl=0:=i.stop (by rw[aC];exact hge);refine Qx ?_
 repeat first|refine QY ?_|refine QO tH ?_
 refine QZ<|wE 8 I<|J9 (ι:=X7 rl λe=>Zh (ZX e.2) (nn:Int)) [(1,_),(3,_)] (λi2=>[(5,.int .i64 ((i2.i:Nat):Int))]) (λi2=>rl.length-i2.i) (X7.start _ _) wm wk λi2=>?_
 simp only[ab,ae];have hi2:=i2.le;refine wA 8 I ?_;refine QQ I (λhc2=>?_) λhc2=>?_
 ·have hlt2:i2.i<rl.length:=tD<|wi hc2
  have hem:=Qw hlt2;refine wC 6 I<|QA (QH I VY Z6)<|QA (Qe I Z6 .here (.skip .h1))<|wW I<|QA (Q3 (n:=nr) (i2.i) (λF h9=>h9.2.rt) rfl rfl VJ Vu O)<|QA (JA (n:=nr) ((i2.i)*1) (λF h9=>h9.2.rt) O rfl Vu (XT (f:=λe:NQ=>e.1.v) (l:=rl) O))<|wW I<|QI I (λ_ _ f k=>Iw (q:=(el rl i2.i).1.q) (n:=(el rl i2.i).1.n) (cap:=(el rl i2.i).1.cap) f k.1 (k.2.pl _ hem).1 (k.2.pl _ hem).2 (ht.tm _ hem).1 (λt htt=>tD<|(ht.tm _ hem).2.1 t htt) (tD<|(ht.tm _ hem).2.2) O) λ_=>wD 9 I ?_
  refine QQ I (λhc2=>?_) λhc2=>?_
  ·have h61:=bne_iff_ne.1 hc2;refine wA 7 I ?_
   repeat first|refine Q6 ?_|refine Qv ?_
   exact wg I I (congrArg (ah .i64) (by show Bz nl (rl.map λe=>ZX e.2) sl=_;rw[gK h11 h13 h25,hnz,Zn,bN,hnl];have h9:=i2.hit hlt2 h61;rw[show Qs (rl.map ((λp=>Zh p (nn:Int))∘λe=>ZX e.2))=Zh (ZX (el rl i2.i).2) (nn:Int)from h9,Zf h61])) tL
  have h61:=bne_eq_false_iff_eq.1 hc2;refine QN<|Qj<|wE 3 I<|QA (Qu I I O)<|wB 2 I ?_
  exact Ql (i2.next hlt2 h61) (by show rl.length-(i2.i+1)<rl.length-i2.i;omega) wu we tN
 have hge2:rl.length<=i2.i:=tD<|wj hc2
 refine Qx ?_
 repeat first|refine QY ?_|refine QO tH ?_
 refine QZ<|QC<|wa<|QA (QH I YM J0)<|QA (Qe I J0 .here (.skip (.skip .h1)))<|QI I (λ_ _ f k=>jG f k.2.st ⟨hsl,ht.st⟩ hsn) λ_=>wD 4 I ?_
 exact wg I I (congrArg (ah .i64) (by show Bz nl (rl.map λe=>ZX e.2) sl=_;rw[gK h11 h13 h25,hnz,Zn,bN,hnl];have h9:=i2.stop hge2;rw[show Qs (rl.map ((λp=>Zh p (nn:Int))∘λe=>ZX e.2))=0 from h9,Zn,QCD])) tL
theorem uk(hF:Fits F w)(hy:X4 F y)(ht:vG y):Qf prog 105 [y.v] w F (.bool (shS y)):=by
 have hnl:=hy.jL;have hrl:=hy.Ka;have hsl:=hy.P0;have hnn:=ht.nn;have hrn:=ht.rn;have hsn:=ht.sn;refine QU.intro (G:=λF=>X4 F y) func105 rfl tH rfl rfl hF (λF' hF'=>hy.le hF')<|wa<|Qp rfl (vs:=[_,_,_]) rfl λb1=>wZ rfl<|QG ?_
 refine ZZ [(1,_)] [(21,.bool (shN y))] wk ?_ ?_
 ·refine QB<|QA (QH I Hj VU)<|QA (Qe I VU .here .h1)<|QA (Qg I Kw)<|wB 2 I ?_
  refine Qn (t:=10) rfl (λhb10=>?_) λhb10=>?_
  ·refine wB 12 I ?_;exact JY ⟨rfl,(congrArg (λb=>some (aa b)) (by unfold shN;rw[hb10];rfl)),trivial⟩ we tM
  refine QL I I<|QA (QH I VY Z6)<|QL I I<|QA (Qe I Z6 .here (.skip .h1))<|QL I I<|QA (Qg I VJ)<|wB 4 I ?_
  refine Qn (t:=16) rfl (λhb16=>?_) λhb16=>?_
  ·refine wB 6 I ?_;exact JY ⟨rfl,(congrArg (λb=>some (aa b)) (by unfold shN;rw[hb10,hb16];rfl)),trivial⟩ we tM
  refine QL I I<|QA (QH I YM J0)<|QL I I<|QA (Qe I J0 .here (.skip (.skip .h1)))<|QL I I<|QA (Qg I XF)<|wB 4 I ?_
  exact JY ⟨rfl,(congrArg (λb=>some (aa b)) (by unfold shN;rw[hb10,hb16];rfl)),trivial⟩ we tM
 simp only[ab,ae];refine QQ I (λhc2=>?_) λhc2=>?_
 ·have h21:shN y=true:=hc2;refine wA 6 I ?_;exact wg I I (congrArg aa (by unfold shS;rw[h21];rfl)) tL
 have h21:shN y=false:=hc2;refine wC 9 I<|J9 (ι:=Wo y.rl shP) [(1,_)] (λi=>[(3,.int .i64 ((i.i:Nat):Int))]) (λi=>y.rl.length-i.i) (Wo.start _ _) wk wk λi=>?_
 simp only[ab,ae];have hi:=i.le;refine wA 4 I<|QA (QH I VY Z6)<|QA (Qe I Z6 .here (.skip .h1))<|QA (Qg I VJ)<|wD 3 I ?_
 refine QQ I (λhc2=>?_) λhc2=>?_
 ·have hlt:i.i<y.rl.length:=tD<|wi hc2
  have hem:=Qw hlt;have hpl:=(ht.rl _ hem).1;have hpn:=(ht.rl _ hem).2.1;refine wC 7 I<|QA (QH I VY Z6)<|QA (Qe I Z6 .here (.skip .h1))<|wW I<|QA (Q3 (n:=y.rt.n) i.i (λF hy=>hy.rt) rfl rfl VJ Vu O)<|QA (JA (n:=y.rt.n) ((i.i)*1) (λF hy=>hy.rt) O rfl Vu (XT (f:=λe:NQ=>e.1.v) (l:=y.rl) O))<|QA (Qg I Zg)<|wD 3 I ?_
  refine QQ I (λhc2=>?_) λhc2=>?_
  ·have h35:((el y.rl i.i).1.n:Int)>70:=wi hc2;refine wA 6 I ?_
   repeat first|refine Q6 ?_|refine Qv ?_
   exact wg I I (congrArg aa (by unfold shS;rw[h21,i.hit hlt (by unfold shP;rw[decide_eq_true h35];rfl)];rfl)) tL
  have h35:¬((el y.rl i.i).1.n:Int)>70:=wj hc2;refine wC 8 I<|J9 (ι:=Wo (el y.rl i.i).2 shT) [(1,_),(3,_)] (λi2=>[(4,.int .i64 ((i2.i:Nat):Int))]) (λi2=>(el y.rl i.i).2.length-i2.i) (Wo.start _ _) wm wk λi2=>?_
  simp only[ab,ae];have hi2:=i2.le;refine wA 4 I<|QA (QH I VY Z6)<|QA (Qe I Z6 .here (.skip .h1))<|wW I<|QA (Q3 (n:=y.rt.n) i.i (λF hy=>hy.rt) rfl rfl VJ Vu O)<|QA (JA (n:=y.rt.n) ((i.i)*1) (λF hy=>hy.rt) O rfl Vu (XT (f:=λe:NQ=>e.1.v) (l:=y.rl) O))<|QA (Qg I Zg)<|wD 3 I ?_
  refine QQ I (λhc2=>?_) λhc2=>?_
  ·have hlt2:i2.i<(el y.rl i.i).2.length:=tD<|wi hc2
   refine wC 4 I ?_;refine ZZ [(1,_),(3,_),(4,_)] [(69,.bool (!(shT (el (el y.rl i.i).2 i2.i))))] wu ?_ ?_
   ·refine QB<|QA (QH I VY Z6)<|QA (Qe I Z6 .here (.skip .h1))<|wW I<|QA (Q3 (n:=y.rt.n) i.i (λF hy=>hy.rt) rfl rfl VJ Vu O)<|QA (JA (n:=y.rt.n) ((i.i)*1) (λF hy=>hy.rt) O rfl Vu (XT (f:=λe:NQ=>e.1.v) (l:=y.rl) O))<|wW I<|QA (Q3 (n:=(el y.rl i.i).1.n) (i2.i) (λF hy=>(hy.pl _ hem).1) rfl rfl Zg Xh O)<|QA (QH I Yh JM)<|QA (JA (n:=(el y.rl i.i).1.n) ((i2.i)*2+1) (λF hy=>(hy.pl _ hem).1) O rfl JM (JN (f:=VM) (l:=(el y.rl i.i).2) YR O rfl))<|QA (Qg I Q2)<|wB 2 I ?_
    refine Qn (t:=57) rfl (λhb57=>?_) λhb57=>?_
    ·refine wB 13 I ?_;exact JY ⟨rfl,rfl,rfl,(congrArg (λb=>some (aa b)) (by unfold shT;rw[aq,hb57];rfl)),trivial⟩ we tM
    refine QL I I<|QA (QH I VY Z6)<|QL I I<|QA (Qe I Z6 .here (.skip .h1))<|wB 3 I<|QA (Q3 (n:=y.rt.n) i.i (λF hy=>hy.rt) rfl rfl VJ Vu O)<|QL I I<|QA (JA (n:=y.rt.n) ((i.i)*1) (λF hy=>hy.rt) O rfl Vu (XT (f:=λe:NQ=>e.1.v) (l:=y.rl) O))<|wB 3 I<|QA (Q3 (n:=(el y.rl i.i).1.n) (i2.i) (λF hy=>(hy.pl _ hem).1) rfl rfl Zg Xh O)<|QL I I<|QA (QH I GM JF)<|QL I I<|QA (JA (n:=(el y.rl i.i).1.n) ((i2.i)*2+0) (λF hy=>(hy.pl _ hem).1) O rfl JF (JN (f:=VM) (l:=(el y.rl i.i).2) YR O rfl))<|QL I I<|QA (Xc I Bw)<|wB 4 I ?_
    exact JY ⟨rfl,rfl,rfl,(congrArg (λb=>some (aa b)) (by unfold shT;rw[aq,hb57];rfl)),trivial⟩ we tM
   simp only[ab,ae];refine QQ I (λhc2=>?_) λhc2=>?_
   ·have h69:shT (el (el y.rl i.i).2 i2.i)=false:=by simpa using hc2
    refine wA 6 I ?_
    repeat first|refine Q6 ?_|refine Qv ?_
    exact wg I I (congrArg aa (by unfold shS;rw[h21,i.hit hlt (by unfold shP;rw[i2.hit hlt2 h69,bK])];rfl)) tL
   have h69:shT (el (el y.rl i.i).2 i2.i)=true:=by simpa using hc2
   refine QN<|Qj<|wE 3 I<|QA (Qu I I O)<|wB 2 I ?_
   exact Ql (i2.next hlt2 h69) (by show(el y.rl i.i).2.length-(i2.i+1)<(el y.rl i.i).2.length-i2.i;omega) wu we tM
  have hge2:(el y.rl i.i).2.length<=i2.i:=tD<|wj hc2
  refine Qx ?_
  repeat first|refine QY ?_|refine QO tH ?_
  refine QZ<|Qj<|wE 3 I<|QA (Qu I I O)<|wB 2 I ?_
  exact Ql (i.next hlt (by unfold shP;rw[decide_eq_false h35,i2.stop hge2];rfl)) (by show y.rl.length-(i.i+1)<y.rl.length-i.i;omega) wm we tM
 have hge:y.rl.length<=i.i:=tD<|wj hc2
 have hra:=i.stop hge;refine Qx ?_
 repeat first|refine QY ?_|refine QO tH ?_
 refine QZ<|wE 8 I<|J9 (ι:=Wo y.sl AZ) [(1,_)] (λi3=>[(5,.int .i64 ((i3.i:Nat):Int))]) (λi3=>y.sl.length-i3.i) (Wo.start _ _) wk wk λi3=>?_
 simp only[ab,ae];have hi3:=i3.le;refine wA 4 I<|QA (QH I YM J0)<|QA (Qe I J0 .here (.skip (.skip .h1)))<|QA (Qg I XF)<|wD 3 I ?_
 refine QQ I (λhc2=>?_) λhc2=>?_
 ·have hlt3:i3.i<y.sl.length:=tD<|wi hc2
  refine wC 4 I ?_;refine ZZ [(1,_),(5,_)] [(94,.bool (!(AZ (el y.sl i3.i))))] wm ?_ ?_
  ·refine QB<|QA (QH I YM J0)<|QA (Qe I J0 .here (.skip (.skip .h1)))<|wW I<|QA (Q3 (n:=y.st.n) (i3.i) (λF hy=>hy.st) rfl rfl XF Jd O)<|QA (QH I V6 JF)<|QA (JA (n:=y.st.n) ((i3.i)*2+0) (λF hy=>hy.st) O rfl JF (JN (f:=NU) (l:=y.sl) K1 O rfl))<|QA (Xc I Bw)<|wB 2 I ?_
   refine Qn (t:=85) rfl (λhb85=>?_) λhb85=>?_
   ·refine wB 10 I ?_;exact JY ⟨rfl,rfl,(congrArg (λb=>some (aa b)) (by unfold AZ;rw[aq,hb85];rfl)),trivial⟩ we tM
   refine QL I I<|QA (QH I YM J0)<|QL I I<|QA (Qe I J0 .here (.skip (.skip .h1)))<|wB 3 I<|QA (Q3 (n:=y.st.n) (i3.i) (λF hy=>hy.st) rfl rfl XF Jd O)<|QL I I<|QA (QH I We JF)<|QL I I<|QA (JA (n:=y.st.n) ((i3.i)*2+1) (λF hy=>hy.st) O rfl JF (JN (f:=NU) (l:=y.sl) K1 O rfl))<|QL I I<|QA (Xc I Bw)<|wB 4 I ?_
   exact JY ⟨rfl,rfl,(congrArg (λb=>some (aa b)) (by unfold AZ;rw[aq,hb85];rfl)),trivial⟩ we tM
  simp only[ab,ae];refine QQ I (λhc2=>?_) λhc2=>?_
  ·have h94:AZ (el y.sl i3.i)=false:=by simpa using hc2
   refine wA 6 I ?_
   repeat first|refine Q6 ?_|refine Qv ?_
   exact wg I I (congrArg aa (by unfold shS;rw[h21,hra,i3.hit hlt3 h94];rfl)) tL
  have h94:AZ (el y.sl i3.i)=true:=by simpa using hc2
  refine QN<|Qj<|wE 3 I<|QA (Qu I I O)<|wB 2 I ?_
  exact Ql (i3.next hlt3 h94) (by show y.sl.length-(i3.i+1)<y.sl.length-i3.i;omega) wm we tM
 have hge3:y.sl.length<=i3.i:=tD<|wj hc2
 refine Qx ?_
 repeat first|refine QY ?_|refine QO tH ?_
 refine QZ<|wE 7 I ?_
 exact wg I I (congrArg aa (by unfold shS;rw[h21,hra,i3.stop hge3];rfl)) tL
theorem QGM{v d g:Int}(hF:Fits F w)(hGl:JE F)(hy:X4 F y)(hl:vG y)(hg:0<=g/\g<=1000):Qf prog 55 [y.v,.int .i64 v,.int .i64 d,.int .i64 g] w F (.bool (pT y v d g)):=by
 have hnl:=hy.jL;have hrl:=hy.Ka;have hsl:=hy.P0;refine QU.intro (G:=λF=>JE F/\X4 F y) func55 rfl tH rfl rfl hF (λF' hF'=>⟨hGl.le hF',hy.le hF'⟩)<|wa<|Qp rfl (vs:=[_,_,_]) rfl λb4=>wZ rfl<|QG ?_
 refine ZZ [(2,_),(3,_),(4,_)] [(38,.bool (!(yX y v g)))] wu ?_ ?_
 ·refine QB<|QA (wO I J6 .here)<|QI I (λ_ _ f k=>uk (y:=y) f k.2 hl) λ_=>QA (XL I)<|wW I ?_
  refine Qn (t:=13) rfl (λhb13=>?_) λhb13=>?_
  ·refine wB 19 I<|Jn I I<|Jn I I<|Jn I I<|Jn I I<|wB 2 I ?_
   refine QE ?_;exact JY ⟨rfl,rfl,rfl,(congrArg (λb=>some (aa b)) (by unfold yX;rw[aq,hb13];rfl)),trivial⟩ we tN
  have ht:GJ y:=hl.ts (by simpa using hb13);refine QL I I<|QA (wO I J6 .here)<|QL I I<|QI I (λ_ _ f k=>QA3 (y:=y) f k.1.1 k.1.2 ht) λ_=>wB 4 I ?_
  refine Qn (t:=18) rfl (λhb18=>?_) λhb18=>?_
  ·refine wB 14 I<|Jn I I<|Jn I I<|Jn I I<|Jn I I<|wB 3 I ?_
   exact JY ⟨rfl,rfl,rfl,(congrArg (λb=>some (aa b)) (by unfold yX;rw[aq,hb13,hb18];rfl)),trivial⟩ we λ_ h=>h.1.1
  refine QL I I<|QA (QH I VY Z6)<|QL I I<|QA (Qe I Z6 .here (.skip .h1))<|QL I I<|QA (Qg I VJ)<|wB 6 I ?_
  refine Qn (t:=25) rfl (λhb25=>?_) λhb25=>?_
  ·refine wB 7 I<|Jn I I<|Jn I I<|Jn I I<|Jn I I<|wB 3 I ?_
   exact JY ⟨rfl,rfl,rfl,(congrArg (λb=>some (aa b)) (by unfold yX;rw[aq,hb13,hb18,hb25];rfl)),trivial⟩ we λ_ h=>h.1.1
  refine QL I I<|QA (QH I YM J0)<|QL I I<|QA (Qe I J0 .here (.skip (.skip .h1)))<|wB 5 I<|QI I (λ_ _ f k=>gU f k.1.1.2.st hsl hg (tD ht.sn)) λ_=>QL I I<|QA (XL I)<|wB 2 I ?_
  refine Qn (t:=32) rfl (λhb32=>?_) λhb32=>?_
  ·refine QL I I<|QA (QH I YM J0)<|QL I I<|QA (Qe I J0 .here (.skip (.skip .h1)))<|QL I I<|QA (Qg I XF)<|wB 6 I ?_
   exact JY ⟨rfl,rfl,rfl,(congrArg (λb=>some (aa b)) (by unfold yX;rw[aq,hb13,hb18,hb25,hb32];rfl)),trivial⟩ we λ_ h=>h.1.1.1
  refine wB 8 I ?_;exact JY ⟨rfl,rfl,rfl,(congrArg (λb=>some (aa b)) (by unfold yX;rw[aq,hb13,hb18,hb25,hb32];rfl)),trivial⟩ we λ_ h=>h.1.1.1
 simp only[ab,ae];refine QQ I (λhc2=>?_) λhc2=>?_
 ·have h38:yX y v g=false:=by simpa using hc2
  refine wA 6 I ?_;exact wg I I (congrArg aa (by unfold pT;rw[h38];rfl)) tL
 have h38:yX y v g=true:=by simpa using hc2
 obtain⟨hS1,he1,hv1,hs1⟩:=QFQ h38;have ht:GJ y:=hl.ts hS1;have hrn:=ht.rn;have ho:=hy.ok he1;have hon:=ho.n1;have hor:=ho.rn;refine wC 9 I<|J9 (ι:=Wo y.rl λe=>fpB (ZX e.2) (y.rt.n:Int) 4 d g) [(2,_),(3,_),(4,_)] (λi=>[(9,.int .i64 ((i.i:Nat):Int))]) (λi=>y.rl.length-i.i) (Wo.start _ _) wu wk λi=>?_
 simp only[ab,ae];have hi:=i.le;refine wA 4 I<|QA (QH I VY Z6)<|QA (Qe I Z6 .here (.skip .h1))<|QA (Qg I VJ)<|wD 3 I ?_
 refine QQ I (λhc2=>?_) λhc2=>?_
 ·have hlt:i.i<y.rl.length:=tD<|wi hc2
  have hem:=Qw hlt;refine wC 5 I<|JG we mixed tE<|QK (QH I VY Z6)<|QK (Qe I Z6 .here (.skip .h1))<|QK (QD I)<|QK (Q3 (n:=y.rt.n) i.i (λF h9=>h9.2.rt) rfl rfl VJ Vu O)<|QK (JA (n:=y.rt.n) ((i.i)*1) (λF h9=>h9.2.rt) O rfl Vu (XT (f:=λe:NQ=>e.1.v) (l:=y.rl) O))<|QK (QH I VY Z6)<|QK (Qe I Z6 .here (.skip .h1))<|QK (Qg I VJ)<|QK (QD I)<|QK (QD I)<|QR I (λ_ _ f k=>uw (q:=(el y.rl i.i).1.q) (n:=(el y.rl i.i).1.n) (cap:=(el y.rl i.i).1.cap) f k.1 (k.2.pl _ hem).1 (k.2.pl _ hem).2 (ht.tm _ hem).1 (λt htt=>tD<|(ht.tm _ hem).2.1 t htt) (tD<|(ht.tm _ hem).2.2) O O) λ_=>QK (XL I)<|Q7<|QC ?_
  refine QQ I (λhc2=>?_) λhc2=>?_
  ·have h57:fpB (ZX (el y.rl i.i).2) (y.rt.n:Int) 4 d g=false:=by simpa using hc2
   refine wA 6 I ?_
   repeat first|refine Q6 ?_|refine Qv ?_
   exact wg I I (congrArg aa (by unfold pT;rw[h38,i.hit hlt h57];rfl)) tL
  have h57:fpB (ZX (el y.rl i.i).2) (y.rt.n:Int) 4 d g=true:=by simpa using hc2
  refine QN<|Qj<|wE 3 I<|QA (Qu I I O)<|wB 2 I ?_
  exact Ql (i.next hlt h57) (by show y.rl.length-(i.i+1)<y.rl.length-i.i;omega) wv we tN
 have hge:y.rl.length<=i.i:=tD<|wj hc2
 refine Qx ?_
 repeat first|refine QY ?_|refine QO tH ?_
 refine QZ<|wE 7 I ?_
 exact wg I I (congrArg aa (by unfold pT;rw[h38,i.stop hge];rfl)) tL
def QDg{l:List (List UInt8)}(h:i<l.length)(k:decide ((el l i).length>14)=true):l.any (λs=>decide (s.length>14))=true:=List.any_eq_true.2 ⟨_,Qw h,k⟩
structure LgJ(l:List (List UInt8)) where
 i:Nat
 le:i<=l.length
 no:∀j,j<i->¬(el l j).length>14
theorem LgJ.stop{l:List (List UInt8)}(s:LgJ l)(h:l.length<=s.i):l.any (λs=>decide (s.length>14))=false:=by
 cases e:l.any (λs=>decide (s.length>14))with
 |false=>rfl
 |true =>
  obtain⟨x,hx,k⟩:=List.any_eq_true.1 e;obtain⟨j,hj,rfl⟩:=List.getElem_of_mem hx;exact absurd (wi k) (by have:=s.no j O;rwa [Jb hj]at this)
theorem QGb{q:Option Addr}{l:List (List UInt8)}(hF:Fits F w)(hR:Qy F q n 1 (l.map tx))(hn:l.length=n)(hb:n<=1000000000):Qf prog 15 [.slice q n c] w F (.bool (l.any λs=>decide (s.length>14))):=by
 refine QU.intro (G:=λF=>Qy F q n 1 (l.map tx)) func15 rfl tH rfl rfl hF (λF' hF'=>hR.le hF')<|wa<|wZ rfl<|QG<|wa<|wZ rfl<|QV<|J9 (ι:=LgJ l) [(0,_)] (λi=>[(3,.int .i64 ((i.i:Nat):Int))]) (λi=>l.length-i.i) (⟨0,ak _,λj h=>absurd h (bI _)⟩) wk wk λi=>?_
 simp only[ab,ae];have hi:=i.le;refine wA 5 I<|QA (Qg I YG)<|wD 3 I ?_
 refine QQ I (λhc=>?_) λhc=>?_
 ·have hlt:i.i<l.length:=tD<|wi hc
  refine wC 8 I<|QA (Q3 (n:=n) i.i tM rfl rfl YG JF O)<|QA (JA (n:=n) ((i.i)*1) tM O rfl JF (XT (f:=tx) (l:=l) O))<|QA (Xc I Bw)<|wD 3 I ?_
  refine QQ I (λhc=>?_) λhc=>?_
  ·have h15:(el l i.i).length>14:=tD<|wi hc
   refine wA 6 I ?_
   repeat first|refine Q6 ?_|refine Qv ?_
   exact wg I I (congrArg aa (QDg hlt (decide_eq_true h15))) tL
  have h15:¬(el l i.i).length>14:=tD<|wj hc
  refine QN<|Qj<|wE 3 I<|QA (Qu I I O)<|wB 2 I ?_
  exact Ql (⟨i.i+1,hlt,λj hj=>by rcases Nat.lt_succ_iff_lt_or_eq.1 hj with h | rfl;exact i.no j h;exact h15⟩) (by show l.length-(i.i+1)<l.length-i.i;omega) wm we tM
 have hge:l.length<=i.i:=tD<|wj hc
 refine Qx ?_
 repeat first|refine QY ?_|refine QO tH ?_
 refine QZ<|wE 7 I ?_
 exact wg I I (congrArg aa (i.stop hge)) tL
def Ff(y:Xz)(n:Int):Bool:=!(shS y)||((y.e==0)&&!(pT y n 3 6))
theorem yQ{n:Int}(h:Ff y n=false):shS y=true/\(y.e=0->pT y n 3 6=true):=by
 unfold Ff at h;simp only[ax,aE,bp,beq_eq_false_iff_ne]at h;exact⟨h.1,λe=>h.2.resolve_left λk=>k e⟩
structure ATk where
 fr:List UInt8
 te:List UInt8
 bx:Sr
 bl:List (List UInt8×List UInt8)
 wh:Sr
 wl:List (List UInt8×List UInt8)
 o:Int
 b:Int
variable{x:ATk}
@[reducible] def ATk.v (x:ATk):Value:=.agg #[tx x.fr,tx x.te,.slice x.bx.q x.bx.n x.bx.cap,.slice x.wh.q x.wh.n x.wh.cap,.int .i64 x.o,.int .i64 x.b]
def cT(l:List (List UInt8)):Bool:=l.any λs=>decide (s.length>14)
def Xa2(x:ATk):Bool:=cT [x.fr,x.te]||!(Ts x.bl)||!(Ts x.wl)||(decide (x.o>3)&&decide (x.o<=16))
def Xe7(hv:List (List UInt8×List UInt8))(e:Int)(wt:List (List UInt8×List UInt8)):Bool:=if Qs (wt.map Xa0)≠0 then decide (hv.length=0)&&(e==4)else(e==0)&&decide (hv=wt)
theorem QFF{n:Int}(hF:Fits F w)(hGl:JE F)(hy:X4 F y)(hl:vG y):Qf prog 23 [y.v,.int .i64 n] w F (.bool (Ff y n)):=by
 refine QU.intro (G:=λF=>JE F/\X4 F y) func23 rfl tH rfl rfl hF (λF' hF'=>⟨hGl.le hF',hy.le hF'⟩)<|wa<|Qp rfl (vs:=[_,_,_]) rfl λb2=>wZ rfl<|wa<|QA (wO I J6 .here)<|QI rfl (λ_ _ f k=>uk (y:=y) f k.2 hl) λ_=>QA (XL rfl)<|wW rfl ?_
 refine Qn (t:=8) rfl (λhb8=>?_) λhb8=>?_
 ·refine wB 4 I<|Jn I I<|Jn I I<|Jn I I<|Jn I I<|wD 6 I ?_
  exact wg I I (congrArg aa (by unfold Ff;rw[hb8];rfl)) tL
 have ht:GJ y:=hl.ts (by simpa using hb8);refine QL I I<|QA (wO I J6 .here)<|QL I I<|QI I (λ_ _ f k=>QA3 (y:=y) f k.1.1 k.1.2 ht) λ_=>wB 4 I ?_
 refine Qn (t:=12) rfl (λhb12=>?_) λhb12=>?_
 ·refine QL I I<|QA (wO I J6 .here)<|wB 3 I<|QI I (λ_ _ f k=>QGM (y:=y) f k.1.1.1 k.1.1.2 hl tF) λ_=>QL I I<|QA (XL I)<|wD 7 I ?_
  exact wg I I (congrArg aa (by unfold Ff;rw[hb8,hb12];rfl)) tL
 refine wD 11 I ?_;exact wg I I (congrArg aa (by unfold Ff;rw[hb8,hb12];rfl)) tL
theorem QDh{q:Option Addr}{l:List Int}(hF:Fits F w)(hR:Qy F q n 1 (l.map Jo))(hn:n<=1000000000):Qf prog 29 [.slice q n c] w F (.int .i64 (Qs l)):=by
 have hln:l.length=n:=by have:=hR.1;simpa using this
 have hmap:Qs l=Qs (l.map id):=by rw[List.map_id]
 refine QU.intro (G:=λF=>Qy F q n 1 (l.map Jo)) func29 rfl tH rfl rfl hF (λF' hF'=>hR.le hF')<|wa<|wZ rfl<|QG<|wa<|wZ rfl<|QV<|J9 (ι:=X7 l id) [(0,_)] (λi=>[(3,.int .i64 ((i.i:Nat):Int))]) (λi=>l.length-i.i) (X7.start _ _) wk wk λi=>?_
 simp only[ab,ae];have hi:=i.le;refine wA 5 I<|QA (Qg I Q2)<|wD 3 I ?_
 refine QQ I (λhc2=>?_) λhc2=>?_
 ·have hlt:i.i<l.length:=tD<|wi hc2
  have hem:=Qw hlt;refine wC 8 I<|QA (Q3 (n:=n) i.i tM rfl rfl Q2 JK O)<|QA (JA (n:=n) ((i.i)*1) tM O rfl JK (XT (f:=Jo) (l:=l) O))<|wD 3 I ?_
  refine QQ I (λhc2=>?_) λhc2=>?_
  ·have h14:id (el l i.i)≠0:=bne_iff_ne.1 hc2;refine wA 4 I<|QA (Q3 (n:=n) i.i tM rfl rfl Q2 JK O)<|QA (JA (n:=n) ((i.i)*1) tM O rfl JK (XT (f:=Jo) (l:=l) O))<|wD 4 I ?_
   repeat first|refine Q6 ?_|refine Qv ?_
   exact wg I I (congrArg (ah .i64) (hmap ▸ i.hit hlt h14)) tL
  have h14:id (el l i.i)=0:=bne_eq_false_iff_eq.1 hc2;refine QN<|Qj<|wE 3 I<|QA (Qu I I O)<|wB 2 I ?_
  exact Ql (i.next hlt h14) (by show l.length-(i.i+1)<l.length-i.i;omega) wm we tM
 have hge:l.length<=i.i:=tD<|wj hc2
 refine Qx ?_
 repeat first|refine QY ?_|refine QO tH ?_
 refine QZ<|wE 7 I ?_
 exact wg I I (congrArg (ah .i64) (hmap ▸ i.stop hge)) tL
theorem Xev(hF:Fits F w)(h1:Jp x.fr=0)(h2:Jp x.te=0):Qf prog 38 [x.v] w F (.int .i64 (Wc (Qz x.fr) (Qz x.te))):=by
 refine QU.intro (G:=λF=>True) func38 rfl tH rfl rfl hF tL<|wa<|Qp rfl (vs:=[_,_,_,_,_,_]) rfl λb1=>wZ rfl<|QG<|wa<|QA (QH rfl Xda JF)<|QA (Qe rfl JF .here (.skip .h1))<|QA (QH rfl Xdb JF)<|QA (Qe rfl JF .here .h1)<|QI rfl (λ_ _ f k=>QCs f h2 h1) λ_=>QA (QT rfl rfl rfl)<|QE<|QC ?_
 refine QQ I (λhc2=>?_) λhc2=>?_
 ·have h8:=hc2;refine wA 6 I ?_;exact wg I I (congrArg (ah .i64) (by unfold Wc;rw[if_pos h8])) tL
 have h8:=hc2;refine wC 8 I ?_;exact wg I I (congrArg (ah .i64) (by unfold Wc;rw[if_neg (by rw[h8];decide)])) tL
theorem Xes(hF:Fits F w)(hx:Ks F x.bx x.bl/\Ks F x.wh x.wl)(hn:x.bx.n<=9223372036854775807/\x.wh.n<=9223372036854775807):Qf prog 36 [x.v] w F (.bool (Xa2 x)):=by
 refine QU.intro (G:=λF=>Ks F x.bx x.bl/\Ks F x.wh x.wl) func36 rfl tH rfl rfl hF (λF' hF'=>⟨hx.1.le hF',hx.2.le hF'⟩)<|wa<|Qp rfl (vs:=[_,_,_,_,_,_]) rfl λb1=>wZ rfl<|wa<|QA (QH rfl Xdb JF)<|QA (Qe rfl JF .here .h1)<|QA (QH rfl Xda JF)<|QA (Qe rfl JF .here (.skip .h1))<|Qb rfl (Q5 YG) JF Im rfl rfl λb7=>QI rfl (λ_ _ f k=>QGb (l:=[x.fr,x.te]) f (Qy.of (n:=2) (sz:=1) (cs:=[x.fr,x.te].map tx) k.2 rfl) rfl tF) λ_=>wW rfl ?_
 refine Qn (t:=9) rfl (λhb9=>?_) λhb9=>?_
 ·refine wB 16 I<|Jn I I<|Jn I I<|Jn I I<|wD 6 I ?_
  exact wg I I (congrArg aa (by unfold Xa2;rw[show cT [x.fr,x.te]=true from hb9];rfl)) tL
 refine QL I I<|QA (QH I Xdn J0)<|QL I I<|QA (Qe I J0 .here (.skip (.skip .h1)))<|QL I I<|QI I (λ_ _ f k=>um f k.1.1.1 hn.1) λ_=>QL I I<|QA (XL I)<|wB 2 I ?_
 refine Qn (t:=15) rfl (λhb15=>?_) λhb15=>?_
 ·refine wB 10 I<|Jn I I<|Jn I I<|Jn I I<|wD 6 I ?_
  exact wg I I (congrArg aa (by unfold Xa2;rw[show cT [x.fr,x.te]=false from hb9,hb15];rfl)) tL
 refine QL I I<|QA (QH I Xdm J0)<|QL I I<|QA (Qe I J0 .here (.skip (.skip (.skip .h1))))<|QL I I<|QI I (λ_ _ f k=>um f k.1.1.1.2 hn.2) λ_=>QL I I<|QA (XL I)<|wB 2 I ?_
 refine Qn (t:=21) rfl (λhb21=>?_) λhb21=>?_
 ·refine wB 4 I<|Jn I I<|Jn I I<|Jn I I<|wD 6 I ?_
  exact wg I I (congrArg aa (by unfold Xa2;rw[show cT [x.fr,x.te]=false from hb9,hb15,hb21];rfl)) tL
 refine QL I I<|QA (QH I Xd9 JK)<|QL I I<|QA (Qe I JK .here (.skip (.skip (.skip (.skip .h1)))))<|wB 4 I ?_
 refine Qn (t:=25) rfl (λhb25=>?_) λhb25=>?_
 ·refine QL I I<|QA (QH I Xd9 JK)<|QL I I<|QA (Qe I JK .here (.skip (.skip (.skip (.skip .h1)))))<|wD 9 I ?_
  exact wg I I (congrArg aa (by unfold Xa2;rw[show cT [x.fr,x.te]=false from hb9,hb15,hb21,hb25];rfl)) tL
 refine wD 10 I ?_;exact wg I I (congrArg aa (by unfold Xa2;rw[show cT [x.fr,x.te]=false from hb9,hb15,hb21,hb25];rfl)) tL
theorem Xen{hv wt:List (List UInt8×List UInt8)}{e:Int}(hF:Fits F w)(ha:Ks F ra hv)(hb:Ks F rb wt)(hn:ra.n<=1000000)(hc:BS rb wt):Qf prog 39 [ra.v,.int .i64 e,rb.v] w F (.bool (Xe7 hv e wt)):=by
 have hal:=ha.len;refine QU.intro (G:=λF=>Ks F ra hv/\Ks F rb wt) func39 rfl tH rfl rfl hF (λF' hF'=>⟨ha.le hF',hb.le hF'⟩)<|wa<|wZ rfl<|QG<|wb rfl<|QI rfl (λ_ _ f k=>Xav f k.2 hc) λ_=>QA (QT rfl rfl rfl)<|QE<|QC ?_
 refine QQ I (λhc2=>?_) λhc2=>?_
 ·have h9:=bne_iff_ne.1 hc2;refine wb I<|QA (Qg I XF)<|wB 2 I ?_
  refine Qn (t:=13) rfl (λhb13=>?_) λhb13=>?_
  ·refine wD 9 I ?_;exact wg I I (congrArg aa (by unfold Xe7;rw[if_pos h9,decide_eq_true (show hv.length=0 by have:(ra.n:Int)=0:=eq_of_beq hb13;omega)];rfl)) tL
  refine wD 7 I ?_;exact wg I I (congrArg aa (by unfold Xe7;rw[if_pos h9,decide_eq_false (show ¬hv.length=0 by have:¬(ra.n:Int)=0:=(by simpa using hb13);omega)];rfl)) tL
 have h9:=bne_eq_false_iff_eq.1 hc2;refine wC 7 I ?_;refine Qn (t:=19) rfl (λhb19=>?_) λhb19=>?_
 ·refine wB 5 I<|QI I (λ_ _ f k=>Cy f k.1.1 k.1.2 hn) λ_=>wD 5 I ?_
  exact wg I I (congrArg aa (by unfold Xe7;rw[if_neg (by rw[h9];decide),hb19];rfl)) tL
 refine wD 8 I ?_;exact wg I I (congrArg aa (by unfold Xe7;rw[if_neg (by rw[h9];decide),hb19];rfl)) tL
section
open Go.RowKit Go.ChangeShapes Go.WideShapes Ig
section
variable{H:Type}{enc:TypeId×Value->H}{w:World}
def QGx(n:Nat):Prop:=n<=9223372036854775807
set_option maxRecDepth 100000 in
theorem QFd{x:DataW H×List MemPlace}(h:aA enc prog w 0 (λ_=>true) true m 36 cs=some x):∃(r:Sr) (l:List (List UInt8×List UInt8)),cs=[.slice r.q r.n r.cap]/\Ks (Vx w) r l/\QGx r.n:=by
 obtain⟨q,n,cap,l,h1,h2,h3,h4,_,_⟩:=Pe (f:=NU) (Q:=λ_=>True) underlying36 (show prog.cellsOf 40=2 by kernel_rfl) tF (λ_=>rfl) (λn cs x h=>by obtain⟨y,hy⟩:=xF n cs x h;exact⟨y,hy,trivial⟩) h;exact⟨⟨q,n,cap⟩,l,h1,⟨h2,h3⟩,h4⟩
theorem QAc(n:Nat)(cs:List Value)(x:DataW H×List MemPlace)(h:aA enc prog w 0 (λ_=>true) true n 9 cs=some x):∃y:List UInt8,cs=[tx y]/\y.length<=9223372036854775807:=by
 obtain⟨s,rfl,_,hs⟩:=DataW.trod_string underlying9 h;refine⟨s.data.toList,by simp[tx],?_⟩;unfold maxLen at hs;have:s.data.toList.length=s.size:=tJ;omega
set_option maxRecDepth 100000 in
theorem QBJ(m:Nat)(cs:List Value)(x:DataW H×List MemPlace)(h:aA enc prog w 0 (λ_=>true) true m 76 cs=some x):
  ∃a:NQ,cs=[a.1.v]/\(Qy (Vx w) a.1.q a.1.n 2 (a.2.flatMap VM)/\Yy (Vx w) a.2)/\a.2.length=a.1.n/\QGx a.1.n/\∀t∈a.2,QGw t:=by
 obtain⟨q,n,cap,l,h1,h2,h3,h4,h5,h6⟩:=Pe (cs:=cs) (f:=VM) (Q:=λy=>J8 (Vx w) y.r y.k/\QGw y) underlying76 (show prog.cellsOf 108=2 by kernel_rfl) tF (λ_=>rfl) ua h;exact⟨(⟨q,n,cap⟩,l),h1,⟨h2,λt ht=>(h5 t ht).1⟩,h3,h4,λt ht=>(h5 t ht).2⟩
def QFP(l:List NQ):(l.flatMap λa=>[a.1.v])=l.map λe=>e.1.v:=by
 induction l with
 |nil=>rfl
 |cons a l ih=>rw[aV,ih];rfl
set_option maxRecDepth 100000 in
theorem QEz{v:Value}{d:DataW H}{p:List MemPlace}(hv:bM prog w .any b 38 v)(h:bR enc prog w 0 (λ_=>true) true 38 v d p):∃y:Xz,v=y.v/\X4 (Vx w) y/\vG y:=by
 obtain⟨v0,v1,v2,yz0,y1,y2,n,rfl,_,_,h0,h1,h2⟩:=Joins.open_agg3 underlying38 tE tE hv h;obtain⟨q0,n0,c0,nl,e0,a1,a2,a3,a4,a5⟩:=Pe (cs:=[v0]) (f:=λy=>[tx y]) (Q:=λy=>y.length<=9223372036854775807) underlying34 (show prog.cellsOf 9=1 by kernel_rfl) tF (λ_=>rfl) QAc h0;obtain⟨q1,n1,c1,rl,e1,b1,b2,b3,b4,b5⟩:=Pe (cs:=[v1]) (f:=λa:NQ=>[a.1.v]) (Q:=λa=>(Qy (Vx w) a.1.q a.1.n 2 (a.2.flatMap VM)/\Yy (Vx w) a.2)/\a.2.length=a.1.n/\QGx a.1.n/\∀t∈a.2,QGw t) underlying35 (show prog.cellsOf 76=1 by kernel_rfl) tF (λ_=>rfl) QBJ h1;obtain⟨r2,sl,e2,s1,s2⟩:=QFd h2;obtain rfl:=(aF e0).1;obtain rfl:=(aF e1).1;obtain rfl:=(aF e2).1;rw[QGf]at a1;rw[QFP]at b1;exact⟨⟨⟨q0,n0,c0⟩,nl,⟨q1,n1,c1⟩,rl,r2,sl⟩,rfl,⟨a1,b1,λe he=>(b4 e he).1,s1.row,a2,b2,s1.len⟩,⟨a3,a5,a4,b3,s2,λe he=>⟨(b4 e he).2.1,(b4 e he).2.2.1,λt ht=>((b4 e he).1.2 t ht).2.1⟩⟩⟩
end
end
section
open Go.RowKit Go.ChangeShapes Go.WideShapes Ig
theorem Xf3{α:Type}{cs:Array α}(h:cs.size=6):∃c0 c1 c2 c3 c4 c5,cs=#[c0,c1,c2,c3,c4,c5]:=by
 obtain⟨l⟩:=cs
 match l,h with
 |[c0,c1,c2,c3,c4,c5],_=>exact⟨c0,c1,c2,c3,c4,c5,rfl⟩
section
variable{H:Type}{enc:TypeId×Value->H}{w:World}
theorem Xdg{t:TypeId}{f0 f1 f2 f3 f4 f5:Field}{fuel:Nat}{x:DataW H×List MemPlace}(ht:prog.underlying t=some (.struct #[f0,f1,f2,f3,f4,f5]))(h:aA enc prog w 0 (λ_=>true) true fuel t cs=some x):
  ∃z0 z1 z2 z3 z4 z5 n,aA enc prog w 0 (λ_=>true) true n f0.type ((cs.drop f0.offset).take (prog.cellsOf f0.type))=some z0/\aA enc prog w 0 (λ_=>true) true n f1.type ((cs.drop f1.offset).take (prog.cellsOf f1.type))=some z1/\aA enc prog w 0 (λ_=>true) true n f2.type ((cs.drop f2.offset).take (prog.cellsOf f2.type))=some z2 /\
   aA enc prog w 0 (λ_=>true) true n f3.type ((cs.drop f3.offset).take (prog.cellsOf f3.type))=some z3/\aA enc prog w 0 (λ_=>true) true n f4.type ((cs.drop f4.offset).take (prog.cellsOf f4.type))=some z4/\aA enc prog w 0 (λ_=>true) true n f5.type ((cs.drop f5.offset).take (prog.cellsOf f5.type))=some z5:=by
 obtain⟨xs,n,_,rfl,hl,hlen,hf⟩:=DataW.trod_struct ht h
 match xs,hlen with
 |[z0,z1,z2,z3,z4,z5],_=>exact⟨z0,z1,z2,z3,z4,z5,n,by simpa using hf 0 f0 rfl,by simpa using hf 1 f1 rfl,by simpa using hf 2 f2 rfl,by simpa using hf 3 f3 rfl,by simpa using hf 4 f4 rfl,by simpa using hf 5 f5 rfl⟩
theorem Xcb{v:Value}{x:DataW H×List MemPlace}(h:aA enc prog w 0 (λ_=>true) true n 3 [v]=some x):∃k,v = .int .i64 k:=by
 obtain⟨k,e,_⟩:=DataW.trod_int QGy h;exact⟨k,(aF e).1⟩
set_option maxRecDepth 100000 in
theorem Xem{v:Value}{d:DataW H}{p:List MemPlace}(hv:bM prog w .any b 60 v)(h:bR enc prog w 0 (λ_=>true) true 60 v d p):∃x:ATk,v=x.v/\(Ks (Vx w) x.bx x.bl/\Ks (Vx w) x.wh x.wl)/\x.bx.n<=9223372036854775807/\x.wh.n<=9223372036854775807:=by
 obtain⟨cs,rfl,hsz⟩:=okWide_struct underlying60 hv;obtain⟨c0,c1,c2,c3,c4,c5,rfl⟩:=Xf3 (hsz.trans tE);obtain⟨fuel,hf⟩:=h;obtain⟨z0,z1,z2,z3,z4,z5,n,h0,h1,h2,h3,h4,h5⟩:=Xdg underlying60 hf;have k1:prog.cellsOf 22=1:=tE;have k2:prog.cellsOf 36=1:=tE;have k3:prog.cellsOf 3=1:=tE;dsimp only[Value.cells]at h0 h1 h2 h3 h4 h5;rw[k1]at h0 h1;rw[k2]at h2 h3;rw[k3]at h4 h5;obtain⟨e0,rfl⟩:=LG jD (v:=c0) h0;obtain⟨e1,rfl⟩:=LG jD (v:=c1) h1;obtain⟨r2,l2,g2,p2,q2⟩:=QFd (cs:=[c2]) h2;obtain⟨r3,l3,g3,p3,q3⟩:=QFd (cs:=[c3]) h3;obtain⟨i4,rfl⟩:=Xcb (v:=c4) h4;obtain⟨i5,rfl⟩:=Xcb (v:=c5) h5;obtain rfl:=(aF g2).1;obtain rfl:=(aF g3).1;exact⟨⟨e0,e1,r2,l2,r3,l3,i4,i5⟩,rfl,⟨p2,p3⟩,q2,q3⟩
end
end
def eqI8(a:Int):It .eql (.int .i64 a) (.int .i64 a)=some (.bool true):=by simp[It]
structure QxR(F:Gs)(r:Sr)(vs:List XP):Prop where
 row:Qy F r.q r.n 2 (vs.flatMap LP)
 len:vs.length=r.n
def QxR.le{F':Gs}{r:Sr}{vs:List XP}(h:QxR F r vs)(k:Gs.le F F'):QxR F' r vs:=⟨h.row.le k,h.len⟩
def QEi(x:XP):∀v∈LP x,v.oneCell'=true:=λv hv=>by
 simp only[LP,bL,bF,or_false]at hv;rcases hv with rfl | rfl<;>rfl
def QEh(h:∀s∈l,Xd s.1 s.2=0):l.flatMap NU=(lV l).flatMap LP:=by
 induction l with
 |nil=>rfl
 |cons s l ih =>
  have h1:=Ku (h s (.head _));show NU s++l.flatMap NU=LP (JB s)++(lV l).flatMap LP;rw[ih λu hu=>h u (.tail _ hu)];congr 1;show[tx s.1,tx s.2]=[tx (JP (Qz s.1)),tx (JP (Qz s.2))];rw[<-(XM h1.1).1,<-(XM h1.2.1).1]
def Ks.q{r:Sr}(hx:Ks F r l)(h:∀s∈l,Xd s.1 s.2=0):QxR F r (lV l):=⟨by rw[<-QEh h];exact hx.row,by rw[Yg];exact hx.len⟩
def Xc7(vs:List XP):(I4 vs).flatMap NU=vs.flatMap LP:=by unfold I4;rw[List.flatMap_map];rfl
def QxR.CW{r:Sr}{vs:List XP}(h:QxR F r vs):Ks F r (I4 vs):=⟨by rw[Xc7];exact h.row,by rw[vz];exact h.len⟩
structure Xaf(n:Nat)(f:Nat->XP) where
 i:Nat
 v:Value
 ob:List (Nat×Obj)
 le:i<=n
 hr:Q8 40 2 v i (((aG i).map f).flatMap LP) ob
def Xaf.start(n:Nat)(f:Nat->XP):Xaf n f:=⟨0,.slice none 0 0,[],ak _,.nil⟩
def Xaf.next{n:Nat}{f:Nat->XP}(s:Xaf n f)(h:s.i<n){v:Value}{ob:List (Nat×Obj)}{x:XP}(hr:Q8 40 2 v (s.i+1) (((aG s.i).map f).flatMap LP++LP x) ob)(hx:x=f s.i):Xaf n f :=
 ⟨s.i+1,v,ob,h,by rw[ba,bc,show List.map f [s.i]=[x] by rw[hx];rfl,CK];exact hr⟩
theorem Xaf.row{f:Nat->XP}(s:Xaf n f)(h:s.i=n){F:Gs}{q:Option Addr}{c:Nat}(hr:Qy F q s.i 2 (((aG s.i).map f).flatMap LP)):QxR F ⟨q,s.i,c⟩ ((aG n).map f):=⟨by have e:(aG n).map f=(aG s.i).map f:=congrArg (λk=>(aG k).map f) h.symm;rw[e];exact hr,by rw[ag,aC,h]⟩
theorem QEl{a b:Rat×Rat}(hF:Fits F w)(ha:Ux 45000 a)(hb:Ux 45000 b):Qf prog 121 [kh a,kh b] w F (kh (Jg a b)):=by
 have h:=ur hF ha hb;rw[<-jw]at h;exact h
structure NtI(n:Nat) where
 i:Nat
 le:i<=n
def Xb8:JP 0=[48]:=tG
def Xcw:JP 1=[49]:=tG
structure Xd1(va vb:List XP):Prop where
 eb:∀k,k<va.length->Xf (el va k) 45000/\Xf (el vb k) 45000
 pr:∀k,k<va.length->∀j,j<=k->Xf (Jg (el va j) (el vb (k-j))) 100000
 cv:∀k,k<va.length->∀i,i<=k+1->Xf (DM va vb k i) 100000
structure Xd3(vs:List XP) where
 v:Value
 ob:List (Nat×Obj)
 hr:Q8 40 2 v vs.length (vs.flatMap LP) ob
def Xa1(a:Rat)(n:Nat):(Ek a n).length=n+1:=by simp[Ek]
structure CsQ(a:Rat)(n:Nat) where
 j:Nat
 v:Value
 ob:List (Nat×Obj)
 le:j<=n
 hr:Q8 40 2 v (j+1) ((Ek a j).flatMap LP) ob
def Xcc(a:Rat)(j:Nat):(Ek a (j+1)).flatMap LP=(Ek a j).flatMap LP++LP (0,0):=by
 rw[<-CK];congr 1;unfold Ek;rw[List.replicate_succ'];simp
def Xcz{v:Value}{ob:List (Nat×Obj)}(h:Q8 40 2 v n cs ob)(hn:0<n):∃b rest c,v = .slice (some ⟨b,0,none⟩) n c/\ob=[(b,.cells (cs++rest).toArray 40 (0,0))]/\n<=c/\cs.length=n*2:=by
 cases h with
 |nil=>exact absurd hn (Nat.lt_irrefl _)
 |some h1 h2 h3 h4=>exact⟨_,_,_,rfl,rfl,h3,h1⟩
theorem Xam{va:List XP}(hF:Fits F w)(ha:QxR F ra va)(hb:QxR F rb vb)(hl:va.length<=vb.length)(hn:ra.n<=1000000)(hza:∀a∈va,Xf a 100000)(hzb:∀a∈vb,Xf a 100000):QU prog 214 [ra.v,rb.v] w F (λ(c:Sr)=>c.v) (λc F=>QxR F c (My va vb)):=by
 have hal:=ha.len;have hbl:=hb.len;refine QU.intro (G:=λF=>QxR F ra va/\QxR F rb vb) func214 rfl tH rfl rfl hF (λF' hF'=>⟨ha.le hF',hb.le hF'⟩)<|wa<|wZ rfl<|wa<|wZ rfl<|QG<|wa<|wZ rfl<|QV<|JU (ι:=Xaf (va.length) ((λi=>Vz (el va i) (el vb i)))) [(0,_),(1,_)] (λi=>[(5,i.v),(6,.int .i64 ((i.i:Nat):Int))]) (λi=>i.ob) (λi F=>True) (λi=>(va.length)-i.i) (Xaf.start _ _) wm wm we tL λi=>?_
 simp only[ab,ae];have hi:=i.le;refine wA 5 I<|QA (Qg I XF)<|wD 3 I ?_
 refine QQ I (λhc2=>?_) λhc2=>?_
 ·have hlt:i.i<va.length:=tD<|wi hc2
  have hem:=Qw hlt;refine wC 4 I<|JG tQ mixed tE<|QK (QD I)<|QK (QD I)<|QK (QD I)<|QK (Q3 (n:=ra.n) i.i (λF h9=>h9.1.1.row) rfl rfl XF Jd O)<|QK (JZ (n:=ra.n) (vs:=[tx (JP (el va i.i).1),tx (JP (el va i.i).2)]) ((i.i)*2) (λF h9=>h9.1.1.row) O rfl Jd I λj v hv=>JN (f:=LP) (l:=va) uh O hv)<|QK (QD I)<|QK (QD I)<|QK (Q3 (n:=rb.n) i.i (λF h9=>h9.1.2.row) rfl rfl XF Jd O)<|QK (JZ (n:=rb.n) (vs:=[tx (JP (el vb i.i).1),tx (JP (el vb i.i).2)]) ((i.i)*2) (λF h9=>h9.1.2.row) O rfl Jd I λj v hv=>JN (f:=LP) (l:=vb) uh O hv)<|QR I (λ_ _ f k=>uz (a:=el va i.i) (b:=el vb i.i) f (hza _ hem) (hzb _ (Qw O))) λ_=>?_
  refine Qo I (Q5 XF) Jd Xa I I (λb23=>?_) (λw h=>h.imp tQ tN);refine Y6 (av (l₁:=[])) ?_;refine Yz (n:=i.i) (k:=1) (sz:=2) (news:=(LP (Vz (el va i.i) (el vb i.i)))) I I XF Jd Xa I QAH i.hr (Src.row (off:=0) tO (λj q hq=>by rw[aI];rw[aB];exact hq) rfl) O O (QEi _) we (λ_ h=>h.1.1) (λv24 ob24 hr24=>?_);refine Y6 (av (l₂:=[]))<|QK (QF I)<|Q7<|Qj<|wE 3 I<|QA (Qu I I O)<|wB 2 I ?_
  exact Ql (i.next hlt hr24 rfl) (by show va.length-(i.i+1)<va.length-i.i;omega) wv we λF h=>⟨h.1.1.1,trivial⟩
 have hge:va.length<=i.i:=tD<|wj hc2
 refine Qx ?_
 repeat first|refine QY ?_|refine QO tH ?_
 refine QZ<|wE 3 I ?_
 obtain⟨⟨rq,rn,rc⟩,hv2,hrn,hrc,hfix⟩:=Q8.fix (w0:=w) (F0:=F) (bs1:=[]) (G:=_) i.hr;dsimp only at hrn hrc hfix;subst hrn;refine Zj hfix ?_;rw[hv2];dsimp only[Sr.v];refine wD 5 I ?_;exact QP ((⟨rq,i.i,rc⟩:Sr)) I (wT I) (rfl) λF ⟨⟨⟨ha,hb⟩,_⟩,hrow⟩=>i.row (tD i.le) hrow
theorem Xaj{va:List XP}(hF:Fits F w)(ha:QxR F ra va)(hb:QxR F rb vb)(hl:va.length<=vb.length)(hn:ra.n<=1000000)(ho:Xd1 va vb):QU prog 213 [ra.v,rb.v] w F (λ(c:Sr)=>c.v) (λc F=>QxR F c (H2 va vb)):=by
 have hal:=ha.len;have hbl:=hb.len;refine QU.intro (G:=λF=>QxR F ra va/\QxR F rb vb) func213 rfl tH rfl rfl hF (λF' hF'=>⟨ha.le hF',hb.le hF'⟩)<|wa<|wZ rfl<|wa<|wZ rfl<|QG<|wa<|wZ rfl<|QV<|JU (ι:=Xaf (va.length) ((λk=>DM va vb k (k+1)))) [(0,_),(1,_)] (λi=>[(5,i.v),(6,.int .i64 ((i.i:Nat):Int))]) (λi=>i.ob) (λi F=>True) (λi=>(va.length)-i.i) (Xaf.start _ _) wm wm we tL λi=>?_
 simp only[ab,ae];have hi:=i.le;refine wA 5 I<|QA (Qg I XF)<|wD 3 I ?_
 refine QQ I (λhc2=>?_) λhc2=>?_
 ·have hlt:i.i<va.length:=tD<|wi hc2
  have hem:=Qw hlt;refine wC 6 I<|QI I (λ_ _ f k=>VC f) λ_=>Qc Xa λb7=>QW (vs:=[_,_]) I I I Jd I .here .h2 wm<|wD 9 I<|JU (ι:=NtI (i.i+1)) [(0,_),(1,_),(5,_),(6,_),(7,_)] (λi2=>[(8,.int .i64 ((i2.i:Nat):Int))]) (λi2=>(b7,.cells [tx (JP (DM va vb i.i i2.i).1),tx (JP (DM va vb i.i i2.i).2)].toArray 40 (0,0))::i.ob) (λi2 F=>True) (λi2=>i.i+1-i2.i) (⟨0,ak _⟩) wy wk ((by show aW (α:=Nat×Obj) ((b7,.cells [tx (JP ((0,0):Rat×Rat).1),tx (JP ((0,0):Rat×Rat).2)].toArray 40 (0,0))::i.ob) _;rw[show JP ((0,0):Rat×Rat).1=[48]from by decide +kernel];exact ay _)) tL λi2=>?_
  simp only[ab,ae];have hi2:=i2.le;refine wA 8 I ?_;refine QQ I (λhc2=>?_) λhc2=>?_
  ·have hlt2:i2.i<=i.i:=tD<|wi hc2
   refine wC 4 I<|Jq 13 we mixed tE tE ?_
   simp only[aO,aN,aQ,bh];refine QK (wN I Jd .here)<|QK (QD I)<|QK (QD I)<|QK (Q3 (n:=ra.n) (i2.i) (λF h9=>h9.1.1.1.1.row) rfl rfl XF Jd O)<|QK (JZ (n:=ra.n) (vs:=[tx (JP (el va (i2.i)).1),tx (JP (el va (i2.i)).2)]) ((i2.i)*2) (λF h9=>h9.1.1.1.1.row) O rfl Jd I λj v hv=>JN (f:=LP) (l:=va) uh O hv)<|QK (QD I)<|QK (QD I)<|QK (QD I)<|QK (X3 I I O)<|QK (Q3 (n:=rb.n) ((i.i-i2.i)) (λF h9=>h9.1.1.1.2.row) rfl wS XF Jd O)<|QK (JZ (n:=rb.n) (vs:=[tx (JP (el vb ((i.i-i2.i))).1),tx (JP (el vb ((i.i-i2.i))).2)]) (((i.i-i2.i))*2) (λF h9=>h9.1.1.1.2.row) O rfl Jd I λj v hv=>JN (f:=LP) (l:=vb) uh O hv)<|QR I (λ_ _ f k=>QEl (a:=el va i2.i) (b:=el vb (i.i-i2.i)) f (ho.eb _ O).1 (ho.eb _ O).2) λ_=>QR I (λ_ _ f k=>uz (a:=(DM va vb i.i i2.i)) (b:=(Jg (el va i2.i) (el vb (i.i-i2.i)))) f (ho.cv _ hlt _ O) (ho.pr _ hlt _ O)) λ_=>ZS<|QW (vs:=[_,_]) I I I Jd I .here .h2 wm<|QE<|Qj<|wE 3 I<|QA (Qu I I O)<|wB 2 I ?_
   exact Ql (⟨i2.i+1,O⟩) (by show i.i+1-(i2.i+1)<i.i+1-i2.i;omega) wz ((by show aW (α:=Nat×Obj) (((b7,.cells [tx (JP (DM va vb i.i (i2.i+1)).1),tx (JP (DM va vb i.i (i2.i+1)).2)].toArray 40 (0,0)))::i.ob) _;rw[Ro];exact ay _)) λF h=>⟨h.1.1.1,trivial⟩
  have hge2:¬i2.i<=i.i:=tD<|wj hc2
  refine Qx ?_
  repeat first|refine QY ?_|refine QO tH ?_
  refine QZ<|wE 3 I<|QA (wN I Jd .here)<|Qb I (Q5 XF) Jd Xa I I λb36=>?_
  refine Z4 (bs1:=[_]) (ob:=i.ob) (n:=i.i) (k:=1) (sz:=2) (news:=(LP (DM va vb i.i i2.i))) I I XF Jd Xa I QAH i.hr (Src.row (off:=0) tO (λj q hq=>by rw[aI];rw[aB];exact hq) rfl) O O (QEi _) (λv37 ob37 hr37=>?_);refine wB 2 I<|Qj<|wE 3 I<|QA (Qu I I O)<|wB 2 I ?_
  exact Ql (i.next hlt hr37 (by rw[show i2.i=i.i+1 by omega])) (by show va.length-(i.i+1)<va.length-i.i;omega) wv (.cons _ we) λF h=>⟨h.1.1.1.1,trivial⟩
 have hge:va.length<=i.i:=tD<|wj hc2
 refine Qx ?_
 repeat first|refine QY ?_|refine QO tH ?_
 refine QZ<|wE 3 I ?_
 obtain⟨⟨rq,rn,rc⟩,hv2,hrn,hrc,hfix⟩:=Q8.fix (w0:=w) (F0:=F) (bs1:=[]) (G:=_) i.hr;dsimp only at hrn hrc hfix;subst hrn;refine Zj hfix ?_;rw[hv2];dsimp only[Sr.v];refine wD 5 I ?_;exact QP ((⟨rq,i.i,rc⟩:Sr)) I (wT I) (rfl) λF ⟨⟨⟨ha,hb⟩,_⟩,hrow⟩=>i.row (tD i.le) hrow
theorem Xax{w0:World}{F0:Gs}{bs:List (Nat×Obj)}{G:Gs->Prop}{a:Rat}{n:Nat}(hn:n<=1000000):XN prog 212 [tx (JP a),.int .i64 (n:Int)] ⟨w0,F0,bs,G⟩ (λ(c:Xd3 (Ek a n))=>c.v) (λc=>⟨w0,F0,c.ob++bs,G⟩):=by
 refine XN.intro func212 rfl tH rfl rfl<|wa<|wZ rfl<|wb rfl<|QI rfl (λ_ _ f k=>VC f) λ_=>Y2 rfl (Q5 XF) Jd Xa rfl rfl λb9=>wZ rfl<|QG<|wa<|wZ rfl<|QV<|JU (ι:=CsQ a n) [(1,_)] (λi=>[(5,i.v),(6,.int .i64 ((i.j:Nat):Int))]) (λi=>i.ob++bs) (λi F=>True) (λi=>n-i.j) (⟨0,_,_,ak _,.some (n:=1) (l:=(Ek a 0).flatMap LP) (rest:=[]) rfl rfl (ai _) tF⟩) wk wm we tL λi=>?_
 simp only[ab,ae];have hi:=i.le;refine wA 8 I ?_;refine QQ I (λhc2=>?_) λhc2=>?_
 ·have hlt:i.j<n:=tD<|wi hc2
  refine wC 6 I<|QI I (λ_ _ f k=>VC f) λ_=>Qb I (Q5 XF) Jd Xa I I λb17=>?_
  refine Mf (bs:=bs) (n:=i.j+1) (k:=1) (sz:=2) (news:=LP (0,0)) I I XF Jd Xa I QAH i.hr (Src.row (off:=0) tO (λj q hq=>by rw[aI];rw[aB];rw[LP,Xb8]at hq;exact hq) rfl) O O (QEi _) (λv18 ob18 hr18=>?_);refine wB 2 I<|Qj<|wE 3 I<|QA (Qu I I O)<|wB 2 I ?_
  exact Ql (⟨i.j+1,v18,ob18,O,by rw[Xcc];exact hr18⟩) (by show n-(i.j+1)<n-i.j;omega) wu we λF h=>⟨h.1.1.1,trivial⟩
 have hge:i.j=n:=tD<|wj hc2
 refine Qx ?_
 repeat first|refine QY ?_|refine QO tH ?_
 refine QZ<|wE 8 I ?_
 exact Y3 (⟨i.v,i.ob,by have h:=i.hr;rw[hge]at h;rw[Xa1];exact h⟩) I (wT I) (rfl) λw h=>h.imp we λF h9=>h9.1.1
theorem Xaw{a:Rat}{n:Nat}(hF:Fits F w)(hn:n<=1000000):QU prog 212 [tx (JP a),.int .i64 (n:Int)] w F (λ(c:Sr)=>c.v) (λc F=>QxR F c (Ek a n)):=by
 have h:=Xax (w0:=w) (F0:=F) (bs:=[]) (G:=λF'=>Gs.le F F') (a:=a) hn;refine⟨h.1,(h.2 w (St.start hF λ_ h=>h)).mono ?_⟩;rintro e w' ⟨c,rfl,hw⟩;dsimp only at hw;rw[List.append_nil]at hw;obtain⟨s,hv,hsn,hsc,hfix⟩:=Q8.fix (w0:=w) (F0:=F) (bs1:=[]) c.hr;obtain⟨F',h'⟩:=hfix w' hw;exact⟨s,F',by show Ending.returned c.v=_;rw[hv],h'.ext,h'.le,h'.old,h'.fits,λF'' hle=>⟨by rw[hsn];exact(h'.g F'' hle).2,hsn.symm⟩⟩
def ja{l:List Int}(h:k<l.length):Qm l k∈l:=by rw[Z9 h];exact List.getElem_mem h
theorem DG.drop{l:List Int}(hd:DG B9 l)(k:Nat):DG B9 (l.drop k):=λx hx=>hd x (List.mem_of_mem_drop hx)
def Xbq(l m:List XP):(l++m).flatMap LP=l.flatMap LP++m.flatMap LP:=by rw[List.flatMap_append]
def QCn(l:List XP):(l.flatMap LP).length=l.length*2:=Dq (f:=LP) uh l
def Xcr{l:List XP}{rest:List Value}(h:i<l.length)(x:XP):VG (l.flatMap LP++rest) (0+i*2) (LP x) ((l.set i x).flatMap LP++rest):=by
 have e1:l=l.take i++l[i]::l.drop (i+1):=by rw[List.getElem_cons_drop];simp
 have e2:l.set i x=l.take i++x::l.drop (i+1):=by rw[List.set_eq_take_append_cons_drop,if_pos h]
 rw[e2]
 conv=>arg 1;rw[e1]
 rw[Xbq,Xbq,aV,aV,aK,aK,aK,aK,show 0+i*2=((l.take i).flatMap LP).length by rw[QCn,bG];omega];exact Nt I
def Xcf(t:XP):(Ek 0 0).set 0 t=KC t 0:=rfl
def Xce(t:XP)(n:Nat):((Ek 0 (n+1)).set 0 t).set 1 (1,1)=KC t (n+1):=by
 show((((0:Rat),(0:Rat))::List.replicate (n+1) (0,0)).set 0 t).set 1 (1,1)=_;rw[List.replicate_succ];rfl
def Xbr{vs:List XP}{rest:List Value}(h:F b=some ((vs.flatMap LP++rest).toArray,40))(hl:vs.length=n):QxR F ⟨some ⟨b,0,none⟩,n,c⟩ vs:=⟨Qy.pre h (by rw[QCn,hl]),hl⟩
theorem Xbu{n:Nat}(hF:Fits F w)(h:Jp s=0)(hn:n<=1000000):QU prog 212 [tx s,.int .i64 (n:Int)] w F (λ(c:Sr)=>c.v) (λc F=>QxR F c (Ek (Qz s) n)):=by
 have:=Xaw (a:=Qz s) hF hn;rw[<-(XM h).1]at this;exact this
structure Xa6(F:Gs)(r:Sr)(ls:List Sr)(vs:List (List XP)):Prop where
 row:Qy F r.q r.n 1 (ls.map Sr.v)
 len:ls.length=r.n
 YI:vs.length=r.n
 q:∀i,i<r.n->QxR F (el ls i) (el vs i)
theorem Xa6.le{F':Gs}{r:Sr}{vs:List (List XP)}(h:Xa6 F r ls vs)(k:Gs.le F F'):Xa6 F' r ls vs:=⟨h.row.le k,h.len,h.YI,λi hi=>(h.q i hi).le k⟩
structure Xd2(P:List Tm)(all:List (List XP))(n:Nat):Prop where
 len:∀v,v<all.length->(el all v).length=n+1
 ks:∀u∈P,u.2.length=all.length/\∀k∈u.2,0<=k/\k<=1000
 rt:∀u∈P,∀v,v<all.length->∀m,m<(Qm u.2 v).toNat->Xd1 (NW (B4 u.1 u.2 all n v) (el all v) m) (el all v)
 mn:∀u∈P,∀x∈B4 u.1 u.2 all n all.length,Xf x 100000
 sm:∀j,j<=P.length->∀x∈Vw (P.take j) all n,Xf x 100000
structure SqJ(n:Nat) where
 i:Nat
 c:Sr
 le:i<=n
def Xbw(c:Rat)(ks:List Int)(all:List (List XP))(n v:Nat):B4 c ks all n (v+1)=NW (B4 c ks all n v) (el all v) (Qm ks v).toNat:=by unfold B4;rw[ba,aU];rfl
def Xbv(y b:List XP)(m:Nat):NW y b (m+1)=H2 (NW y b m) b:=by unfold NW;rw[ba,aU];rfl
def Xb7{p:List Tm}{all:List (List XP)}{j:Nat}(h:j<p.length):Vw (p.take (j+1)) all n=My (Vw (p.take j) all n) (B4 (el p j).1 (el p j).2 all n all.length):=by unfold Vw;rw[XE h,aU];rfl
def Xcx{ps:List V0}(h:i<ps.length):el (ps.map R6) i=(Qz (el ps i).f,(el ps i).k):=by rw[Jb (by simpa using h),Jb h];simp[R6]
theorem Xc8{t:XP}{n:Nat}(hF:Fits F w)(hn:n<=1000000):QU prog 119 [kh t,.int .i64 (n:Int)] w F (λ(c:Sr)=>c.v) (λc F=>QxR F c (KC t n)):=by
 refine QU.intro (G:=λF=>True) func119 rfl tH rfl rfl hF tL<|wa<|Qp rfl (vs:=[_,_]) rfl λb2=>wZ rfl<|wa<|wW rfl ?_
 rw[<-Xb8];refine XX I (List.Perm.refl _) (Xax (a:=0) (n:=n) hn) (λc7=>?_);obtain⟨b7,rest7,cc7,hv7,hob7,hle7,hlen7⟩:=Xcz c7.hr (by rw[Xa1];omega);rw[Xa1]at hv7 hle7;rw[hv7,hob7];rw[List.singleton_append];refine wD 6 I<|QA (wN I Jd .u1)<|QA (JL (i:=0) rfl rfl XF Jd O)<|QW (vs:=LP t) rfl rfl rfl Jd I .here (Xcr (i:=0) (by rw[Xa1];omega) t) wm<|wD 9 I ?_
 refine QQ I (λhc2=>?_) λhc2=>?_
 ·have h12:0<n:=tD<|wi hc2
  refine wA 2 I<|QI I (λ_ _ f k=>VC f) λ_=>QA (JL (i:=1) rfl rfl XF Jd O)<|QW (vs:=[tx [49],tx [49]]) I I I Jd I .here (by have h9:=Xcr (l:=(Ek 0 n).set 0 t) (rest:=rest7) (i:=1) (by rw[aM,Xa1];omega) (1,1);unfold LP at h9;rw[Xcw]at h9;exact h9) wm<|wY<|wa<|VI (b:=b7) .here<|wD 5 I ?_
  exact QP ((⟨some ⟨b7,0,none⟩,n+1,cc7⟩:Sr)) rfl (wT rfl) (rfl) λF ⟨⟨hT,_⟩,hz⟩=>(by obtain⟨m,rfl⟩:∃m,n=m+1:=⟨n-1,O⟩;rw[<-Xce];exact Xbr hz (by rw[aM,aM,Xa1]))
 have h12:n=0:=tD<|wj hc2
 refine wC 4 I<|VI (b:=b7) .here<|wD 5 I ?_
 exact QP ((⟨some ⟨b7,0,none⟩,n+1,cc7⟩:Sr)) I (wT I) (rfl) λF ⟨hT,hz⟩=>(by subst h12;rw[<-Xcf];exact Xbr hz (by rw[aM,Xa1]))
theorem Xcm{q:Option Addr}{np cp:Nat}{ps:List V0}{all:List (List XP)}{n:Nat}(hF:Fits F w)(hR:Qy F q np 2 (ps.flatMap VM))(hA:Yy F ps)(hnp:ps.length=np)(hck:∀t∈ps,Jp t.f=0)(hx:Xa6 F ra ls all)(hb:np<=1000000/\ra.n<=1000000/\n<=1000)(ho:Xd2 (ps.map R6) all n):QU prog 120 [.slice q np cp,ra.v,.int .i64 (n:Int)] w F (λ(c:Sr)=>c.v) (λc F=>QxR F c (Vw (ps.map R6) all n)):=by
 have hxl:=hx.len;have hvl:=hx.YI;have hPl:(ps.map R6).length=ps.length:=by rw[ag]
 refine QU.intro (G:=λF=>Qy F q np 2 (ps.flatMap VM)/\Yy F ps/\Xa6 F ra ls all) func120 rfl tH rfl rfl hF (λF' hF'=>⟨hR.le hF',hA.le hF',hx.le hF'⟩)<|wa<|wZ rfl<|wa<|wW rfl ?_
 rw[<-Xb8];refine QI I (λ_ _ f k=>Xaw (a:=0) (n:=n) f O) (λc13=>wD 10 I<|JU (ι:=SqJ ps.length) [(0,_),(1,_),(2,_)] (λi=>[(7,.slice i.c.q i.c.n i.c.cap),(8,.int .i64 ((i.i:Nat):Int))]) (λi=>[]) (λi F=>QxR F i.c (Vw ((ps.map R6).take i.i) all n)) (λi=>ps.length-i.i) (⟨0,c13,ak _⟩) wu wm we tO λi=>?_);simp only[ab,ae];have hi:=i.le;refine wA 5 I<|QA (Qg I Zg)<|wD 3 I ?_
 refine QQ I (λhc2=>?_) λhc2=>?_
 ·have hlt:i.i<ps.length:=tD<|wi hc2
  have hem:=Qw hlt;have hmem:(Qz (el ps i.i).f,(el ps i.i).k)∈(ps.map R6):=aP (f:=R6) hem;have hks:=(ho.ks _ hmem);have homn:=ho.mn _ hmem;refine wC 8 I<|QA (Q3 (n:=np) i.i (λF h9=>h9.1.1.1) rfl rfl Zg Xh O)<|QA (QH I GM JF)<|QA (JA (n:=np) ((i.i)*2+0) (λF h9=>h9.1.1.1) O rfl JF (JN (f:=VM) (l:=ps) YR O rfl))<|wW I<|QI I (λ_ _ f k=>Xbu (n:=n) f (hck _ hem) O) λc26=>wD 10 I<|JU (ι:=SqJ all.length) [(0,_),(1,_),(2,_),(7,_),(8,_)] (λi2=>[(9,.slice i2.c.q i2.c.n i2.c.cap),(10,.int .i64 ((i2.i:Nat):Int))]) (λi2=>[]) (λi2 F=>QxR F i2.c (B4 (Qz (el ps i.i).f) (el ps i.i).k all n i2.i)) (λi2=>all.length-i2.i) (⟨0,c26,ak _⟩) wy wm we tO λi2=>?_
  simp only[ab,ae];have hi2:=i2.le;refine wA 5 I<|QA (Qg I Sk)<|wD 3 I ?_
  refine QQ I (λhc2=>?_) λhc2=>?_
  ·have hlt2:i2.i<all.length:=tD<|wi hc2
   have hort:=ho.rt _ hmem _ hlt2;refine XV _ (λ_ _ f k=>(k.1.1.1.1.2.1 _ hem).2.1) (λhkl=>?_);have hkn:=hks.1;dsimp only at hkn;have hk0:=hks.2 (Qm (el ps i.i).k i2.i) (ja O);refine wC 10 I<|JU (ι:=SqJ (Qm (el ps i.i).k i2.i).toNat) [(0,_),(1,_),(2,_),(7,_),(8,_),(10,_)] (λi3=>[(9,.slice i3.c.q i3.c.n i3.c.cap),(11,.int .i64 ((i3.i:Nat):Int))]) (λi3=>[]) (λi3 F=>QxR F i3.c (NW (B4 (Qz (el ps i.i).f) (el ps i.i).k all n i2.i) (el all i2.i) i3.i)) (λi3=>(Qm (el ps i.i).k i2.i).toNat-i3.i) (⟨0,i2.c,ak _⟩) wz wm we tO λi3=>?_
   simp only[ab,ae];have hi3:=i3.le;refine wA 6 I<|QA (Q3 (n:=np) i.i (λF h9=>h9.1.1.1.1.1.1) rfl rfl Zg Xh O)<|QA (QH I Yh JM)<|QA (JA (n:=np) ((i.i)*2+1) (λF h9=>h9.1.1.1.1.1.1) O rfl JM (JN (f:=VM) (l:=ps) YR O rfl))<|wW I<|QA (Q3 (n:=(el ps i.i).r.n) (i2.i) (λF h9=>((h9.1.1.1.1.1.2.1 _ hem)).1) rfl rfl Q2 JK O)<|QA (JA (n:=(el ps i.i).r.n) ((i2.i)*1) (λF h9=>((h9.1.1.1.1.1.2.1 _ hem)).1) O rfl JK (Jz (o:=(el ps i.i).k) O))<|wD 3 I ?_
   refine QQ I (λhc2=>?_) λhc2=>?_
   ·have hlt3:i3.i<(Qm (el ps i.i).k i2.i).toNat:=tD<|wi hc2
    refine wC 8 I<|QA (Q3 (n:=ra.n) (i2.i) (λF h9=>h9.1.1.1.1.1.2.2.row) rfl rfl Sk J0 O)<|QA (JA (n:=ra.n) ((i2.i)*1) (λF h9=>h9.1.1.1.1.1.2.2.row) O rfl J0 (XT (f:=Sr.v) (l:=ls) O))<|QI I (λ_ _ g h=>Xaj (va:=(NW (B4 (Qz (el ps i.i).f) (el ps i.i).k all n i2.i) (el all i2.i) i3.i)) (vb:=el all i2.i) g h.2 (h.1.1.1.1.1.2.2.q _ O) (by rw[BA,Kf,ho.len _ hlt2];exact ai _) (by have h8:=h.2.len;rw[BA,Kf]at h8;omega) (hort _ O)) λc50=>wB 2 I<|Qj<|wE 3 I<|QA (Qu I I O)<|wB 2 I ?_
    exact Ql (⟨i3.i+1,c50,hlt3⟩) (by show(Qm (el ps i.i).k i2.i).toNat-(i3.i+1)<(Qm (el ps i.i).k i2.i).toNat-i3.i;omega) w8 we λF ⟨⟨⟨⟨⟨⟨⟨hR,hA,hx⟩,h13⟩,hS⟩,h26⟩,hY⟩,hY3⟩,h50⟩=>⟨⟨⟨⟨⟨⟨hR,hA,hx⟩,h13⟩,hS⟩,h26⟩,hY⟩,by show QxR F c50 (NW (B4 (Qz (el ps i.i).f) (el ps i.i).k all n i2.i) (el all i2.i) (i3.i+1));rw[Xbv];exact h50⟩
   have hge3:i3.i=(Qm (el ps i.i).k i2.i).toNat:=tD<|wj hc2
   refine Qx ?_
   repeat first|refine QY ?_|refine QO tH ?_
   refine QZ<|Qj<|wE 3 I<|QA (Qu I I O)<|wB 2 I ?_
   exact Ql (⟨i2.i+1,i3.c,hlt2⟩) (by show all.length-(i2.i+1)<all.length-i2.i;omega) w6 we λF ⟨⟨⟨⟨⟨⟨hR,hA,hx⟩,h13⟩,hS⟩,h26⟩,hY⟩,hY3⟩=>⟨⟨⟨⟨⟨hR,hA,hx⟩,h13⟩,hS⟩,h26⟩,by show QxR F i3.c (B4 (Qz (el ps i.i).f) (el ps i.i).k all n (i2.i+1));rw[Xbw];have h8:=hY3;rw[hge3]at h8;exact h8⟩
  have hi2e:i2.i=all.length:=tD<|wj hc2
  refine Qx ?_
  repeat first|refine QY ?_|refine QO tH ?_
  refine QZ<|wE 4 I<|QI I (λ_ _ g h=>Xam (va:=Vw ((ps.map R6).take i.i) all n) (vb:=B4 (Qz (el ps i.i).f) (el ps i.i).k all n all.length) g h.1.1.2 (by have h8:=h.2;rw[hi2e]at h8;exact h8) (by rw[KI,Kf];exact ai _) (by have h8:=h.1.1.2.len;rw[KI]at h8;omega) (ho.sm _ O) homn) λc53=>wB 2 I<|Qj<|wE 3 I<|QA (Qu I I O)<|wB 2 I ?_
  exact Ql (⟨i.i+1,c53,hlt⟩) (by show ps.length-(i.i+1)<ps.length-i.i;omega) wy we λF ⟨⟨⟨⟨⟨⟨hR,hA,hx⟩,h13⟩,hS⟩,h26⟩,hY⟩,h53⟩=>⟨⟨⟨hR,hA,hx⟩,h13⟩,by show QxR F c53 (Vw ((ps.map R6).take (i.i+1)) all n);rw[Xb7 (by rw[hPl];exact hlt),Xcx hlt];exact h53⟩
 have hge:ps.length<=i.i:=tD<|wj hc2
 refine Qx ?_
 repeat first|refine QY ?_|refine QO tH ?_
 refine QZ<|wE 8 I ?_
 exact QP (i.c) rfl (wT I) (rfl) λF ⟨⟨⟨hR,hA,hx⟩,h13⟩,hS⟩=>(by have h8:=hS;rw[List.take_of_length_le (by rw[hPl];exact hge)]at h8;exact h8)
structure jT(Z D T S:Nat)(ps:List V0)(bs:List XP):Prop where
 poc:ke Z D T bs.length (ps.map R6)
 ck:∀t∈ps,Jp t.f=0
 sz:∀x∈bs,Xf x S
 s1:S<=2000
 n1:Z+D*(S+1)<=45000
 n2:CO Z D T S<=90000
def QA5(h:i<y.rl.length):el y.rs i=(el y.rl i).2.map R6:=by
 unfold Xz.rs;rw[Jb (by simpa using h),bH,Jb h,Mo]
structure Xf4(Z D T S:Nat)(y:Xz)(fr t2:Rat)(x on:List XP):Prop where
 ev:∀i,i<y.rl.length->jT Z D T S (el y.rl i).2 ((fr,t2)::on)
 ft:JW fr<=2000/\JW t2<=2000
 x:∀a∈x,Xf a 90000
 pl:∀e∈y.rl,e.2.length=e.1.n/\e.1.n<=1000
 n1:∀i,i<y.rl.length->Xf (J3 ((fr,t2)::on) (el y.rs i)) 40000
def Xc9{vs:List Value}{z v:Value}(h:vs.length=i)(hi:i<n):VG (vs++Xg [z] (n-i)) (0+i*1) [v] ((vs++[v])++Xg [z] (n-(i+1))):=xo h hi
def Xas(F:Gs)(ls:List Sr)(f:Nat->List XP):Prop:=∀j,j<ls.length->QxR F (el ls j) (f j)
def Xas.snoc{f:Nat->List XP}{c:Sr}(h:Xas F ls f){i:Nat}(hi:ls.length=i)(hc:QxR F c (f i)):Xas F (ls++[c]) f:=λj hj=>by
 rw[au,List.length_singleton]at hj;rcases Nat.lt_or_ge j ls.length with g | g
 ·rw[Uf g];exact h j g
 have e:j=ls.length:=O;subst e;rw[G5 I,hi];exact hc
theorem Xas.row{vs:List (List XP)}(h:Xas F ls (el vs))(hb:F b=some ((ls.map Sr.v++Xg [.slice none 0 0] (n-ls.length)).toArray,36))(hl:ls.length=n)(hv:vs.length=n):Xa6 F ⟨some ⟨b,0,none⟩,n,n⟩ ls vs :=
 ⟨Qy.pre hb (by rw[ag,hl,Nat.mul_one]),hl,hv,λi hi=>h i (by rw[hl];exact hi)⟩
def Xa6.cons{q:Option Addr}{s:Sr}{v:List XP}{vs:List (List XP)}(hr:Qy F q (1+n) 1 ([s].map Sr.v++ls.map Sr.v))(hs:QxR F s v)(h:∀i,i<n->QxR F (el ls i) (el vs i))(hl:ls.length=n)(hv:vs.length=n):Xa6 F ⟨q,1+n,c⟩ (s::ls) (v::vs) :=
 ⟨by rw[List.map_cons];exact hr,by rw[ao,hl,bP],by rw[ao,hv,bP],λi hi=>by
  cases i with
  |zero=>exact hs
  |succ i=>exact h i (by dsimp only at hi;omega)⟩
theorem ui(l:List XP):∀v∈l.flatMap LP,v.oneCell'=true:=λv hv=>by obtain⟨s,_,h⟩:=List.mem_flatMap.1 hv;exact QEi s v h
def Xco{k:Nat}:Rat.divInt 1 ((k:Int)+1)=((((k+1:Nat):Int):Rat)⁻¹):=by
 rw[Rat.divInt_eq_div,Rat.div_def,Rat.intCast_one,Rat.one_mul];rfl
def Xck(h:k<=1000):Xf (((((k+1:Nat):Int):Rat)⁻¹,(((k+1:Nat):Int):Rat)⁻¹):XP) 45000:=by
 have h1:JW (((k+1:Nat):Int):Rat)⁻¹<=45000:=aJ (Np (by show((k+1:Nat):Int)≠0;omega)) (by have h1:=GK ((k+1:Nat):Int);have h2:sz ((k+1:Nat):Int)<=40:=(XD _ 40).2 O;omega);exact⟨h1,h1⟩
section
variable{P:Program}{Q:Exit->Act->World->Prop}{N:Nat}{m:Sl}{ops:Array Oper}{l:List Oper}{w0:World}{F0:Gs}{bs:List (Nat×Obj)}{G:Gs->Prop}{ty:TypeId}{pos:String}{aft:Array Edge}{E0:Env}
theorem Xag{d:Nat}{t e:TypeId}{sz:Nat}{g:Bool}(ht:P.underlying t=some (.slice e))(hs:Z5 P e=some (g,sz))(k:∀b,JD P ops Q E0 l N ((d,.slice (some ⟨b,0,none⟩) 0 0)::m) ⟨w0,F0,(b,.cells #[] e (0,0))::bs,G⟩)(hu:Hi e=true:=by rfl)(hd:J5 N (some d)=true:=by rfl):
  JD P ops Q E0 (⟨some d,.buildSlice t 0 #[],ty,pos,aft,none⟩::l) N m ⟨w0,F0,bs,G⟩:=λhE a w ha hw=>by
 have hS:=hw.alloc (.cells #[] e (0,0)) (ZN hu);have sub:∀w' b,St ⟨w0,F0,(b,.cells #[] e (0,0))::bs,G⟩ w'->St E0 w':=λw' b h=>hE w' (h.imp (List.sublist_cons_self _ _) λ_ h=>h);refine .inr ⟨rfl,?_⟩;rw[if_pos (by simp[Region.wanted])];refine upon_value (v:=.slice (some ⟨w.heap.size,0,none⟩) 0 0) (w':=w.alloc (.cells #[] e)) ?_ ⟨sub _ _ hS,k _ (λw' h=>sub w' _ h) _ _ (ha.put hd _) hS⟩;have hrun:(bD t 0 #[]).run P w = .ok (.slice (some ⟨w.heap.size,0,none⟩) 0 0) (w.alloc (.cells #[] e)):=by
  have hf:bQ (λi=>some (i*sz,sz)) (Array.map (λx=>(#[]:Array Value)[x%(#[]:Array Value).size]!) (Array.range 0)) []=some #[]:=by simp[bQ]
  simp only[bD,Sem.run_bind,run_underlying ht,Result.andThen_ok,K4 hs,bO,if_neg (show ¬0>2^24 by omega),Sem.run_pure,if_true,hf,newRow,run_newObj];rfl
 simp[execOp,hrun]
end
structure SrJ(n:Nat) where
 i:Nat
 ls:List Sr
 le:i<=n
 len:ls.length=i
structure SrK(n:Nat) where
 k:Nat
 c:Sr×List Sr
 le:k<=n
structure Xch(rs:List (List Tm))(t:XP)(vb:List XP)(n:Nat):Prop where
 ra:∀k,k<n->∀i,i<rs.length->Xd2 (el rs i) (KC t k::J1 rs t vb k) k
 cf:∀k,k<n->∀i,i<rs.length->Xf (el (Vw (el rs i) (KC t k::J1 rs t vb k) k) k) 45000
theorem Xcj{rs:List (List Tm)}{t:XP}(h:i<vb.length):el (J1 rs t vb 0) i=[el vb i]:=by
 show el (vb.map λx=>[x]) i=_;rw[Jb (by rw[ag];exact h),bH,Jb h]
def Xci{rs:List (List Tm)}{t:XP}{k:Nat}(h:i<vb.length):el (J1 rs t vb (k+1)) i=el (J1 rs t vb k) i++[Jg (el (Vw (el rs i) (KC t k::J1 rs t vb k) k) k) ((((k+1:Nat):Int):Rat)⁻¹,(((k+1:Nat):Int):Rat)⁻¹)]:=by
 rw[J1,VR _ h]
theorem Xbt{t:XP}{n:Nat}(hF:Fits F w)(hy:X4 F y)(hb:QxR F rb vb)(hl:vb.length=y.rl.length)(hbn:rb.n<=1000/\n<=999)(hpl:∀e∈y.rl,e.2.length=e.1.n/\e.1.n<=1000/\∀t∈e.2,Jp t.f=0)(ho:Xch y.rs t vb n):QU prog 33 [y.v,kh t,rb.v,.int .i64 (n:Int)] w F (λ(c:Sr×List Sr)=>c.1.v) (λc F=>Xa6 F c.1 c.2 (J1 y.rs t vb n)):=by
 have hbl:=hb.len;have hrl:=hy.Ka;have hrs:y.rs.length=y.rl.length:=by unfold Xz.rs;rw[ag]
 refine QU.intro (G:=λF=>X4 F y/\QxR F rb vb) func33 rfl tH rfl rfl hF (λF' hF'=>⟨hy.le hF',hb.le hF'⟩)<|wa<|Qp rfl (vs:=[_,_,_]) rfl λb4=>Qp rfl (vs:=[_,_]) rfl λb5=>wZ rfl<|wb rfl<|QA (Qg rfl XF)<|Mm (n:=rb.n) (bytes:=24) rfl rfl Sk J0 QEI rfl QFb O O λbo=>wZ rfl<|QG<|wa<|wZ rfl<|QV<|JU (ι:=SrJ rb.n) [(2,_),(3,_),(4,_),(5,_),(9,_)] (λi=>[(10,.int .i64 ((i.i:Nat):Int))]) (λi=>(bo,.cells (i.ls.map Sr.v++Xg [.slice none 0 0] (rb.n-i.i)).toArray 36 (0,0))::(b5,.cells [tx (JP t.1),tx (JP t.2)].toArray 40 (0,0))::(b4,.cells #[.slice y.nm.q y.nm.n y.nm.cap,.slice y.rt.q y.rt.n y.rt.cap,.slice y.st.q y.st.n y.st.cap] 38 (0,0))::[]) (λi F=>Xas F i.ls λj=>[el vb j]) (λi=>rb.n-i.i) (⟨0,[],ak _,rfl⟩) wy wk we (λ_ _ j hj=>by cases hj) λi=>?_
 simp only[ab,ae];have hi:=i.le;refine wA 5 I<|QA (Qg I XF)<|wD 3 I ?_
 refine QQ I (λhc2=>?_) λhc2=>?_
 ·have hlt:i.i<rb.n:=tD<|wi hc2
  have hem:=Qw (show i.i<vb.length by omega);refine wC 9 I<|QA (Q3 (n:=rb.n) i.i (λF h9=>h9.1.2.row) rfl rfl XF Jd O)<|QA (JZ (n:=rb.n) (vs:=[tx (JP (el vb i.i).1),tx (JP (el vb i.i).2)]) ((i.i)*2) (λF h9=>h9.1.2.row) O rfl Jd I λj v hv=>JN (f:=LP) (l:=vb) uh O hv)<|Qb I (Q5 XF) Jd Xa I I λb31=>QA (JL (i:=i.i) rfl rfl Sk J0 O)<|QW (vs:=[.slice (some ⟨b31,0,none⟩) 1 1]) I I I J0 I .here (Xc9 (by rw[ag,i.len]) O) wk<|QE<|Qj<|wE 3 I<|QA (Qu I I O)<|wB 2 I ?_
  exact Ql (⟨i.i+1,i.ls++[⟨some ⟨b31,0,none⟩,1,1⟩],hlt,by rw[au,i.len];rfl⟩) (by show rb.n-(i.i+1)<rb.n-i.i;omega) wz ((by rw[bc];exact ay _)) λF h9=>⟨⟨h9.1.1.1,h9.1.1.2⟩,h9.1.2.snoc i.len ⟨Qy.of h9.2 I,rfl⟩⟩
 have hge:i.i=rb.n:=tD<|wj hc2
 refine Qx ?_
 repeat first|refine QY ?_|refine QO tH ?_
 refine QZ<|wE 3 I<|DP (b:=bo) .here<|wC 5 I<|JU (ι:=SrK n) [(2,_),(3,_),(4,_),(5,_)] (λi2=>[(9,.slice i2.c.1.q i2.c.1.n i2.c.1.cap),(11,.int .i64 ((i2.k:Nat):Int))]) (λi2=>(b5,.cells [tx (JP t.1),tx (JP t.2)].toArray 40 (0,0))::(b4,.cells #[.slice y.nm.q y.nm.n y.nm.cap,.slice y.rt.q y.rt.n y.rt.cap,.slice y.st.q y.st.n y.st.cap] 38 (0,0))::[]) (λi2 F=>Xa6 F i2.c.1 i2.c.2 (J1 y.rs t vb i2.k)) (λi2=>n-i2.k) (⟨0,(⟨some ⟨bo,0,none⟩,rb.n,rb.n⟩,i.ls),ak _⟩) wv wm we (λF h9=>Xas.row (λj hj=>by have hj:j<i.ls.length:=hj;rw[Xcj (tD i.len)];exact h9.1.2 j hj) (by rw[i.len];exact h9.2) (by rw[i.len];exact hge) (by rw[WV];exact hbl)) λi2=>?_
 simp only[ab,ae];have hk:=i2.le;refine wA 8 I ?_;refine QQ I (λhc2=>?_) λhc2=>?_
 ·have hk2:i2.k<n:=tD<|wi hc2
  refine XV _ (λw F hF ⟨⟨⟨⟨hy,hb⟩,hL⟩,hz⟩,hS⟩=>aR hS.len (aR hS.YI hS.row.cM)) (λhcl=>?_);obtain⟨hcl,hcv,hcn⟩:=hcl;have hcv2:=hcv;rw[WV]at hcv2;refine wC 6 I<|QA (wN I Jd .here)<|wW I<|QI I (λ_ _ f h=>Xc8 (t:=t) (n:=i2.k) f O) λc40=>Y2 I (Q5 Sk) J0 QEI I I λb41=>wW I<|ZL (av (l₁:=[_]))<|Z4 (bs1:=[_,_]) (ob:=[_]) (n:=1) (k:=i2.c.1.n) (sz:=1) (news:=i2.c.2.map Sr.v) rfl rfl Sk J0 QEI I QFb (.some (l:=[c40].map Sr.v) (rest:=[]) I I (ai _) tF) (Src.gR hcn (λF h9=>h9.1.2.row) (by rw[ag,hcl];omega)) O O (λv hv=>by obtain⟨s,_,rfl⟩:=List.mem_map.1 hv;rfl) λv43 ob43 hr43=>?_
  obtain⟨⟨rq,rn,rc⟩,hv2,hrn,hrc,hfix⟩:=Q8.fix (w0:=w) (F0:=F) (bs1:=[_,_]) (G:=_) hr43;dsimp only at hrn hrc hfix;subst hrn;refine Zj hfix ?_;rw[hv2];dsimp only[Sr.v];refine wZ rfl<|wb rfl<|QA (Qg rfl XF)<|Mm (n:=rb.n) (bytes:=24) rfl rfl Sk J0 QEI rfl QFb O O λbn=>wZ rfl<|QG<|wa<|wZ rfl<|QV<|JU (ι:=SrJ rb.n) [(2,_),(3,_),(4,_),(5,_),(9,_),(11,_),(12,_),(13,_)] (λi3=>[(14,.int .i64 ((i3.i:Nat):Int))]) (λi3=>(bn,.cells (i3.ls.map Sr.v++Xg [.slice none 0 0] (rb.n-i3.i)).toArray 36 (0,0))::(b5,.cells [tx (JP t.1),tx (JP t.2)].toArray 40 (0,0))::(b4,.cells #[.slice y.nm.q y.nm.n y.nm.cap,.slice y.rt.q y.rt.n y.rt.cap,.slice y.st.q y.st.n y.st.cap] 38 (0,0))::[]) (λi3 F=>Xas F i3.ls (el (J1 y.rs t vb (i2.k+1)))) (λi3=>rb.n-i3.i) (⟨0,[],ak _,rfl⟩) w8 wk we (λ_ _ j hj=>by cases hj) λi3=>?_
  simp only[ab,ae];have hi3:=i3.le;refine wA 5 I<|QA (Qg I XF)<|wD 3 I ?_
  refine QQ I (λhc2=>?_) λhc2=>?_
  ·have hlt3:i3.i<rb.n:=tD<|wi hc2
   have hlt2:i3.i<y.rl.length:=O;have hem2:=Qw hlt2;refine XV _ (λw F hF ⟨⟨⟨⟨⟨⟨⟨hy,hb⟩,hL⟩,hz⟩,hS⟩,h40⟩,hall0⟩,hL3⟩=>aR (hS.q i3.i O).len (hS.q i3.i O).row.cM) (λhln=>?_);obtain⟨hln,hn0⟩:=hln;have hln0:=hln;rw[VO _ _ _ _ O]at hln;have hiv:=Xck (k:=i2.k) O;refine wC 6 I<|QA (QH I VY Z6)<|QA (Qe I Z6 .u2 (.skip .h1))<|wW I<|QA (Q3 (n:=y.rt.n) (i3.i) (λF h9=>h9.1.1.1.1.1.1.1.rt) rfl rfl VJ Vu O)<|QA (JA (n:=y.rt.n) ((i3.i)*1) (λF h9=>h9.1.1.1.1.1.1.1.rt) O rfl Vu (XT (f:=λe:NQ=>e.1.v) (l:=y.rl) O))<|wB 2 I<|QI I (λ_ _ f h=>Xcm (ps:=(el y.rl i3.i).2) (ra:=⟨rq,1+i2.c.1.n,rc⟩) (ls:=c40::i2.c.2) (all:=(KC t i2.k::J1 y.rs t vb i2.k)) (n:=i2.k) (q:=(el y.rl i3.i).1.q) (np:=(el y.rl i3.i).1.n) (cp:=(el y.rl i3.i).1.cap) f (h.1.1.1.1.1.1.1.pl _ hem2).1 (h.1.1.1.1.1.1.1.pl _ hem2).2 (hpl _ hem2).1 (hpl _ hem2).2.2 (Xa6.cons h.1.2 h.1.1.2 h.1.1.1.2.q hcl hcv) ⟨tD<|(hpl _ hem2).2.1,by dsimp only;omega,O⟩ (by rw[<-QA5 hlt2];exact ho.ra _ hk2 _ O)) λc60=>?_
   rw[<-QA5 hlt2];refine JQ _ (λ_ _ f k=>k.2.len) (λhn60=>?_);have hn60b:=hn60;rw[KI]at hn60;refine wZ I<|Jq 20 (.cons _ tS) mixed tE tE ?_
   simp only[aO,aN,aQ,bh];refine QK (QD I)<|QK (QD I)<|Xag (Q5 XF) Jd λb63=>QK (QD I)<|QK (QD I)<|QK (Q3 (n:=i2.c.1.n) (i3.i) (λF h9=>h9.1.1.1.1.2.row) rfl rfl Sk J0 O)<|QK (JA (n:=i2.c.1.n) ((i3.i)*1) (λF h9=>h9.1.1.1.1.2.row) O rfl J0 (XT (f:=Sr.v) (l:=i2.c.2) O))<|Yz (ob:=[(b63,.cells ([]++[]:List Value).toArray 40 (0,0))]) (n:=0) (k:=(el i2.c.2 i3.i).n) (sz:=2) (news:=(el (J1 y.rs t vb i2.k) i3.i).flatMap LP) rfl rfl XF Jd Xa I QAH (.some rfl rfl (ai _) tF) (Src.gR hn0 (λF h9=>(h9.1.1.1.1.2.q _ O).row) (by rw[QCn];omega)) O O (ui _) (.cons _ we) tM λv68 ob68 hr68=>?_
   rw[aI,ae]at hr68;refine QK (QD I)<|QK (QD I)<|QK (Q3 (n:=c60.n) (i2.k) (λF h9=>h9.2.row) rfl rfl XF Jd O)<|QK (JZ (n:=c60.n) (vs:=[tx (JP (el (Vw (el y.rs i3.i) (KC t i2.k::J1 y.rs t vb i2.k) i2.k) (i2.k)).1),tx (JP (el (Vw (el y.rs i3.i) (KC t i2.k::J1 y.rs t vb i2.k) i2.k) (i2.k)).2)]) ((i2.k)*2) (λF h9=>h9.2.row) O rfl Jd I λj v hv=>JN (f:=LP) (l:=(Vw (el y.rs i3.i) (KC t i2.k::J1 y.rs t vb i2.k) i2.k)) uh O hv)<|QK (QD I)<|QK (Qu I I O)<|QR I (λ_ _ f h=>QG2 (num:=1) (den:=(i2.k:Int)+1) f tF O O) λc75=>?_
   rw[Xco];refine QR I (λ_ _ f k=>VC f) (λ_=>QR I (λ_ _ f h=>QEl (a:=el (Vw (el y.rs i3.i) (KC t i2.k::J1 y.rs t vb i2.k) i2.k) i2.k) (b:=(((((i2.k+1:Nat):Int):Rat)⁻¹),((((i2.k+1:Nat):Int):Rat)⁻¹))) f (ho.cf _ hk2 _ O) hiv) λ_=>?_);refine Qo I (Q5 XF) Jd Xa I I (λb78=>?_) (λw h=>h.imp ((bS _ we).trans (List.sublist_append_right _ _)) λF h=>h.1.1.1);refine Yz (ob:=ob68) (n:=(el i2.c.2 i3.i).n) (k:=1) (sz:=2) (news:=LP (Jg (el (Vw (el y.rs i3.i) (KC t i2.k::J1 y.rs t vb i2.k) i2.k) i2.k) (((((i2.k+1:Nat):Int):Rat)⁻¹),((((i2.k+1:Nat):Int):Rat)⁻¹)))) I I XF Jd Xa I QAH hr68 (Src.row (off:=0) tO (λj q hq=>by rw[aI];rw[aB];exact hq) rfl) O O (QEi _) (.cons _ we) (λ_ h=>h.1.1.1.1) (λv79 ob79 hr79=>?_);rw[<-CK,<-Xci O]at hr79;refine QK (JL (i:=i3.i) rfl rfl Sk J0 O)<|ZS<|ZL (av (l₁:=ob79)) ?_
   obtain⟨⟨rq2,rn2,rc2⟩,hv3,hrn2,hrc2,hfix2⟩:=Q8.fix (w0:=w) (F0:=F) (bs1:=[_,_,_]) (G:=_) hr79;dsimp only at hrn2 hrc2 hfix2;subst hrn2;refine Zj hfix2 ?_;rw[hv3];refine QW (vs:=[.slice rq2 ((el i2.c.2 i3.i).n+1) rc2]) I I I J0 I .here (Xc9 (by rw[ag,i3.len]) O) wk<|QE<|Qj<|wE 3 I<|QA (Qu I I O)<|wB 2 I ?_
   exact Ql (⟨i3.i+1,i3.ls++[⟨rq2,(el i2.c.2 i3.i).n+1,rc2⟩],hlt3,by rw[au,i3.len];rfl⟩) (by show rb.n-(i3.i+1)<rb.n-i3.i;omega) w9 ((by rw[bc];exact ay _)) λF ⟨⟨⟨⟨⟨⟨⟨⟨⟨⟨⟨⟨⟨hy,hb⟩,hL⟩,hz⟩,hS⟩,h40⟩,hall0⟩,hL3⟩,h60⟩,_⟩,_⟩,_⟩,hs78⟩,hq79⟩=>⟨⟨⟨⟨⟨⟨⟨hy,hb⟩,hL⟩,hz⟩,hS⟩,h40⟩,hall0⟩,hL3.snoc i3.len ⟨hq79,by rw[VO _ _ _ _ O,<-hln]⟩⟩
  have hge3:i3.i=rb.n:=tD<|wj hc2
  refine Qx ?_
  repeat first|refine QY ?_|refine QO tH ?_
  refine QZ<|QC<|DP (b:=bn) .here<|wA 4 I<|Qj<|wE 3 I<|QA (Qu I I O)<|wB 2 I ?_
  exact Ql (⟨i2.k+1,(⟨some ⟨bn,0,none⟩,rb.n,rb.n⟩,i3.ls),hk2⟩) (by show n-(i2.k+1)<n-i2.k;omega) wz we λF ⟨⟨⟨⟨⟨⟨⟨⟨hy,hb⟩,hL⟩,hz⟩,hS⟩,h40⟩,hall0⟩,hL3⟩,hz3⟩=>⟨⟨⟨⟨hy,hb⟩,hL⟩,hz⟩,Xas.row (λj hj=>hL3 j hj) (by rw[i3.len];exact hz3) (by rw[i3.len];exact hge3) (by rw[WV];omega)⟩
 have hge2:i2.k=n:=tD<|wj hc2
 refine Qx ?_
 repeat first|refine QY ?_|refine QO tH ?_
 refine QZ<|wE 8 I ?_
 exact QP (i2.c) rfl (wT I) (rfl) λF ⟨⟨⟨⟨hy,hb⟩,hL⟩,hz⟩,hS⟩=>(by rw[hge2]at hS;exact hS)
def Sw(l:List Rat):Nat:=l.foldr (λr q=>r.den*q) 1
def Mw:∀l:List Rat,0<Sw l
 |[]=>Nat.one_pos
 |r::l=>bA r.den_pos (Mw l)
def xX:∀ {l:List Rat} {r:Rat},r∈l->r.den ∣ Sw l
 |a::l,r,h=>by
  rcases List.mem_cons.1 h with rfl | h
  ·exact aY _ _
  exact aH (xX h) (aL _ _)
theorem QCu:∀ {l:List Rat},(∀r∈l,JW r<=k)->sz ((Sw l:Nat):Int)<=l.length*k+1
 |[],_=>by rw[List.length_nil,bO];decide
 |r::l,h=>by
  have h1:=QCu λx hx=>h x (bw _ hx);have h2:sz (r.den:Int)<=k:=aJ (Nat.le_max_right _ _) (h r tJ);have h3:=K8 (r.den:Int) ((Sw l:Nat):Int);rw[<-bJ]at h3;show sz ((r.den*Sw l:Nat):Int)<=_;rw[ao,bB];omega
structure SmS(Z T D m:Nat)(rs:List (List Tm)):Prop where
 N4:∀p∈rs,∀u∈p,JW u.1<=Z/\Zz u.2 (m+1)<=D/\u.2.length=m+1/\∀k∈u.2,0<=k/\k<=12
 len:∀p∈rs,p.length<=T
 hn:rs.length=m
def Xar(rs:List (List Tm)):List Rat:=rs.flatMap λp=>p.map (·.1)
theorem Xb1:∀ {rs:List (List Tm)},(∀p∈rs,p.length<=T)->(Xar rs).length<=rs.length*T
 |[],_=>ak _
 |p::rs,h=>by
  have h1:=Xb1 λx hx=>h x (bw _ hx);have h2:=h p tJ;show(p.map (·.1)++Xar rs).length<=_;rw[au,ag,ao,bB];omega
def Xbp(rs:List (List Tm))(l:List Rat):Nat:=60*(Sw (Xar rs)*Sw l)
def Xa4(rs:List (List Tm))(l:List Rat):0<Xbp rs l:=bA tF (bA (Mw _) (Mw _))
theorem Xcq{Z:Nat}{rs:List (List Tm)}{l:List Rat}(h:SmS Z T D m rs)(hl:∀r∈l,JW r<=B):sz ((Xbp rs l:Nat):Int)<=8+m*T*Z+l.length*B:=by
 have h1:=QCu (l:=Xar rs) (k:=Z) λr hr=>by
  obtain⟨p,hp,hr⟩:=List.mem_flatMap.1 hr;obtain⟨u,hu,rfl⟩:=List.mem_map.1 hr;exact(h.N4 p hp u hu).1
 have h2:=QCu hl;have h3:=K8 ((60:Nat):Int) ((Sw (Xar rs)*Sw l:Nat):Int);have h4:=K8 ((Sw (Xar rs):Nat):Int) ((Sw l:Nat):Int);have h5:sz ((60:Nat):Int)=6:=tF;have h6:(Xar rs).length*Z<=m*T*Z:=aj _ (h.hn ▸ Xb1 h.len);rw[<-bJ]at h3 h4;show sz ((60*(Sw (Xar rs)*Sw l):Nat):Int)<=_;omega
def Xcd{rs:List (List Tm)}{l:List Rat}{r:Rat}(h:r∈l):r.den ∣ Xbp rs l:=aH (xX h) (aH (aL _ _) (aL _ _))
def QHp{Q:Nat}{r:Rat}(h0:0<Q)(hd:r.den ∣ Q)(hs:JW r<=B):Cl Q 1 B r:=Cl.of r h0 hd (aJ (Nat.le_max_left _ _) hs)
def Xa7{rs:List (List Tm)}{l:List Rat}{r:Rat}(h:r∈l)(hl:∀r∈l,JW r<=B):Cl (Xbp rs l) 1 B r:=QHp (Xa4 _ _) (Xcd h) (hl r h)
def Uc(vb:List XP):List Rat:=vb.flatMap λs=>[s.1,s.2]
def QAA:∀vb:List XP,(Uc vb).length=2*vb.length
 |[]=>rfl
 |a::vb=>by show([a.1,a.2]++Uc vb).length=_;rw[au,QAA vb,ao];simp;omega
def cy{x:XP}(h:x∈vb):x.1∈Uc vb/\x.2∈Uc vb:=⟨List.mem_flatMap.2 ⟨x,h,tJ⟩,List.mem_flatMap.2 ⟨x,h,tJ⟩⟩
def Xcp(h:∀x∈vb,Xf x B):∀r∈Uc vb,JW r<=B:=λr hr=>by
 obtain⟨x,hx,hr⟩:=List.mem_flatMap.1 hr;simp only[bL,bF,or_false]at hr;rcases hr with rfl | rfl
 ·exact(h x hx).1
 exact(h x hx).2
theorem Xcs{Z:Nat}{rs:List (List Tm)}{t:XP}{l:List Rat}(h:SmS Z T D m rs)(hv:vb.length=m)(ht:t.1∈l/\t.2∈l)(hb:∀x∈vb,x.1∈l/\x.2∈l)(hl:∀r∈l,JW r<=B)(hZ:Z<=B)(hn:n<=5):jN (Xbp rs l) B D T n rs t vb:=by
 subst hv;refine⟨Xa4 _ _,λk hk=>QB4 (Xa4 _ _) (aH ?_ (aY 60 _)),λi hi u hu=>?_,λi hi=>h.len _ (Qw hi),⟨Xa7 ht.1 hl,Xa7 ht.2 hl⟩,λx hx=>⟨Xa7 (hb x hx).1 hl,Xa7 (hb x hx).2 hl⟩,h.hn⟩
 ·have:k=0\/k=1\/k=2\/k=3\/k=4:=O;rcases this with rfl | rfl | rfl | rfl | rfl<;>decide
 have h1:=h.N4 _ (Qw hi) u hu;refine⟨QHp (Xa4 _ _) ?_ (aJ h1.1 hZ),h1.2.1,h1.2.2.1,λk hk=>⟨(h1.2.2.2 k hk).1,tD<|(h1.2.2.2 k hk).2⟩⟩;refine aH (xX (l:=Xar rs) ?_) (aH (aY _ _) (aL _ _));exact List.mem_flatMap.2 ⟨_,Qw hi,aP (f:=λu:Tm=>u.1) hu⟩
theorem jN.rok{Q:Nat}{rs:List (List Tm)}{t:XP}(h:jN Q B D T n rs t vb)(hM:tyM Q B D T n<=45000):Xch rs t vb n:=by
 have hM0:=hM;unfold tyM at hM;have hq:∀u w:Nat,u<=w->u*sz (Q:Int)<=w*sz (Q:Int):=λu w g=>aj _ g;have hm:∀k,k<n->∀i,i<rs.length->∀u∈el rs i,∀v,v<=vb.length+1->Mg Q (D+1) (D*(B+(n+1))+T) (1+Zz u.2 v) (B+Zz u.2 v*(B+(n+1))) (B4 u.1 u.2 (KC t k::J1 rs t vb k) k v):=λk hk i hi u hu v hv =>
  zZ h.q0 (L:=n+1) (h.N4 i hi u hu).1 (Um h O) O v (by rw[W4];exact hv)
 have hs:∀i,i<rs.length->∀u∈el rs i,∀v,v<=vb.length+1->Zz u.2 v<=D/\Zz u.2 v*(B+(n+1))<=D*(B+(n+1)):=λi hi u hu v hv=>by
  have h1:=aJ (Dl u.2 hv) (h.N4 i hi u hu).2.1;exact⟨h1,aj _ h1⟩
 have q1:=hq ((D+1)*n+(1+D)) ((D+1)*n+(D+2)) O;have q2:=hq ((D+1)*n+1) ((D+1)*n+(D+2)) O;have q3:=hq ((D+1)*n+(1+D+1)) ((D+1)*n+(D+2)) O;refine⟨λk hk i hi=>⟨λv hv=>(Um h (k:=k) O v hv).2,λu hu=>⟨by rw[W4];exact(h.N4 i hi u hu).2.2.1,(h.N4 i hi u hu).2.2.2⟩,λu hu v hv j hj=>?_,λu hu=>?_,λj hj=>?_⟩,λk hk i hi=>?_⟩
 ·rw[W4]at hv;have h1:=hm k hk i hi u hu v O;have h2:=Um h (k:=k) O v (by rw[W4];exact hv);have h3:=xk h.q0 (L:=n+1) h1 h2.1 (by rw[Kf,h2.2];exact ai _) (by rw[Kf];omega) j;have h4:=hs i hi u hu (v+1) hv;have h5:Zz u.2 v+j<=Zz u.2 (v+1):=by show _<=Zz u.2 v+_;omega
  have h6:Zz u.2 v*(B+(n+1))+j*(B+(n+1))<=D*(B+(n+1)):=by rw[<-bB];exact aj _ O
  have h7:=h3.mono h.q0 (d':=1+D) (b':=B+D*(B+(n+1))) O O;have hlen:(NW (B4 u.1 u.2 (KC t k::J1 rs t vb k) k v) (el (KC t k::J1 rs t vb k) v) j).length=k+1:=by rw[BA,Kf]
  have e1:∀m,m<k+1->Xf (el (NW (B4 u.1 u.2 (KC t k::J1 rs t vb k) k v) (el (KC t k::J1 rs t vb k) v) j) m) 45000:=λm hm=>h7.Ux h.q0 (n:=n) O O _ (Qw O);have e2:∀m,m<k+1->Xf (el (el (KC t k::J1 rs t vb k) v) m) 45000:=λm hm=>h2.1.Ux h.q0 (n:=n) O O _ (Qw O);refine⟨λm hmk=>⟨e1 m O,e2 m O⟩,λm hmk i2 hi2=>(K7 (e1 i2 O) (e2 (m-i2) O)).mono tF,λm hmk i2 hi2=>?_⟩;have h8:=KA.Ux h.q0 (CU h.q0 h7 h2.1 hmk O i2 hi2);refine h8.mono ?_;have g1:(D*(B+(n+1))+T)*m<=(D*(B+(n+1))+T)*n:=aS _ O;have g2:((D+1)*m+(1+D+1))*sz (Q:Int)<=((D+1)*n+(1+D+1))*sz (Q:Int):=hq _ _ (by have:(D+1)*m<=(D+1)*n:=aS _ O;omega);omega
 ·rw[W4];have h1:=hm k hk i hi u hu (vb.length+1) (ai _);have h4:=hs i hi u hu (vb.length+1) (ai _);exact(h1.mono h.q0 (d':=1+D) (b':=B+D*(B+(n+1))) O O).Ux h.q0 (n:=n) (by rw[Kf];omega) O
 ·have hT:=h.len i hi;have h1:=T3 h.q0 (L:=n+1) (D:=D) (p:=el rs i) (n:=k) (λu hu=>⟨(h.N4 i hi u hu).1,by rw[W4];exact(h.N4 i hi u hu).2.1⟩) (Um h O) O j hj;exact h1.Ux h.q0 (n:=n) (by rw[KI];omega) O
 have hT:=h.len i hi;have h1:=T3 h.q0 (L:=n+1) (D:=D) (p:=el rs i) (n:=k) (λu hu=>⟨(h.N4 i hi u hu).1,by rw[W4];exact(h.N4 i hi u hu).2.1⟩) (Um h O) O (el rs i).length (ai _);rw[aZ]at h1;exact h1.Ux h.q0 (n:=n) (by rw[KI];omega) O _ (Qw (by rw[KI];omega))
def QEa:∀(ks:List Int) (m:Nat),(∀k∈ks,0<=k)->ks.length=m->((Zz ks m:Nat):Int)=ks.sum:=by
 intro ks;have key:∀(m:Nat) (ks:List Int),(∀k∈ks,0<=k)->m<=ks.length->((Zz ks m:Nat):Int)=(ks.take m).sum:=by
  intro m
  induction m with
  |zero=>intro ks _ _;rw[aN];rfl
  |succ m ih =>
   intro ks h hm;show((Zz ks m+(Qm ks m).toNat:Nat):Int)=_;rw[XE (show m<ks.length by omega),List.sum_append,Int.natCast_add,ih ks h O];have h1:=h (Qm ks m) (ja O);have h2:el ks m=Qm ks m:=(YW O).symm;rw[h2];simp;omega
 intro m h hl;rw[key m ks h O,<-hl,aZ]
theorem QGh{d z:Nat}(h:Uz s d=true)(hz:10^d<=2^z):JW (Qz s)<=z:=by
 simp only[Uz,ar,decide_eq_true_eq,beq_iff_eq]at h;obtain⟨_,hc,h1,h2⟩:=h;have hs:=(XM hc).1;generalize Qz s=x at hs;have key:∀n:Nat,(bj n).length<=d->n<2^z:=λn hn=>by
  have a:=Hb (Jy n);rw[Xi]at a;exact aT (aT a (Nat.pow_le_pow_right tF hn)) hz
 have e:numOf (JP x)=Ze x.num:=by
  unfold numOf;by_cases h:x.den=1
  ·obtain⟨h1,h2⟩:=LL h;rw[h2,aZ,h1]
  exact(EB h).2.2.1
 rw[hs,e,QAM]at h1;have hn:sz x.num<=z:=(XD _ _).2 (key _ O);have hd:sz (x.den:Int)<=z:=by
  refine(XD _ _).2 ?_;rw[bC];by_cases g:x.den=1
  ·have:(1:Nat)<=10^d:=Nat.one_le_pow _ _ tF;have hx:d≠0:=by
    intro h0;have:=Kn x.num.natAbs;have h3:(bj x.num.natAbs).length≠0:=λq=>this (List.length_eq_zero_iff.1 q);omega
   have:1<10^d:=Nat.one_lt_pow hx tF;omega
  refine key _ ?_;rw[hs]at h2;unfold CS at h2;rw[if_neg λe=>g ((LM x).1 e),(EB g).2.2.2]at h2;omega
 exact Nat.max_le.2 ⟨hn,hd⟩
theorem QGF{v:Int}(h:pT y v 3 6=true)(hr:y.rl.length=y.rt.n):SmS 20 4 3 y.rl.length y.rs/\(y.rl.length:Int)<=v:=by
 unfold pT at h;rw[ar,aD]at h;obtain⟨h0,h1⟩:=h;refine⟨⟨λp hp u hu=>?_,λp hp=>?_,by unfold Xz.rs;rw[ag]⟩,by rw[hr];exact(QFQ h0).2.2.1⟩
 ·obtain⟨e,he,rfl⟩:=List.mem_map.1 hp;obtain⟨x,hx,rfl⟩:=List.mem_map.1 hu;have h2:=h1 e he;unfold fpB at h2;split at h2
  ·cases h2
  rename_i hg;rw[aX,List.any_eq_false]at h2;have h3:=h2 x hx;rw[Bool.not_eq_true,ax,aE,decide_eq_false_iff_not]at h3;have h4:Zh (ZX e.2) (y.rt.n:Int)=0:=by
   rcases Decidable.em (Zh (ZX e.2) (y.rt.n:Int)=0)with g | g
   ·exact g
   exact absurd (Or.inr g) hg
  have h5:=Wv ((H4 h4).term x hx);have hlen:x.2.length=y.rl.length+1:=tD h5.1;refine⟨QGh h3.2 tF,?_,hlen,h5.2.1⟩;have h6:=QEa x.2 (y.rl.length+1) (λk hk=>(h5.2.1 k hk).1) hlen;show Zz x.2 (y.rl.length+1)<=3;have:=h3.1;omega
 obtain⟨e,he,rfl⟩:=List.mem_map.1 hp;have h2:=h1 e he;unfold fpB at h2;split at h2
 ·cases h2
 rename_i hg;have h3:¬((ZX e.2).length:Int)>4:=λg=>hg (Or.inl g);unfold Xq;rw[ag];omega
structure Xex(rs:List (List Tm))(fr t2:Rat)(x on:List XP)(n:Nat):Prop where
 y1:Xch rs (fr,fr) x n
 y2:Xch rs (fr,t2) on (n+1)
 e1:∀i,i<x.length->∀k,k<=n->Xf (el (el (J1 rs (fr,fr) x n) i) k) 45000
 e2:∀i,i<x.length->Xf (el (el (J1 rs (fr,t2) on (n+1)) i) (n+1)) 45000
 su:∀i,i<x.length->∀k,k<=n+1->Xf (B0 (el (J1 rs (fr,fr) x n) i) (t2-fr) k) 100000
 pw:∀k,k<=n+1->JW ((t2-fr)^k)<=45000
 hh:JW (t2-fr)<=45000
 tm:JW fr<=100000/\JW t2<=100000
def Xe5{rs:List (List Tm)}{fr t2:Rat}{x:List XP}:(Yc rs fr t2 x on n).length=x.length:=by simp[Yc]
def Xeu(h:Rat):[49]=JP (h^0):=by rw[Rat.pow_zero];exact Xcw.symm
theorem Xek{fr t2:Rat}{rx ro:Sr}{vx:List XP}{n:Nat}(hF:Fits F w)(hy:X4 F y)(hx:QxR F rx vx)(hon:QxR F ro on)(hl:vx.length=y.rl.length)(hlo:on.length=y.rl.length)(hb:rx.n<=1000/\ro.n<=1000/\n<=900)(hpl:∀e∈y.rl,e.2.length=e.1.n/\e.1.n<=1000/\∀t∈e.2,Jp t.f=0)(ho:Xex y.rs fr t2 vx on n):QU prog 40 [y.v,tx (JP fr),rx.v,tx (JP t2),ro.v,.int .i64 (n:Int)] w F (λ(c:Sr)=>c.v) (λc F=>QxR F c (Yc y.rs fr t2 vx on n)):=by
 have hxl:=hx.len;have hol:=hon.len;refine QU.intro (G:=λF=>X4 F y/\QxR F rx vx/\QxR F ro on) func40 rfl tH rfl rfl hF (λF' hF'=>⟨hy.le hF',hx.le hF',hon.le hF'⟩)<|wa<|Qp rfl (vs:=[_,_,_]) rfl λb6=>wZ rfl<|QG<|JG we mixed tE<|QK (wO I J6 .here)<|QK (QD rfl)<|QR rfl (λ_ _ f k=>VC f) λ_=>QK (QD rfl)<|QK (QD rfl)<|QR rfl (λ_ _ f k=>Xbt (t:=(fr,fr)) (n:=n) f k.1.1 k.1.2.1 hl ⟨hb.1,O⟩ hpl ho.y1) λc26=>Yl _ (λw F hF ⟨⟨⟨hy,hx,hon⟩,_⟩,h26⟩=>aR h26.len h26.YI) λhn26=>?_
 obtain⟨hn26,hm26⟩:=hn26;rw[WV]at hm26;refine QK (QF rfl)<|Q7<|QC<|wa<|QA (wO I J6 .here)<|wW rfl<|wW rfl<|QA (Q4 rfl Zb Xa (wV rfl rfl rfl))<|wW rfl<|wW rfl<|QA (Qu rfl rfl O)<|QI rfl (λ_ _ f k=>Xbt (t:=(fr,t2)) (n:=n+1) f k.1.1.1 k.1.1.2.2 hlo ⟨hb.2.1,O⟩ hpl ho.y2) λc34=>JQ _ (λw F hF ⟨⟨⟨⟨hy,hx,hon⟩,_⟩,h26⟩,h34⟩=>aR h34.len h34.YI) λhn34=>?_
 obtain⟨hn34,hm34⟩:=hn34;rw[WV]at hm34;refine wD 7 I<|QI I (λ_ _ f k=>QHM (x:=t2) (y:=fr) f ho.tm.2 ho.tm.1) λ_=>wD 15 I<|JU (ι:=Xaf (vx.length) ((λi=>Vz (B0 (el (J1 y.rs (fr,fr) vx n) i) (t2-fr) (n+1)) (Jg (el (el (J1 y.rs (fr,t2) on (n+1)) i) (n+1)) (((t2-fr)^(n+1)),((t2-fr)^(n+1))))))) [(2,_),(5,_),(13,_),(14,_),(15,_)] (λi=>[(16,i.v),(17,.int .i64 ((i.i:Nat):Int))]) (λi=>(b6,.cells #[.slice y.nm.q y.nm.n y.nm.cap,.slice y.rt.q y.rt.n y.rt.cap,.slice y.st.q y.st.n y.st.cap] 38 (0,0))::i.ob) (λi F=>True) (λi=>(vx.length)-i.i) (Xaf.start _ _) wy wm we tL λi=>?_
 simp only[ab,ae];have hi:=i.le;refine wA 5 I<|QA (Qg I XF)<|wD 3 I ?_
 refine QQ I (λhc2=>?_) λhc2=>?_
 ·have hlt:i.i<vx.length:=tD<|wi hc2
  have hem:=Qw hlt;refine XV _ (λw F hF ⟨⟨⟨⟨⟨⟨hy,hx,hon⟩,_⟩,h26⟩,h34⟩,_⟩,_⟩=>aR (h26.q i.i O).len (h34.q i.i O).len) (λhq2=>?_);obtain⟨hq26,hq34⟩:=hq2;have hq26b:=hq26;have hq34b:=hq34;rw[VO _ _ _ _ O]at hq26 hq34;have hpn:=ho.pw (n+1) (ai _);refine wC 6 I<|QI I (λ_ _ f k=>VC f) λ_=>Qc Xa λb18=>QW (vs:=[_,_]) I I I Jd I .here .h2 wm<|wD 14 I<|JU (ι:=NtI (n+1)) [(2,_),(5,_),(13,_),(14,_),(15,_),(16,_),(17,_),(18,_)] (λi2=>[(19,tx (JP ((t2-fr)^i2.i))),(20,.int .i64 ((i2.i:Nat):Int))]) (λi2=>(b18,.cells [tx (JP (B0 (el (J1 y.rs (fr,fr) vx n) i.i) (t2-fr) i2.i).1),tx (JP (B0 (el (J1 y.rs (fr,fr) vx n) i.i) (t2-fr) i2.i).2)].toArray 40 (0,0))::(b6,.cells #[.slice y.nm.q y.nm.n y.nm.cap,.slice y.rt.q y.rt.n y.rt.cap,.slice y.st.q y.st.n y.st.cap] 38 (0,0))::i.ob) (λi2 F=>True) (λi2=>n+1-i2.i) (⟨0,ak _⟩) w8 ⟨(congrArg (λs=>some (tx s)) (Xeu (t2-fr))),rfl,trivial⟩ ((by show aW (α:=Nat×Obj) ((b18,.cells [tx (JP ((0,0):Rat×Rat).1),tx (JP ((0,0):Rat×Rat).2)].toArray 40 (0,0))::(b6,.cells #[.slice y.nm.q y.nm.n y.nm.cap,.slice y.rt.q y.rt.n y.rt.cap,.slice y.st.q y.st.n y.st.cap] 38 (0,0))::i.ob) _;rw[show JP ((0,0):Rat×Rat).1=[48]from by decide +kernel];exact ay _)) tL λi2=>?_
  simp only[ab,ae];have hi2:=i2.le;have hpk:=ho.pw i2.i O;refine wA 8 I ?_;refine QQ I (λhc2=>?_) λhc2=>?_
  ·have hlt2:i2.i<=n:=tD<|wi hc2
   refine wC 5 I<|Jq 12 we mixed tE tE ?_
   simp only[aO,aN,aQ,bh];refine QK (wN I Jd .here)<|QK (QD I)<|QK (QD I)<|QK (Q3 (n:=c26.1.n) i.i (λF h9=>h9.1.1.1.1.1.2.row) rfl rfl Sk J0 O)<|QK (JA (n:=c26.1.n) ((i.i)*1) (λF h9=>h9.1.1.1.1.1.2.row) O rfl J0 (XT (f:=Sr.v) (l:=c26.2) O))<|QK (QD I)<|QK (Q3 (n:=(el c26.2 i.i).n) (i2.i) (λF h9=>(h9.1.1.1.1.1.2.q _ O).row) rfl rfl XF Jd O)<|QK (JZ (n:=(el c26.2 i.i).n) (vs:=[tx (JP (el (el (J1 y.rs (fr,fr) vx n) i.i) (i2.i)).1),tx (JP (el (el (J1 y.rs (fr,fr) vx n) i.i) (i2.i)).2)]) ((i2.i)*2) (λF h9=>(h9.1.1.1.1.1.2.q _ O).row) O rfl Jd I λj v hv=>JN (f:=LP) (l:=(el (J1 y.rs (fr,fr) vx n) i.i)) uh O hv)<|QK (QD I)<|QR I (λ_ _ f k=>VC f) λ_=>QR I (λ_ _ f k=>QEl (a:=el (el (J1 y.rs (fr,fr) vx n) i.i) i2.i) (b:=(((t2-fr)^i2.i),((t2-fr)^i2.i))) f (ho.e1 _ hlt _ O) ⟨hpk,hpk⟩) λ_=>QR I (λ_ _ f k=>uz (a:=(B0 (el (J1 y.rs (fr,fr) vx n) i.i) (t2-fr) i2.i)) (b:=Jg (el (el (J1 y.rs (fr,fr) vx n) i.i) i2.i) (((t2-fr)^i2.i),((t2-fr)^i2.i))) f (ho.su _ hlt _ O) ((K7 (ho.e1 _ hlt _ O) ⟨hpk,hpk⟩).mono tF)) λ_=>ZS<|QW (vs:=[_,_]) I I I Jd I .here .h2 wm<|wD 5 I<|QI I (λ_ _ f k=>C3 (x:=((t2-fr)^i2.i)) (y:=(t2-fr)) f O (tD ho.hh)) λ_=>wB 2 I<|Qj<|QC<|QB ?_
   refine wW I<|QA (Qu I I O)<|wB 2 I ?_
   exact Ql (⟨i2.i+1,O⟩) (by show n+1-(i2.i+1)<n+1-i2.i;omega) ⟨rfl,rfl,rfl,rfl,rfl,rfl,rfl,rfl,(congrArg (λq=>some (tx (JP q))) (Rat.pow_succ _ _).symm),rfl,trivial⟩ ((by show aW (α:=Nat×Obj) (((b18,.cells [tx (JP (B0 (el (J1 y.rs (fr,fr) vx n) i.i) (t2-fr) (i2.i+1)).1),tx (JP (B0 (el (J1 y.rs (fr,fr) vx n) i.i) (t2-fr) (i2.i+1)).2)].toArray 40 (0,0)))::(b6,.cells #[.slice y.nm.q y.nm.n y.nm.cap,.slice y.rt.q y.rt.n y.rt.cap,.slice y.st.q y.st.n y.st.cap] 38 (0,0))::i.ob) _;rw[MB];exact ay _)) λF h=>⟨h.1.1.1.1.1,trivial⟩
  have hge2:i2.i=n+1:=tD<|wj hc2
  rw[hge2];refine Qx ?_
  repeat first|refine QY ?_|refine QO tH ?_
  refine QZ<|QC<|JG tS mixed tE<|QK (QD I)<|QK (wN I Jd .here)<|QK (QD I)<|QK (QD I)<|QK (Q3 (n:=c34.1.n) i.i (λF h9=>h9.1.1.1.1.2.row) rfl rfl Sk J0 O)<|QK (JA (n:=c34.1.n) ((i.i)*1) (λF h9=>h9.1.1.1.1.2.row) O rfl J0 (XT (f:=Sr.v) (l:=c34.2) O))<|QK (QD I)<|QK (Qu I I O)<|QK (Q3 (n:=(el c34.2 i.i).n) ((n+1)) (λF h9=>(h9.1.1.1.1.2.q _ O).row) rfl wS XF Jd O)<|QK (JZ (n:=(el c34.2 i.i).n) (vs:=[tx (JP (el (el (J1 y.rs (fr,t2) on (n+1)) i.i) ((n+1))).1),tx (JP (el (el (J1 y.rs (fr,t2) on (n+1)) i.i) ((n+1))).2)]) (((n+1))*2) (λF h9=>(h9.1.1.1.1.2.q _ O).row) O rfl Jd I λj v hv=>JN (f:=LP) (l:=(el (J1 y.rs (fr,t2) on (n+1)) i.i)) uh O hv)<|QK (QD I)<|QR I (λ_ _ f k=>VC f) λ_=>QR I (λ_ _ f k=>QEl (a:=el (el (J1 y.rs (fr,t2) on (n+1)) i.i) (n+1)) (b:=(((t2-fr)^(n+1)),((t2-fr)^(n+1)))) f (ho.e2 _ hlt) ⟨hpn,hpn⟩) λ_=>QR I (λ_ _ f k=>uz (a:=B0 (el (J1 y.rs (fr,fr) vx n) i.i) (t2-fr) (n+1)) (b:=Jg (el (el (J1 y.rs (fr,t2) on (n+1)) i.i) (n+1)) (((t2-fr)^(n+1)),((t2-fr)^(n+1)))) f (ho.su _ hlt _ O) ((K7 (ho.e2 _ hlt) ⟨hpn,hpn⟩).mono tF)) λ_=>?_
  refine Qo I (Q5 XF) Jd Xa I I (λb79=>?_) (λw h=>h.imp tS λF h=>h.1.1.1);refine Y6 (av (l₁:=[_,_])) ?_;refine Yz (n:=i.i) (k:=1) (sz:=2) (news:=(LP (Vz (B0 (el (J1 y.rs (fr,fr) vx n) i.i) (t2-fr) (n+1)) (Jg (el (el (J1 y.rs (fr,t2) on (n+1)) i.i) (n+1)) (((t2-fr)^(n+1)),((t2-fr)^(n+1))))))) I I XF Jd Xa I QAH i.hr (Src.row (off:=0) tO (λj q hq=>by rw[aI];rw[aB];exact hq) rfl) O O (QEi _) we (λ_ h=>h.1.1.1.1) (λv80 ob80 hr80=>?_);refine Y6 (av (l₂:=[_,_]))<|QK (QF I)<|Q7<|Qj<|wE 3 I<|QA (Qu I I O)<|wB 2 I ?_
  exact Ql (i.next hlt hr80 rfl) (by show vx.length-(i.i+1)<vx.length-i.i;omega) w6 (.cons _ we) λF h=>⟨h.1.1.1.1.1.1.1,trivial⟩
 have hge:vx.length<=i.i:=tD<|wj hc2
 refine Qx ?_
 repeat first|refine QY ?_|refine QO tH ?_
 refine QZ<|wE 3 I ?_
 obtain⟨⟨rq,rn,rc⟩,hv2,hrn,hrc,hfix⟩:=Q8.fix (w0:=w) (F0:=F) (bs1:=[_]) (G:=_) i.hr;dsimp only at hrn hrc hfix;subst hrn;refine Zj hfix ?_;rw[hv2];dsimp only[Sr.v];refine wD 5 I ?_;exact QP ((⟨rq,i.i,rc⟩:Sr)) I (wT I) (rfl) λF ⟨⟨⟨⟨⟨⟨⟨hy,hx,hon⟩,_⟩,h26⟩,h34⟩,_⟩,_⟩,hrow⟩=>i.row (tD i.le) hrow
structure StQ(y:Xz)(fr t2:Rat)(x on:List XP)(n:Nat):Prop where
 mv:∃Z D T S,Xf4 Z D T S y fr t2 x on
 om:Nv (YP y.rs fr t2 x on)
 zm:∀a∈YP y.rs fr t2 x on,Xf a 100000
 tb:Xex y.rs fr t2 x on n
 ot:Nv (Yc y.rs fr t2 x on n)
 zt:∀a∈Yc y.rs fr t2 x on n,Xf a 100000
 lx:x.length=y.rl.length
 lo:on.length=y.rl.length
structure SmY(y:Xz)(m:Nat):Prop where
 s:SmS 20 4 3 m y.rs
 rl:y.rl.length=m
 pl:∀e∈y.rl,e.2.length=e.1.n/\e.1.n<=1000/\∀t∈e.2,Jp t.f=0
structure ShB(m:Nat)(x:List XP):Prop where
 len:x.length=m
 sz:∀a∈x,Xf a 160
 ord:Nv x
theorem SmS.po{Z:Nat}{rs:List (List Tm)}(h:SmS Z T D m rs){i:Nat}(hi:i<rs.length):ke Z D T (m+1) (el rs i) :=
 ⟨h.len _ (Qw hi),λu hu=>(h.N4 _ (Qw hi) u hu).1,λu hu=>(h.N4 _ (Qw hi) u hu).2.1,λu hu=>(h.N4 _ (Qw hi) u hu).2.2.1,λu hu k hk=>(h.N4 _ (Qw hi) u hu).2.2.2 k hk⟩
theorem SmS.fit{Z:Nat}{rs:List (List Tm)}(h:SmS Z T D m rs){k:Nat}(hk:k=m):yW rs k:=by
 subst hk;intro i hi t ht;have h1:=h.N4 _ (Qw (show i<rs.length by rw[h.hn];exact hi)) t ht;exact⟨by rw[h1.2.2.1];exact ai _,λk hk=>(h1.2.2.2 k hk).1⟩
theorem ShB.rv{t:XP}{x:List XP}(h:SmY y m)(hx:ShB m x)(ht:Xf t 160){i:Nat}(hi:i<y.rl.length):jT 20 3 4 160 (el y.rl i).2 (t::x):=by
 have hp:=h.s.po (i:=i) (by rw[h.s.hn,<-h.rl];exact hi);rw[QA5 hi]at hp;exact⟨by rw[ao,hx.len];exact hp,(h.pl _ (Qw hi)).2.2,λa ha=>by
  rcases List.mem_cons.1 ha with rfl | ha
  ·exact ht
  exact hx.sz a ha,tF,tF,tF⟩
theorem ShB.ev{t:XP}{x:List XP}(h:SmY y m)(hx:ShB m x)(ht:Xf t 160){i:Nat}(hi:i<y.rl.length):Xf (J3 (t::x) (el y.rs i)) 2100:=by
 have h1:=Wf (h.s.po (i:=i) (by rw[h.s.hn,<-h.rl];exact hi)) (bs:=t::x) (S:=160) (by rw[ao,hx.len]) λa ha=>by
  rcases List.mem_cons.1 ha with rfl | ha
  ·exact ht
  exact hx.sz a ha
 exact h1.mono tF
def dM{a d:Nat}(h:a<=c)(k:b<=d):a*b<=c*d:=Nat.mul_le_mul h k
section
variable{y:Xz}{m n:Nat}{fr t2:Rat}{x on:List XP}(h:SmY y m)(hm:m<=2)(hx:ShB m x)(ho:ShB m on)(hf:JW fr<=56)(ht:JW t2<=56)(hlt:fr<=t2)(hn:n<=3)
def Xdh(fr t2:Rat)(x on:List XP):List Rat:=fr::t2::(Uc x++Uc on)
include h hm hx ho hf ht hlt hn
omit h hm hlt hn in
theorem Xei:∀r∈Xdh fr t2 x on,JW r<=160:=λr hr=>by
 rcases List.mem_cons.1 hr with rfl | hr
 ·omega
 rcases List.mem_cons.1 hr with rfl | hr
 ·omega
 rcases List.mem_append.1 hr with hr | hr
 ·exact Xcp hx.sz r hr
 exact Xcp ho.sz r hr
omit hlt hn in
theorem Xf1:sz ((Xbp y.rs (Xdh fr t2 x on):Nat):Int)<=1768:=by
 have h1:=Xcq h.s (Xei hx ho hf ht)
 have h2:(Xdh fr t2 x on).length<=10:=by
  show(Uc x++Uc on).length+1+1<=10
  rw[au,QAA,QAA,hx.len,ho.len];omega
 have h3:=dM h2 (ai 160)
 have h4:m*4*20<=2*4*20:=dM (dM hm (ai 4)) (ai 20)
 omega
omit hm hlt in
theorem Xf2:jN (Xbp y.rs (Xdh fr t2 x on)) 160 3 4 (n+1) y.rs (fr,fr) x/\jN (Xbp y.rs (Xdh fr t2 x on)) 160 3 4 (n+1) y.rs (fr,t2) on/\Cl (Xbp y.rs (Xdh fr t2 x on)) 1 (160+1) (t2-fr):=by
 have hs:=Xei hx ho hf ht
 have m1:fr∈Xdh fr t2 x on:=.head _
 have m2:t2∈Xdh fr t2 x on:=.tail _ (.head _)
 refine⟨Xcs h.s hx.len ⟨m1,m1⟩ (λa ha=>?_) hs tF O,Xcs h.s ho.len ⟨m1,m2⟩ (λa ha=>?_) hs tF O,?_⟩
 ·have:=cy ha
  exact⟨.tail _ (.tail _ (bz _ this.1)),.tail _ (.tail _ (bz _ this.2))⟩
 ·have:=cy ha
  exact⟨.tail _ (.tail _ (bm _ this.1)),.tail _ (.tail _ (bm _ this.2))⟩
 rw[Rat.sub_eq_add_neg]
 exact Cl.add (Xa4 _ _) (Xa7 m2 hs) (Xa7 m1 hs).neg
omit h hm hx ho hf ht hlt in
theorem smM{q:Nat}{Q:Nat}(hq:sz ((Q:Nat):Int)<=1768):tyM Q 160 3 4 (n+1)<=45000/\I9 Q 160 3 4 n<=45000:=by
 obtain rfl | rfl | rfl | rfl:n=0\/n=1\/n=2\/n=3:=O
 all_goals
  unfold tyM I9 j3 kf bE
  omega
theorem Xeo:Xex y.rs fr t2 x on n/\(∀a∈Yc y.rs fr t2 x on n,Xf a 45000)/\kO y.rs fr t2 x on n:=by
 have hq:=Xf1 h hm hx ho hf ht;obtain⟨c1,c2,c3⟩:=Xf2 h hx ho hf ht hn;have hM:=smM (n:=n) (q:=0) hn hq;generalize Xbp y.rs (Xdh fr t2 x on)=Q at hq c1 c2 c3 hM;obtain⟨hM,hT⟩:=hM;have hM0:=hM;have hs:=c1.q0;have r1:=c1.rok hM;have r2:=c2.rok hM;have hl:on.length=x.length:=by rw[ho.len,hx.len]
 unfold tyM at hM0;have q1:((3+1)*(n+1)+1)*sz (Q:Int)<=((3+1)*(n+1)+(3+2))*sz (Q:Int):=aj _ O;have sz1:∀(t:Rat×Rat) (z:List (Rat×Rat)),jN Q 160 3 4 (n+1) y.rs t z->∀m,m<=n+1->∀i,i<z.length->∀k,k<=m->Xf (el (el (J1 y.rs t z m) i) k) 45000:=λt z hz m hm i hi k hk =>
  (Tv hz m hm i hi).Ux hs (n:=n+1) (by rw[VO y.rs _ z m hi];omega) O _ (Qw (by rw[VO y.rs _ z m hi];omega))
 have hT0:=hT;unfold I9 j3 kf at hT;refine⟨⟨⟨λk hk=>r1.ra k O,λk hk=>r1.cf k O⟩,r2,λi hi k hk=>sz1 _ x c1 n O i hi k hk,λi hi=>sz1 _ on c2 (n+1) (ai _) i O (n+1) (ai _),λi hi k hk=>?_,λk hk=>?_,?_,⟨O,O⟩⟩,λs hs2=>?_,(OT c1 c2 c3 hl O O O).1⟩
 ·have h1:=(xB c1 c3 hi k hk).Ux hs;refine h1.mono ?_;have g1:bE 160 3 4 n*n<=bE 160 3 4 n*(n+1):=aS _ O;have g2:((3+2)*n+1)*sz (Q:Int)<=((3+2)*(n+1)+1)*sz (Q:Int):=aj _ O;omega
 ·have h1:=(c3.pow hs k).JW hs;have g1:k*(160+1)<=(n+1)*(160+1):=aj _ hk;have g2:k*sz (Q:Int)<=(n+1)*sz (Q:Int):=aj _ hk;have g3:(n+1)*sz (Q:Int)<=4*1768:=dM O hq;omega
 ·have h1:=c3.JW hs;omega
 have h1:=(j0 c1 c2 c3 hl s hs2).Ux hs;refine h1.mono ?_;unfold j3 kf;omega
theorem Xeq:MvC 20 3 4 m 56 y.rs fr t2:=⟨λi hi=>h.s.po hi,h.s.hn,hf,ht⟩
theorem Xf0:StQ y fr t2 x on n:=by
 have hb:=Xeo h hm hx ho hf ht hlt hn;have hrs:y.rs.length=y.rl.length:=by unfold Xz.rs;rw[ag]
 have htt:Xf (fr,t2) 160:=⟨by show JW fr<=160;omega,by show JW t2<=160;omega⟩;have hmz:∀a∈YP y.rs fr t2 x on,Xf a 100000:=λa ha=>(Lk (X:=160) (Xeq h hm hx ho hf ht hlt hn) hx.len ho.len hx.sz ho.sz tF a ha).mono tF;have hsub:=Xer (rs:=y.rs) hx.ord.sub hlt (λi hi=>ho.ord i hi) λi hi t ht=>(h.s.fit (k:=m) rfl i (by rw[<-hx.len];exact hi) t ht).imp (λk=>by rw[ho.len];exact k) id;refine⟨⟨20,3,4,160,λi hi=>ho.rv h htt hi,⟨O,O⟩,λa ha=>(hx.sz a ha).mono tF,λe he=>⟨(h.pl e he).1,(h.pl e he).2.1⟩,λi hi=>(ho.ev h htt hi).mono tF⟩,hsub.ord,hmz,hb.1,λi hi=>gF _ _ _ _ _ _ _ (Qw hi),λa ha=>(hb.2.1 a ha).mono tF,by rw[hx.len,h.rl],by rw[ho.len,h.rl]⟩
theorem Xew:kT y.rs fr t2 x on:=UC (X:=160) (S:=160) (Xeq h hm hx ho hf ht hlt hn) hx.len ho.len hx.sz ho.sz tF O tF tF tF tF tF
end
def Wl.sl(b:Wl)(k:Nat):List (List UInt8×List UInt8):=if k=0 then b.wl else b.ll
theorem QGg{v:Int}(hl:vG y)(hr:y.rl.length=y.rt.n)(hyo:vF y)(hs:shS y=true)(h:pT y v 3 6=true):SmY y y.rl.length/\(y.rl.length:Int)<=v:=by
 have h1:=QGF h hr;refine⟨⟨h1.1,rfl,λe he=>⟨(hl.rl e he).1,?_,λt ht=>?_⟩⟩,h1.2⟩
 ·unfold shS at hs;simp only[ar,aD]at hs;have h2:=hs.2.1 e he;unfold shP at h2;simp only[ar,aX,decide_eq_false_iff_not]at h2;omega
 have h2:=hyo.pl e he;exact(Wv (h2.term (t.f,t.k) (aP (f:=λt:V0=>(t.f,t.k)) ht))).2.2.2
theorem QHK(h:∀s∈l,s.1.length<=40/\s.2.length<=40)(hc:∀s∈l,Xd s.1 s.2=0)(hm:l.length=m):ShB m (lV l):=by
 refine⟨by rw[Yg];exact hm,λa ha=>?_,λi hi=>?_⟩
 ·obtain⟨s,hs,rfl⟩:=List.mem_map.1 ha;have h1:=Ku (hc s hs);have h2:=h s hs;exact⟨OU (k:=40) h1.1 tF h2.1,OU (k:=40) h1.2.1 tF h2.2⟩
 obtain⟨s,hs,e⟩:=List.mem_map.1 (Qw hi);have e':JB s=el (lV l) i:=e;rw[<-e'];have h1:=(Ku (hc s hs)).2.2;have h2:=K3 (Qz s.1) (Qz s.2);show Qz s.1<=Qz s.2;exact Rat.not_lt.1 λk=>h1 (h2.2 k)
def QGG(h:Ts l=true)(hb:YZ m l=0):ShB m (lV l):=QHK (AY h).2 (XZ hb).2 (XZ hb).1
theorem Xd6{a b:Rat}(h:Wc a b=0):a<=b:=by
 unfold Wc at h;split at h
 ·cases h
 rename_i g;rw[decide_eq_true_eq,N8]at g;rcases Rat.le_total (a:=a) (b:=b)with k | k
 ·exact k
 exact absurd k g
def Xe3(h:Xa2 x=false):(x.fr.length<=14/\x.te.length<=14)/\Ts x.bl=true/\Ts x.wl=true/\(x.o<=3\/16<x.o):=by
 unfold Xa2 at h;simp only[ax,aE,bp,decide_eq_false_iff_not]at h;obtain⟨⟨⟨h1,h2⟩,h3⟩,h4⟩:=h;unfold cT at h1;simp at h1;exact⟨O,h2,h3,O⟩
theorem QDP{r:Sr}(h:Ts l=true)(hn:l.length=r.n):BS r l :=
 ⟨tD<|(AY h).1,λs hs=>tD<|(AY h).2 s hs⟩
def tyF(y:Xz)(x:ATk):List Int:=[Jp x.fr,YZ y.rt.n x.bl,Jp x.te,YZ y.rt.n x.wl,BD x.o]
def ty1(y:Xz)(x:ATk):Int:=if y.e=0 then Qs (tyF y x)else y.e
theorem Xez(h:y.e=0->y.rt.n=y.nm.n):NS y x.fr x.bl x.te x.wl x.o=if ty1 y x=0 then Wc (Qz x.fr) (Qz x.te)else ty1 y x:=by
 unfold NS Ys ty1 tyF;by_cases g:y.e=0
 ·rw[h g,if_pos g,g,Zn];generalize Jp x.fr=a;generalize YZ y.nm.n x.bl=b;generalize Jp x.te=c;generalize YZ y.nm.n x.wl=d;generalize BD x.o=e;generalize Wc (Qz x.fr) (Qz x.te)=f;by_cases ha:a=0<;>by_cases hb:b=0<;>by_cases hc:c=0<;>by_cases hd:d=0<;>by_cases he:e=0<;>by_cases hf:f=0<;>simp[Qs,ha,hb,hc,hd,he,hf]
 rw[if_neg g,if_neg g,Zf g,if_neg g]
def Xcn(v:List XP):Qs ((I4 v).map Xa0)=if Jx v=true then 4 else 0:=by
 induction v with
 |nil=>rfl
 |cons a v ih =>
  show Qs (Xa0 (JP a.1,JP a.2)::(I4 v).map Xa0)=if(Jh a.1||Jh a.2||Jx v)=true then 4 else 0
  have e:Xa0 (JP a.1,JP a.2)=if(Jh a.1||Jh a.2)=true then 4 else 0:=by
   unfold Xa0;rw[QDj,QDj];cases Jh a.1<;>cases Jh a.2<;>rfl
  rw[e];cases g:(Jh a.1||Jh a.2)
  ·rw[if_neg tF,Zn,ih,Bool.false_or]
  rw[if_pos rfl,Bool.true_or,if_pos rfl];rfl
def Xet(v:List XP):Xe7 (I4 (O2 0 (some v)).2) (O2 0 (some v)).1 (I4 v)=true:=by
 unfold Xe7;rw[Xcn,EI];cases Jx v
 ·simp
 simp[I4]
def Xct{c:Sr}{v:List XP}{F:Gs}(h:v.length=c.n)(hn:c.n<=1000000)(hz:∀a∈v,Xf a 100000):BS c (I4 v):=⟨hn,λs hs=>by
 obtain⟨a,ha,rfl⟩:=List.mem_map.1 hs;have h1:=hz a ha;have h2:=Ie a.1;have h3:=Ie a.2;have:=h1.1;have:=h1.2;exact⟨by show(JP a.1).length<=_;omega,by show(JP a.2).length<=_;omega⟩⟩
theorem Xe6{a b:List UInt8}{rx ro:Sr}{vx:List XP}{n:Nat}{o:Int}(hno:o=(n:Int))(hF:Fits F w)(hy:X4 F y)(hx:QxR F rx vx)(hon:QxR F ro on)(ha:Jp a=0)(hb:Jp b=0)(hl:vx.length=y.rl.length)(hlo:on.length=y.rl.length)(hn:rx.n<=1000/\ro.n<=1000/\n<=900)(hpl:∀e∈y.rl,e.2.length=e.1.n/\e.1.n<=1000/\∀t∈e.2,Jp t.f=0)(ho:Xex y.rs (Qz a) (Qz b) vx on n):QU prog 40 [y.v,tx a,rx.v,tx b,ro.v,.int .i64 o] w F (λ(c:Sr)=>c.v) (λc F=>QxR F c (Yc y.rs (Qz a) (Qz b) vx on n)):=by
 subst hno;have:=Xek hF hy hx hon hl hlo hn hpl ho;rw[<-(XM ha).1,<-(XM hb).1]at this;exact this
theorem Xep(h:SmY y m)(hm:m<=2)(hs:Xa2 x=false)(he:NS y x.fr x.bl x.te x.wl x.o=0)(hn:y.nm.n=m)(h3:n<=3):StQ y (Qz x.fr) (Qz x.te) (lV x.bl) (lV x.wl) n/\(kT y.rs (Qz x.fr) (Qz x.te) (lV x.bl) (lV x.wl)/\kO y.rs (Qz x.fr) (Qz x.te) (lV x.bl) (lV x.wl) n)/\Jp x.fr=0/\Jp x.te=0/\YZ m x.bl=0/\YZ m x.wl=0:=by
 unfold NS at he;split at he
 ·rename_i h0;unfold Ys at h0;have c1:Jp x.fr=0:=Q9 h0 _ (.tail _ (.head _));have c2:YZ y.nm.n x.bl=0:=Q9 h0 _ (.tail _ (.tail _ (.head _)));have c3:Jp x.te=0:=Q9 h0 _ (.tail _ (.tail _ (.tail _ (.head _))));have c4:YZ y.nm.n x.wl=0:=Q9 he _ (.head _);have c5:Wc (Qz x.fr) (Qz x.te)=0:=Q9 he _ (.tail _ (.tail _ (.head _)));rw[hn]at c2 c4;have hh:=Xe3 hs;have hb:=QGG hh.2.1 c2;have hw:=QGG hh.2.2.1 c4;have hf:JW (Qz x.fr)<=56:=OU (k:=14) c1 tF hh.1.1;have ht:JW (Qz x.te)<=56:=OU (k:=14) c3 tF hh.1.2;exact⟨Xf0 h hm hb hw hf ht (Xd6 c5) h3,⟨Xew h hm hb hw hf ht (Xd6 c5) h3,(Xeo h hm hb hw hf ht (Xd6 c5) h3).2.2⟩,c1,c3,c2,c4⟩
 rename_i h0;exact absurd he h0
theorem Xej(hF:Fits F w)(hGl:JE F)(hy:X4 F y)(hl:vG y)(hx:Ks F x.bx x.bl/\Ks F x.wh x.wl)(hn:x.bx.n<=9223372036854775807/\x.wh.n<=9223372036854775807):Qf prog 5 [y.v,x.v] w F (.bool true):=by
 have hyo:=hy.ok;have hsl:=hy.P0;have hrl:=hy.Ka;have hx1:=hx.1.len;have hx2:=hx.2.len;refine QU.intro (G:=λF=>JE F/\X4 F y/\Ks F x.bx x.bl/\Ks F x.wh x.wl) func5 rfl tH rfl rfl hF (λF' hF'=>⟨hGl.le hF',hy.le hF',hx.1.le hF',hx.2.le hF'⟩)<|wa<|Qp rfl (vs:=[_,_,_]) rfl λb2=>Qp rfl (vs:=[_,_,_,_,_,_]) rfl λb3=>wZ rfl<|QG ?_
 refine ZZ [(2,_),(3,_)] [(14,.bool ((Ff y 2||Xa2 x)))] wm ?_ ?_
 ·refine QB<|QA (wO I J6 .u1)<|QI I (λ_ _ f k=>QFF (y:=y) f k.1 k.2.1 hl) λ_=>wW I ?_
  refine Qn (t:=11) rfl (λhb11=>?_) λhb11=>?_
  ·refine wB 4 I ?_;exact JY ⟨rfl,rfl,(congrArg (λb=>some (aa b)) (by rw[hb11];rfl)),trivial⟩ we tN
  refine QL I I<|QA (QJ (vs:=[_,_,_,_,_,_]) I Xey .here .h6 rfl)<|QL I I<|QI I (λ_ _ f k=>Xes (x:=x) f k.1.2.2 hn) λ_=>wB 2 I ?_
  exact JY ⟨rfl,rfl,(congrArg (λb=>some (aa b)) (by rw[hb11];rfl)),trivial⟩ we λ_ h=>h.1.1
 simp only[ab,ae];refine QQ I (λhc2=>?_) λhc2=>?_
 ·refine wa<|QI I (λ_ _ f k=>CX f k.1) λ_=>wD 4 I ?_
  exact wg I I (rfl) tL
 have hnot:Ff y 2=false/\Xa2 x=false:=by
  simp only[ax]at hc2;exact hc2
 obtain⟨hg1,hhv⟩:=hnot;have hh:=Xe3 hhv;have ht:GJ y:=hl.ts (yQ hg1).1;have hcA:BS x.bx x.bl:=QDP hh.2.1 hx1;have hcB:BS x.wh x.wl:=QDP hh.2.2.1 hx2;have hlA:=(AY hh.2.1).1;have hlB:=(AY hh.2.2.1).1;have hte:=Xez (y:=y) (x:=x) λh=>(hyo h).rn;have hall0:(NS y x.fr x.bl x.te x.wl x.o)=0->y.e=0/\(∃n:Nat,x.o=(n:Int)/\n<=3):=λh0=>by
  unfold NS at h0;split at h0
  ·rename_i k0;unfold Ys at k0;have hor:=Nw (Q9 h0 (BD x.o) (.tail _ (.head _)));exact⟨Q9 k0 _ (.head _),x.o.toNat,O,O⟩
  rename_i k0;exact absurd h0 k0
 have htok:(NS y x.fr x.bl x.te x.wl x.o)=0->kO y.rs (Qz x.fr) (Qz x.te) (lV x.bl) (lV x.wl) x.o.toNat/\∀v∈(Yc y.rs (Qz x.fr) (Qz x.te) (lV x.bl) (lV x.wl) x.o.toNat),Xf v 100000000:=λh0=>by
  obtain⟨hye,n,hon,hn3⟩:=hall0 h0;have hsm:=QGg hl hrl (hyo hye) (yQ hg1).1 ((yQ hg1).2 hye);have h1:=Xep (n:=n) hsm.1 O hhv h0 (by rw[hrl,(hyo hye).rn]) hn3;rw[show x.o.toNat=n by omega];exact⟨h1.2.1.2,λa ha=>(h1.1.zt a ha).mono tF⟩
 refine wC 4 I<|QA (wO I J6 .u1)<|QA (QH I Xdb JF)<|QA (Qe I JF .here .h1)<|QA (QH I Xdn J0)<|QA (Qe I J0 .here (.skip (.skip .h1)))<|QA (QH I Xda JF)<|QA (Qe I JF .here (.skip .h1))<|QA (QH I Xdm J0)<|QA (Qe I J0 .here (.skip (.skip (.skip .h1))))<|QA (QH I Xd9 JK)<|QA (Qe I JK .here (.skip (.skip (.skip (.skip .h1)))))<|QI I (λw F hF ⟨hGl,hy,hx⟩=>Cs (y:=y) (a:=x.fr) (b:=x.te) (r:=x.bx) (l:=x.bl) (rz:=x.wh) (lw:=x.wl) (o:=x.o) hF hGl hy ht hx.1 hcA O O hx.2 hcB htok) λc28=>wD 9 I ?_
 refine QA (QH I VY Z6)<|QA (Qe I Z6 .u1 (.skip .h1))<|QA (Qg I VJ)<|wD 5 I<|QA (wO I J6 .u1)<|QI I (λ_ _ f k=>QA3 (y:=y) f k.1.1 k.1.2.1 ht) λ_=>wD 3 I ?_
 refine ZZ [(2,_),(3,_),(5,_),(6,_)] [(8,.int .i64 (ty1 y x))] wv ?_ ?_
 ·refine wA 6 I ?_;refine QQ I (λhc2=>?_) λhc2=>?_
  ·have h37:y.e=0:=eq_of_beq hc2;refine JG we mixed tE<|QK (QH I Xdb JF)<|QK (Qe I JF .here .h1)<|QR I (λ_ _ f k=>vN f O) λ_=>QK (QD I)<|QK (QH I Xdn J0)<|QK (Qe I J0 .here (.skip (.skip .h1)))<|QR I (λ_ _ f k=>gW (n:=y.rt.n) f k.1.1.1.2.2.1 hcA) λ_=>QK (QH I Xda JF)<|QK (Qe I JF .here (.skip .h1))<|QR I (λ_ _ f k=>vN f O) λ_=>QK (QD I)<|QK (QH I Xdm J0)<|QK (Qe I J0 .here (.skip (.skip (.skip .h1))))<|QR I (λ_ _ f k=>gW (n:=y.rt.n) f k.1.1.1.1.1.2.2.2 hcB) λ_=>QK (QH I Xd9 JK)<|QK (Qe I JK .here (.skip (.skip (.skip (.skip .h1)))))<|QR I (λ_ _ f k=>Xa8 f) λ_=>?_
   refine Qo I (Q5 Q2) JK R4 I I (λb55=>?_) (λw h=>h.imp tP λF h=>h.1.1.1.1.1);refine QR I (λ_ _ f k=>QDh (l:=tyF y x) f (Qy.of (n:=5) (sz:=1) (cs:=(tyF y x).map Jo) k.2 I) tF) (λ_=>QK (QF I)<|Q7 ?_);exact JY ⟨rfl,rfl,rfl,rfl,(congrArg (λz=>some (ah .i64 z)) (by unfold ty1;rw[if_pos h37])),trivial⟩ we λ_ h=>h.1.1.1.1.1.1.1
  have h37:y.e≠0:=by simpa using hc2
  refine QN ?_;exact JY ⟨rfl,rfl,rfl,rfl,(congrArg (λz=>some (ah .i64 z)) (by unfold ty1;rw[if_neg h37])),trivial⟩ we tM
 simp only[ab,ae];refine ZZ [(2,_),(3,_),(5,_),(6,_)] [(8,.int .i64 ((NS y x.fr x.bl x.te x.wl x.o)))] wv ?_ ?_
 ·refine wA 6 I ?_;refine QQ I (λhc2=>?_) λhc2=>?_
  ·have h58:ty1 y x=0:=eq_of_beq hc2;have hck:Jp x.fr=0/\Jp x.te=0:=by
    unfold ty1 at h58;split at h58
    ·exact⟨Q9 h58 _ (.head _),Q9 h58 _ (.tail _ (.tail _ (.head _)))⟩
    rename_i k;exact absurd h58 k
   refine QB<|QA (QJ (vs:=[_,_,_,_,_,_]) I Xey .here .h6 rfl)<|QI I (λ_ _ f k=>Xev (x:=x) f hck.1 hck.2) λ_=>wB 2 I ?_
   exact JY ⟨rfl,rfl,rfl,rfl,(congrArg (λz=>some (ah .i64 z)) (by rw[hte,if_pos h58])),trivial⟩ we tN
  have h58:¬ty1 y x=0:=by simpa using hc2
  refine QN ?_;exact JY ⟨rfl,rfl,rfl,rfl,(congrArg (λz=>some (ah .i64 z)) (by rw[hte,if_neg h58])),trivial⟩ we tM
 simp only[ab,ae];refine wA 7 I ?_;refine QQ I (λhc2=>?_) λhc2=>?_
 ·have h62:(NS y x.fr x.bl x.te x.wl x.o)≠0:=bne_iff_ne.1 hc2;refine XV _ (λw F hF ⟨⟨⟨hGl,hy,hx⟩,h28⟩,_⟩=>(show BQ F c28 [] by rw[S5 h62]at h28;exact h28).2.1) (λn28=>?_);have n28:c28.n=0:=n28;refine wb I<|QA (Qg I XF) ?_
  rw[n28];refine QA (QT (v:=.bool true) rfl rfl (rfl))<|wB 6 I ?_
  rw[S5 h62];refine QA (QT (v:=.bool true) rfl rfl (eqI8 _))<|wB 3 I<|QI I (λ_ _ f k=>CX f k.1.1.1) λ_=>wD 5 I ?_
  exact wg I I (rfl) tL
 have h62:(NS y x.fr x.bl x.te x.wl x.o)=0:=bne_eq_false_iff_eq.1 hc2;obtain⟨hye,n,hon,hn3⟩:=hall0 h62;have hsm:=QGg hl hrl (hyo hye) (yQ hg1).1 ((yQ hg1).2 hye);have hall:=Xep (n:=n) hsm.1 O hhv h62 (by rw[hrl,(hyo hye).rn]) hn3;have hono:x.o=((x.o.toNat:Nat):Int):=O;rw[show n=x.o.toNat by omega]at hall;rw[h62];refine XV _ (λ_ _ f k=>k.1.2.2.1) (λhn28=>?_);have hn28:c28.n<=1000000:=by
  rw[EI]at hn28;split at hn28
  ·rw[hn28];exact ak _
  rw[hn28,Xe5,Yg];omega
 refine wC 6 I<|QA (wO I J6 .u1)<|QA (QH I Xdb JF)<|QA (Qe I JF .here .h1)<|QA (QH I Xdn J0)<|QA (Qe I J0 .here (.skip (.skip .h1)))<|QA (QH I Xda JF)<|QA (Qe I JF .here (.skip .h1))<|QA (QH I Xdm J0)<|QA (Qe I J0 .here (.skip (.skip (.skip .h1))))<|QA (QH I Xd9 JK)<|QA (Qe I JK .here (.skip (.skip (.skip (.skip .h1)))))<|QI I (λw F hF ⟨⟨⟨hGl,hy,hx⟩,h28⟩,_⟩=>Xe6 (y:=y) (a:=x.fr) (b:=x.te) (rx:=x.bx) (ro:=x.wh) (vx:=lV x.bl) (on:=lV x.wl) (n:=x.o.toNat) hono hF hy (hx.1.q (XZ hall.2.2.2.2.1).2) (hx.2.q (XZ hall.2.2.2.2.2).2) hall.2.2.1 hall.2.2.2.1 hall.1.lx hall.1.lo ⟨O,O,O⟩ hsm.1.pl hall.1.tb) λc87=>JQ _ (λ_ _ f k=>k.2.len) λhn87=>?_
 rw[Xe5,Yg]at hn87;refine QI I (λ_ F f k=>Xen (hv:=I4 (O2 0 (some (Yc y.rs (Qz x.fr) (Qz x.te) (lV x.bl) (lV x.wl) x.o.toNat))).2) (wt:=I4 (Yc y.rs (Qz x.fr) (Qz x.te) (lV x.bl) (lV x.wl) x.o.toNat)) (e:=(O2 0 (some (Yc y.rs (Qz x.fr) (Qz x.te) (lV x.bl) (lV x.wl) x.o.toNat))).1) f (BQ.CW k.1.1.2) k.2.CW hn28 (Xct (F:=F) (by rw[Xe5,Yg];omega) O hall.1.zt)) (λ_=>?_);rw[Xet];refine wB 2 I<|QI I (λ_ _ f k=>CX f k.1.1.1.1.1) λ_=>wD 5 I ?_
 exact wg I I (rfl) tL
end Go.Proofs.YtjcphjpkimmmjaaGreatDoor
