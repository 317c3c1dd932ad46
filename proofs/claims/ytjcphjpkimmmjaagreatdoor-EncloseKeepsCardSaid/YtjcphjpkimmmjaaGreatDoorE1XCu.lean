/- Steps of the proof of the theorem in the last file. -/
import Derived.Test.YtjcphjpkimmmjaaGreatDoorE0XCu
set_option linter.all false
set_option maxHeartbeats 4000000
open Go.Proofs.Tryz
open Go.Value renaming bool → aa,int → ak,okWide → bL,agg → eM
open List renaming nil_append → ab,cons_append → ae,length_append → aj,length_cons → ao,length_map → au,append_nil → av,all_eq_true → ax,take_of_length_le → ay,length_range → aA,mem_map_of_mem → aC,flatMap_append → aF,length_take → aG,getElem_of_mem → aH,foldl_append → aL,length_drop → aQ,mem_of_mem_take → aR,mem_cons_of_mem → aS,length_set → aU,drop_succ_cons → aV,append_assoc → aX,take_length → aZ,getElem_mem → ba,perm_append_comm → bc,getElem?_toArray → bh,take_zero → bm,mem_of_mem_drop → bp,range → bw,flatMap_cons → bB,Sublist → bC,eq_nil_of_length_eq_zero → bH,sublist_append_right → bJ,getElem?_eq_getElem → bK,map_map → bN,take_append_drop → bP,take_succ_cons → bS,getElem?_map → bW,any_eq_false → bX,range_succ → ei,map_append → ep,foldl_cons → er,drop_zero → ew,sum_cons → eB,map_take → eC,map_cons → eD,map_id → eK
open Nat renaming le_trans → af,le_refl → ah,zero_le → aE,mul_le_mul_left → aI,pow_one → aJ,zero_add → aM,mul_le_mul → aN,mul_le_mul_right → aT,mul_pos → aY,lt_of_lt_of_le → bz,lt_or_ge → bD,dvd_refl → bF,pow_le_pow_right → bQ,add_mul → bR,add_le_add_left → bU,dvd_mul_right → bZ,not_lt_zero → eu,beq → eH,add_comm → eI
open Bool renaming eq_iff_iff → ag,or_eq_false_iff → ai,and_eq_true → aq,not_not → ar,not_eq_true' → aB,not_eq_false' → aD,and_eq_false_iff → aP,and_false → bI,not_eq_true → ee
open List.Sublist renaming refl → aK
open Go.DataW renaming trod → aO,Trod → bT
open List.cons renaming inj → aW
open Int renaming natCast_mul → bj,natAbs_natCast → bA,natAbs_mul → eE
open Go.Builtin renaming append_ → bG
open Go.Lib renaming decDigits → bM
open Rat renaming le_trans → bO,mkRat_self → ey,pow_zero → eG,le_refl → eL
open Option renaming map_some → bV
open Decidable renaming em → bY
open Go.Instr renaming slice → eF
namespace Go.Proofs.YtjcphjpkimmmjaaGreatDoor
variable{w:World}{F:Gs}{s:List UInt8}{a:NQ}{D E K N S T Z b c cap i k m n:Nat}{l:List (List UInt8×List UInt8)}{y:Xz}{tb:List Wl}{cs:List Value}{bs:List XP}{ps:List V0}
open Go.RowKit Ig
theorem QEo(A:Fits F w)(B:s.length<=9223372036854775807):Qf prog 116 [tx s] w F (.bool (cN s)):=by
 refine QU.intro (G:=λF=>True) func116 rfl tH rfl rfl A tL<|wa<|wZ rfl<|QG<|wa<|wZ rfl<|QV<|J9 (ι:=Wo s λc=>EK c.toNat) [(0,_)] (λi=>[(3,.int .i64 ((i.i:Nat):Int))]) (λi=>s.length-i.i) (Wo.start _ _) wk wk λi=>?_
 simp only[ae,ab];have z:=i.le;refine wA 5 I<|QA (Xc I Zm)<|wD 3 I ?_
 refine QQ I (λhc=>?_) λhc=>?_
 ·have hi:i.i<s.length:=tD<|wi hc
  refine wC 8 I<|QA (Hh (i:=i.i) rfl rfl Zm hi) ?_
  obtain⟨c,a⟩:∃c,c=s[i.i].toNat:=⟨_,rfl⟩;rw[<-a];refine wD 3 I ?_;refine ZZ [(0,_),(3,_)] [(48,.bool ((!EK c)))] wm ?_ ?_
  ·refine wA 4 I ?_;refine Qn (t:=16) rfl (λx=>?_) λx=>?_
   ·refine wB 6 I ?_;refine Qn (t:=20) rfl (λu=>?_) λu=>?_
    ·refine wB 3 I<|Jn I I<|Jn I I<|wB 6 I<|Jn I I<|Jn I I<|wB 12 I ?_
     refine wB 2 I<|QA (XL I)<|QE ?_
     exact JY ⟨rfl,rfl,(congrArg (λb=>some (aa b)) (by clear a;rw[ag];simp_all [EK,Yp]<;>omega)),trivial⟩ we tM
    refine wB 6 I ?_;refine Qn (t:=23) rfl (λl=>?_) λl=>?_
    ·refine wB 8 I ?_;refine Qn (t:=28) rfl (λk=>?_) λk=>?_
     ·refine wB 3 I<|Jn I I<|Jn I I<|wB 14 I<|QA (XL I)<|QE ?_
      exact JY ⟨rfl,rfl,(congrArg (λb=>some (aa b)) (by clear a;rw[ag];simp_all [EK,Yp]<;>omega)),trivial⟩ we tM
     refine wB 6 I ?_;refine Qn (t:=31) rfl (λj=>?_) λj=>?_
     ·refine wB 8 I ?_;refine Qn (t:=36) rfl (λh=>?_) λh=>?_
      ·refine wB 11 I<|QA (XL I)<|QE ?_
       exact JY ⟨rfl,rfl,(congrArg (λb=>some (aa b)) (by clear a;rw[ag];simp_all [EK,Yp]<;>omega)),trivial⟩ we tM
      refine wB 6 I ?_;refine Qn (t:=40) rfl (λg=>?_) λg=>?_
      ·refine wB 7 I<|QA (XL I)<|QE ?_
       exact JY ⟨rfl,rfl,(congrArg (λb=>some (aa b)) (by clear a;rw[ag];simp_all [EK,Yp]<;>omega)),trivial⟩ we tM
      refine wB 6 I ?_;refine Qn (t:=44) rfl (λf=>?_) λf=>?_
      ·refine wB 3 I<|QA (XL I)<|QE ?_
       exact JY ⟨rfl,rfl,(congrArg (λb=>some (aa b)) (by clear a;rw[ag];simp_all [EK,Yp]<;>omega)),trivial⟩ we tM
      refine wB 5 I<|QA (XL I)<|QE ?_
      exact JY ⟨rfl,rfl,(congrArg (λb=>some (aa b)) (by clear a;rw[ag];simp_all [EK,Yp]<;>omega)),trivial⟩ we tM
     refine wB 12 I ?_;refine Qn (t:=40) rfl (λg=>?_) λg=>?_
     ·refine wB 7 I<|QA (XL I)<|QE ?_
      exact JY ⟨rfl,rfl,(congrArg (λb=>some (aa b)) (by clear a;rw[ag];simp_all [EK,Yp]<;>omega)),trivial⟩ we tM
     refine wB 6 I ?_;refine Qn (t:=44) rfl (λf=>?_) λf=>?_
     ·refine wB 3 I<|QA (XL I)<|QE ?_
      exact JY ⟨rfl,rfl,(congrArg (λb=>some (aa b)) (by clear a;rw[ag];simp_all [EK,Yp]<;>omega)),trivial⟩ we tM
     refine wB 5 I<|QA (XL I)<|QE ?_
     exact JY ⟨rfl,rfl,(congrArg (λb=>some (aa b)) (by clear a;rw[ag];simp_all [EK,Yp]<;>omega)),trivial⟩ we tM
    refine wB 12 I ?_;refine Qn (t:=31) rfl (λj=>?_) λj=>?_
    ·refine wB 8 I ?_;refine Qn (t:=36) rfl (λh=>?_) λh=>?_
     ·refine wB 11 I<|QA (XL I)<|QE ?_
      exact JY ⟨rfl,rfl,(congrArg (λb=>some (aa b)) (by clear a;rw[ag];simp_all [EK,Yp]<;>omega)),trivial⟩ we tM
     refine wB 6 I ?_;refine Qn (t:=40) rfl (λg=>?_) λg=>?_
     ·refine wB 7 I<|QA (XL I)<|QE ?_
      exact JY ⟨rfl,rfl,(congrArg (λb=>some (aa b)) (by clear a;rw[ag];simp_all [EK,Yp]<;>omega)),trivial⟩ we tM
     refine wB 6 I ?_;refine Qn (t:=44) rfl (λf=>?_) λf=>?_
     ·refine wB 3 I<|QA (XL I)<|QE ?_
      exact JY ⟨rfl,rfl,(congrArg (λb=>some (aa b)) (by clear a;rw[ag];simp_all [EK,Yp]<;>omega)),trivial⟩ we tM
     refine wB 5 I<|QA (XL I)<|QE ?_
     exact JY ⟨rfl,rfl,(congrArg (λb=>some (aa b)) (by clear a;rw[ag];simp_all [EK,Yp]<;>omega)),trivial⟩ we tM
    refine wB 12 I ?_;refine Qn (t:=40) rfl (λg=>?_) λg=>?_
    ·refine wB 7 I<|QA (XL I)<|QE ?_
     exact JY ⟨rfl,rfl,(congrArg (λb=>some (aa b)) (by clear a;rw[ag];simp_all [EK,Yp]<;>omega)),trivial⟩ we tM
    refine wB 6 I ?_;refine Qn (t:=44) rfl (λf=>?_) λf=>?_
    ·refine wB 3 I<|QA (XL I)<|QE ?_
     exact JY ⟨rfl,rfl,(congrArg (λb=>some (aa b)) (by clear a;rw[ag];simp_all [EK,Yp]<;>omega)),trivial⟩ we tM
    refine wB 5 I<|QA (XL I)<|QE ?_
    exact JY ⟨rfl,rfl,(congrArg (λb=>some (aa b)) (by clear a;rw[ag];simp_all [EK,Yp]<;>omega)),trivial⟩ we tM
   refine wB 10 I ?_;refine Qn (t:=23) rfl (λl=>?_) λl=>?_
   ·refine wB 8 I ?_;refine Qn (t:=28) rfl (λk=>?_) λk=>?_
    ·refine wB 3 I<|Jn I I<|Jn I I<|wB 14 I<|QA (XL I)<|QE ?_
     exact JY ⟨rfl,rfl,(congrArg (λb=>some (aa b)) (by clear a;rw[ag];simp_all [EK,Yp]<;>omega)),trivial⟩ we tM
    refine wB 6 I ?_;refine Qn (t:=31) rfl (λj=>?_) λj=>?_
    ·refine wB 8 I ?_;refine Qn (t:=36) rfl (λh=>?_) λh=>?_
     ·refine wB 11 I<|QA (XL I)<|QE ?_
      exact JY ⟨rfl,rfl,(congrArg (λb=>some (aa b)) (by clear a;rw[ag];simp_all [EK,Yp]<;>omega)),trivial⟩ we tM
     refine wB 6 I ?_;refine Qn (t:=40) rfl (λg=>?_) λg=>?_
     ·refine wB 7 I<|QA (XL I)<|QE ?_
      exact JY ⟨rfl,rfl,(congrArg (λb=>some (aa b)) (by clear a;rw[ag];simp_all [EK,Yp]<;>omega)),trivial⟩ we tM
     refine wB 6 I ?_;refine Qn (t:=44) rfl (λf=>?_) λf=>?_
     ·refine wB 3 I<|QA (XL I)<|QE ?_
      exact JY ⟨rfl,rfl,(congrArg (λb=>some (aa b)) (by clear a;rw[ag];simp_all [EK,Yp]<;>omega)),trivial⟩ we tM
     refine wB 5 I<|QA (XL I)<|QE ?_
     exact JY ⟨rfl,rfl,(congrArg (λb=>some (aa b)) (by clear a;rw[ag];simp_all [EK,Yp]<;>omega)),trivial⟩ we tM
    refine wB 12 I ?_;refine Qn (t:=40) rfl (λg=>?_) λg=>?_
    ·refine wB 7 I<|QA (XL I)<|QE ?_
     exact JY ⟨rfl,rfl,(congrArg (λb=>some (aa b)) (by clear a;rw[ag];simp_all [EK,Yp]<;>omega)),trivial⟩ we tM
    refine wB 6 I ?_;refine Qn (t:=44) rfl (λf=>?_) λf=>?_
    ·refine wB 3 I<|QA (XL I)<|QE ?_
     exact JY ⟨rfl,rfl,(congrArg (λb=>some (aa b)) (by clear a;rw[ag];simp_all [EK,Yp]<;>omega)),trivial⟩ we tM
    refine wB 5 I<|QA (XL I)<|QE ?_
    exact JY ⟨rfl,rfl,(congrArg (λb=>some (aa b)) (by clear a;rw[ag];simp_all [EK,Yp]<;>omega)),trivial⟩ we tM
   refine wB 12 I ?_;refine Qn (t:=31) rfl (λj=>?_) λj=>?_
   ·refine wB 8 I ?_;refine Qn (t:=36) rfl (λh=>?_) λh=>?_
    ·refine wB 11 I<|QA (XL I)<|QE ?_
     exact JY ⟨rfl,rfl,(congrArg (λb=>some (aa b)) (by clear a;rw[ag];simp_all [EK,Yp]<;>omega)),trivial⟩ we tM
    refine wB 6 I ?_;refine Qn (t:=40) rfl (λg=>?_) λg=>?_
    ·refine wB 7 I<|QA (XL I)<|QE ?_
     exact JY ⟨rfl,rfl,(congrArg (λb=>some (aa b)) (by clear a;rw[ag];simp_all [EK,Yp]<;>omega)),trivial⟩ we tM
    refine wB 6 I ?_;refine Qn (t:=44) rfl (λf=>?_) λf=>?_
    ·refine wB 3 I<|QA (XL I)<|QE ?_
     exact JY ⟨rfl,rfl,(congrArg (λb=>some (aa b)) (by clear a;rw[ag];simp_all [EK,Yp]<;>omega)),trivial⟩ we tM
    refine wB 5 I<|QA (XL I)<|QE ?_
    exact JY ⟨rfl,rfl,(congrArg (λb=>some (aa b)) (by clear a;rw[ag];simp_all [EK,Yp]<;>omega)),trivial⟩ we tM
   refine wB 12 I ?_;refine Qn (t:=40) rfl (λg=>?_) λg=>?_
   ·refine wB 7 I<|QA (XL I)<|QE ?_
    exact JY ⟨rfl,rfl,(congrArg (λb=>some (aa b)) (by clear a;rw[ag];simp_all [EK,Yp]<;>omega)),trivial⟩ we tM
   refine wB 6 I ?_;refine Qn (t:=44) rfl (λf=>?_) λf=>?_
   ·refine wB 3 I<|QA (XL I)<|QE ?_
    exact JY ⟨rfl,rfl,(congrArg (λb=>some (aa b)) (by clear a;rw[ag];simp_all [EK,Yp]<;>omega)),trivial⟩ we tM
   refine wB 5 I<|QA (XL I)<|QE ?_
   exact JY ⟨rfl,rfl,(congrArg (λb=>some (aa b)) (by clear a;rw[ag];simp_all [EK,Yp]<;>omega)),trivial⟩ we tM
  simp only[ae,ab];refine QQ I (λhc=>?_) λhc=>?_
  ·have n:EK (el s i.i).toNat=false:=by rw[Jb hi,<-a];simpa using hc
   refine wA 6 I ?_
   repeat first|refine Q6 ?_|refine Qv ?_
   exact wg I I (congrArg aa (by unfold cN;rw[i.hit hi n];rfl)) tL
  have y:=hc;refine QN<|Qj<|wE 3 I<|QA (Qu I I O)<|wB 2 I ?_
  exact Ql (i.next hi (by rw[Jb hi,<-a];simpa using y)) (by show s.length-(i.i+1)<s.length-i.i;omega) wm we tM
 have m:s.length<=i.i:=tD<|wj hc
 refine Qx ?_
 repeat first|refine QY ?_|refine QO tH ?_
 refine QZ<|wE 4 I<|QA (Xc I Zm)<|wB 2 I ?_
 refine Qn (t:=52) rfl (λo=>?_) λo=>?_
 ·refine wB 3 I<|QA (Xc I Zm)<|wD 7 I ?_
  exact wg I I (congrArg aa (by unfold cN;rw[i.stop m];rw[ag];simp at *;simp_all<;>omega)) tL
 refine wD 8 I ?_;exact wg I I (congrArg aa (by unfold cN;rw[i.stop m];rw[ag];simp at *;simp_all<;>omega)) tL
def vH(u:Nat){k:Nat}(hk:0<k)(h:(bM u).length<=k):sz (u:Int)<=4*k:=by
 rw[Lib.decDigits_length]at h;rw[XD,bA];have h1:¬10^k<=u:=λe=>tD ((RP (u:=u) hk).2 e);have h2:10^k<=16^k:=Nat.pow_le_pow_left tF _;have h3:(16:Nat)^k=2^(4*k):=by rw[Nat.pow_mul]
 rw[<-h3];exact bz (Nat.lt_of_not_le h1) h2
def QCf(z:Int){k:Nat}(hk:0<k)(h:(Ze z).length<=k):sz z<=4*k:=by
 have e:sz z=sz (z.natAbs:Int):=by unfold sz;simp
 rw[e];refine vH _ hk ?_;rcases Int.lt_or_le z 0 with g | g
 ·rw[Yo g,ao]at h;omega
 rwa [XJ g]at h
def QF9(x:Rat){k:Nat}(hk:0<k)(h:(JP x).length<=k):JW x<=4*k:=by
 unfold JW;unfold JP at h;split at h
 ·rename_i hd;rw[hd];exact Nat.max_le.2 ⟨QCf _ hk h,af (show sz ((1:Nat):Int)<=1 by decide) O⟩
 rw[aj,ao]at h;exact Nat.max_le.2 ⟨QCf _ hk O,vH _ hk O⟩
def OU(h:Jp s=0){k:Nat}(hk:0<k)(a:s.length<=k):JW (Qz s)<=4*k :=
 QF9 _ hk (by rw[<-(XM h).1];exact a)
theorem QCr{a:List UInt8}{d:Int}(j:Fits F w)(hd:0<=d/\d<=1000):Qf prog 57 [tx a,.int .i64 d] w F (.bool (Uz a d)):=by
 have hn:=vX a;refine QU.intro (G:=λF=>True) func57 rfl tH rfl rfl j tL<|wa<|wZ rfl<|wb rfl<|QA (Xc rfl Bw)<|wW rfl<|QA (Mx rfl rfl O)<|QA (Qu rfl rfl O)<|QA (QT rfl rfl rfl)<|wW rfl ?_
 refine Qn (t:=11) rfl (λc=>?_) λc=>?_
 ·have i:a.length<=1000000:=by have h1:=wi c;omega
  refine wB 3 I<|QI I (λ_ _ f k=>Ou f (i)) λ_=>wB 4 I ?_
  refine Qn (t:=16) rfl (λb=>?_) λb=>?_
  ·refine wB 3 I<|QI I (λ_ _ f k=>QA6 f O) λ_=>QL I I<|QI I (λ_ _ f k=>gi f ) λ_=>QL I I<|QA (Xc I Bw)<|wB 6 I ?_
   refine Qn (t:=24) rfl (λh=>?_) λh=>?_
   ·refine wB 3 I<|QI I (λ_ _ f k=>QA9 f O) λ_=>QL I I<|QA (Xc I Bw)<|wD 9 I ?_
    exact wg I I ((congrArg aa (by have h1:=wi c;simp[Uz,h1];simp at b h;simp[b,h]))) tL
   refine wD 10 I ?_;exact wg I I ((congrArg aa (by have h1:=wi c;simp[Uz,h1];simp at b h;simp[b];intro g;omega))) tL
  refine wD 18 I ?_;exact wg I I ((congrArg aa (by have h1:=wi c;simp at b;simp[Uz,h1,b]))) tL
 refine wD 23 I ?_;exact wg I I ((congrArg aa (by simp[Uz,c]))) tL
theorem gU{q:Option Addr}{n:Nat}{m d:Int}(y:Fits F w)(x:Qy F q n 2 (l.flatMap NU))(s:l.length=n)(hd:0<=d/\d<=1000)(hn:n<=1000000):Qf prog 56 [.slice q n c,.int .i64 m,.int .i64 d] w F (.bool (decide ((n:Int)<=m)&&l.all (cx d))):=by
 have o:=s;refine QU.intro (G:=λF=>Qy F q n 2 (l.flatMap NU)) func56 rfl tH rfl rfl y (λF' j=>x.le j)<|wa<|wZ rfl<|QG<|wb rfl<|QA (Qg rfl XF)<|wW rfl<|QA (QT rfl rfl rfl)<|QE<|QC ?_
 refine QQ I (λhc=>?_) λhc=>?_
 ·have u:=wi hc;refine wA 6 I ?_;exact wg I I (congrArg aa (by have h1:decide ((n:Int)<=m)=false:=decide_eq_false O;rw[h1];rfl)) tL
 have u:=wj hc;refine wC 9 I<|J9 (ι:=Wo l (cx d)) [(0,_),(2,_)] (λi=>[(7,.int .i64 ((i.i:Nat):Int))]) (λi=>l.length-i.i) (Wo.start _ _) wm wk λi=>?_
 simp only[ae,ab];refine wA 5 I<|QA (Qg I XF)<|wD 3 I ?_
 refine QQ I (λhc=>?_) λhc=>?_
 ·have hi:i.i<l.length:=tD<|wi hc
  refine wC 4 I ?_;refine ZZ [(0,_),(2,_),(7,_)] [(49,.bool (!cx d (el l i.i)))] wu ?_ ?_
  ·refine JG we mixed tE<|QK (QD I)<|QK (QD I)<|QK (Q3 (n:=n) i.i tM rfl rfl XF Jd O)<|QK (QH I V6 JF)<|QK (JA (n:=n) ((i.i)*2+0) tM O rfl JF (JN (f:=NU) (l:=l) K1 O rfl))<|QK (QD I)<|QR I (λ_ _ f k=>QCr f hd) λ_=>QK (XL I)<|QK (QD I) ?_
   refine Gg (t:=26) rfl (λa=>?_) λa=>?_
   ·refine Jj I I I<|Jj I I I<|Jj I I I<|Jj I I I<|Jj I I I<|Jj I I I<|Jj I I I<|Jj I I I<|QK (Qh I I I)<|QK (QD I)<|Jj I I I<|Jj I I I<|Jj I I I<|Jj I I I<|Jj I I I<|Jj I I I<|Jj I I I<|Jj I I I<|Jj I I I<|Jj I I I<|Jj I I I<|Jj I I I<|QK (Qh I I I)<|Q7 ?_
    exact JY ⟨rfl,rfl,rfl,(congrArg (λb=>some (aa b)) (by simp at a;simp[cx,a])),trivial⟩ we tN
   refine XA I I<|QK (QD I)<|XA I I<|QK (QD I)<|XA I I<|QK (Q3 (n:=n) i.i tM rfl rfl XF Jd O)<|XA I I<|QK (QH I We JF)<|XA I I<|QK (JA (n:=n) ((i.i)*2+1) tM O rfl JF (JN (f:=NU) (l:=l) K1 O rfl))<|XA I I<|QK (QD I)<|XA I I<|QR I (λ_ _ f k=>QCr f hd) λ_=>XA I I<|QK (XL I)<|QK (Qd I I I)<|QK (QD I) ?_
   refine Gg (t:=36) rfl (λg=>?_) λg=>?_
   ·refine Jj I I I<|Jj I I I<|Jj I I I<|Jj I I I<|Jj I I I<|Jj I I I<|Jj I I I<|Jj I I I<|Jj I I I<|Jj I I I<|Jj I I I<|Jj I I I<|QK (Qh I I I)<|Q7 ?_
    exact JY ⟨rfl,rfl,rfl,(congrArg (λb=>some (aa b)) (by simp at a g;simp[cx,a,g])),trivial⟩ we λ_ h=>h.1.1
   refine XA I I<|QK (QD I)<|XA I I<|QK (QD I)<|XA I I<|QK (Q3 (n:=n) i.i tM rfl rfl XF Jd O)<|XA I I<|QK (QH I V6 JF)<|XA I I<|QK (JA (n:=n) ((i.i)*2+0) tM O rfl JF (JN (f:=NU) (l:=l) K1 O rfl))<|XA I I<|QK (QD I)<|XA I I<|QK (QD I)<|XA I I<|QK (Q3 (n:=n) i.i tM rfl rfl XF Jd O)<|XA I I<|QK (QH I We JF)<|XA I I<|QK (JA (n:=n) ((i.i)*2+1) tM O rfl JF (JN (f:=NU) (l:=l) K1 O rfl))<|XA I I<|QR I (λ_ _ f k=>QCs f (QDC (by simpa using a)) (QDC (by simpa using g))) λ_=>XA I I<|QK (QT I I I)<|QK (Qd I I I) ?_
   refine Q7 ?_;exact JY ⟨rfl,rfl,rfl,(congrArg (λb=>some (aa b)) (by simp at a g;simp[cx,a,g])),trivial⟩ we λ_ h=>h.1.1.1
  simp only[ae,ab];refine QQ I (λhc=>?_) λhc=>?_
  ·refine wA 6 I ?_
   repeat first|refine Q6 ?_|refine Qv ?_
   exact wg I I (congrArg aa (by rw[i.hit hi (by simpa using hc),bI])) tL
  refine QN<|Qj<|wE 3 I<|QA (Qu I I O)<|wB 2 I ?_
  exact Ql (i.next hi (by simpa using hc)) (by show l.length-(i.i+1)<l.length-i.i;omega) wu we tM
 have hi:l.length<=i.i:=tD<|wj hc
 refine Qx ?_
 repeat first|refine QY ?_|refine QO tH ?_
 refine QZ<|wE 7 I ?_
 exact wg I I (congrArg aa (by rw[i.stop hi];have h1:decide ((n:Int)<=m)=true:=decide_eq_true O;rw[h1];rfl)) tL
def vt(r:Rat):Qz (JP r)=r:=by
 unfold Qz JP;by_cases h:r.den=1
 ·rw[if_pos h,TW (Pf _)];dsimp only;rw[if_neg tF,Kt];have:=ey r;rw[h,Rat.mkRat_one]at this;exact this
 rw[if_neg h,Ei (Pf _)];dsimp only;rw[if_pos rfl,Kt,Xi];exact ey r
def QCD(x:Int):Qs [x]=x:=by
 unfold Qs;split
 ·rename_i h;rw[h];rfl
 rfl
def AZ(s:List UInt8×List UInt8):Bool:=!(decide ((s.1.length:Int)>40)||decide ((s.2.length:Int)>40))
def Ts(l:List (List UInt8×List UInt8)):Bool:=l.all AZ&&decide (l.length<=30)
def AY(h:Ts l=true):l.length<=30/\∀s∈l,s.1.length<=40/\s.2.length<=40:=by
 unfold Ts at h;rw[aq,ax,decide_eq_true_eq]at h;refine⟨h.2,λs a=>?_⟩;have:=h.1 s a;unfold AZ at this;simp at this;omega
theorem gW{n:Nat}{r:Sr}(g:Fits F w)(hx:Ks F r l)(hc:BS r l):Qf prog 31 [.int .i64 (n:Int),r.v] w F (.int .i64 (YZ n l)):=by
 have c:=hx.len;have hn:=hc.n;refine QU.intro (G:=λF=>Ks F r l) func31 rfl tH rfl rfl g (λF' b=>hx.le b)<|wa<|wZ rfl<|QG<|wb rfl<|QA (Qg rfl XF)<|wW rfl<|QA (QT rfl rfl rfl)<|QE<|QC ?_
 refine QQ I (λa=>?_) λa=>?_
 ·have h8:=bne_iff_ne.1 a;refine wA 6 I ?_;exact wg I I (congrArg (ak .i64) (by unfold YZ;rw[if_pos O])) tL
 have h8:=bne_eq_false_iff_eq.1 a;refine wC 5 I<|QI I (λ_ _ f k=>jG f k.row ⟨c,hc.t⟩ hn) λ_=>wD 4 I ?_
 exact wg I I (congrArg (ak .i64) (by unfold YZ;rw[if_neg O])) tL
theorem um{r:Sr}(s:Fits F w)(hx:Ks F r l)(hn:r.n<=9223372036854775807):Qf prog 24 [r.v] w F (.bool (Ts l)):=by
 have m:=hx.len;refine QU.intro (G:=λF=>Ks F r l) func24 rfl tH rfl rfl s (λF' k=>hx.le k)<|wa<|wZ rfl<|QG<|wa<|wZ rfl<|QV<|J9 (ι:=Wo l AZ) [(0,_)] (λi=>[(3,.int .i64 ((i.i:Nat):Int))]) (λi=>l.length-i.i) (Wo.start _ _) wk wk λi=>?_
 simp only[ae,ab];have hi:=i.le;refine wA 5 I<|QA (Qg I XF)<|wD 3 I ?_
 refine QQ I (λa=>?_) λa=>?_
 ·have g:i.i<l.length:=tD<|wi a
  have o:=Qw g;refine wC 4 I ?_;refine ZZ [(0,_),(3,_)] [(25,.bool (!(AZ (el l i.i))))] wm ?_ ?_
  ·refine wA 3 I<|QA (Q3 (n:=r.n) i.i (λF hx=>hx.row) rfl rfl XF Jd O)<|QA (QH I V6 JF)<|QA (JA (n:=r.n) ((i.i)*2+0) (λF hx=>hx.row) O rfl JF (JN (f:=NU) (l:=l) K1 O rfl))<|QA (Xc I Bw)<|wB 2 I ?_
   refine Qn (t:=17) rfl (λc=>?_) λc=>?_
   ·refine wB 9 I ?_;exact JY ⟨rfl,rfl,(congrArg (λb=>some (aa b)) (by unfold AZ;rw[ar,c];rfl)),trivial⟩ we tM
   refine wB 5 I<|QA (Q3 (n:=r.n) i.i (λF hx=>hx.row) rfl rfl XF Jd O)<|QL I I<|QA (QH I We JF)<|QL I I<|QA (JA (n:=r.n) ((i.i)*2+1) (λF hx=>hx.row) O rfl JF (JN (f:=NU) (l:=l) K1 O rfl))<|QL I I<|QA (Xc I Bw)<|wB 4 I ?_
   exact JY ⟨rfl,rfl,(congrArg (λb=>some (aa b)) (by unfold AZ;rw[ar,c];rfl)),trivial⟩ we tM
  simp only[ae,ab];refine QQ I (λa=>?_) λa=>?_
  ·have h:AZ (el l i.i)=false:=by simpa using a
   refine wA 6 I ?_
   repeat first|refine Q6 ?_|refine Qv ?_
   exact wg I I (congrArg aa (by unfold Ts;rw[i.hit g h];rfl)) tL
  have h:AZ (el l i.i)=true:=by simpa using a
  refine QN<|Qj<|wE 3 I<|QA (Qu I I O)<|wB 2 I ?_
  exact Ql (i.next g h) (by show l.length-(i.i+1)<l.length-i.i;omega) wm we tM
 have j:l.length<=i.i:=tD<|wj a
 refine Qx ?_
 repeat first|refine QY ?_|refine QO tH ?_
 refine QZ<|wE 4 I<|QA (Qg I XF)<|wD 5 I ?_
 exact wg I I (congrArg aa (by unfold Ts;rw[i.stop j,Bool.true_and,m];exact decide_eq_decide.2 O)) tL
structure vG(y:Xz):Prop where
 nn:y.nm.n<=9223372036854775807
 nc:y.nm.n<=y.nm.cap
 nt:∀s∈y.nl,s.length<=9223372036854775807
 rn:y.rt.n<=9223372036854775807
 sn:y.st.n<=9223372036854775807
 rl:∀e∈y.rl,e.2.length=e.1.n/\e.1.n<=9223372036854775807/\∀t∈e.2,t.k.length=t.r.n
def shT(t:V0):Bool:=!(decide ((t.r.n:Int)>30)||decide ((t.f.length:Int)>30))
def shP(e:NQ):Bool:=!(decide ((e.1.n:Int)>70))&&e.2.all shT
def shN(y:Xz):Bool:=decide ((y.nm.n:Int)>30)||decide ((y.rt.n:Int)>30)||decide ((y.st.n:Int)>30)
def shS(y:Xz):Bool:=!(shN y)&&(y.rl.all shP&&y.sl.all AZ)
structure QId(y:Xz):Prop where
 n:y.nm.n<=30/\y.rt.n<=30/\y.st.n<=30
 r:∀e∈y.rl,e.1.n<=70/\∀t∈e.2,t.r.n<=30/\t.f.length<=30
 s:∀s∈y.sl,s.1.length<=40/\s.2.length<=40
def QHL{s:List UInt8×List UInt8}(h:AZ s=true):s.1.length<=40/\s.2.length<=40:=by
 unfold AZ at h;simp at h;omega
theorem QIJ(h:shS y=true):QId y:=by
 unfold shS at h;simp only[aq,ax]at h;obtain⟨h1,h2,h3⟩:=h;refine⟨?_,λe he=>?_,λs a=>QHL (h3 s a)⟩
 ·unfold shN at h1;simp at h1;omega
 have:=h2 e he;unfold shP at this;simp only[aq,ax]at this;refine⟨by have:=this.1;simp at this;omega,λt ht=>?_⟩;have h4:=this.2 t ht;unfold shT at h4;simp at h4;omega
theorem vG.t(h:vG y)(k:QId y):GJ y :=
 ⟨tD k.n,h.nc,h.nt,tD k.n,λe he=>⟨(h.rl e he).1,λt ht=>⟨tD<|(k.r e he).2 t ht,by rw[(h.rl e he).2.2 t ht];have:=(k.r e he).2 t ht;omega⟩,by rw[(h.rl e he).1];have:=(k.r e he).1;omega⟩,tD k.n,λs a=>tD<|k.s s a⟩
def vG.ts(h:vG y)(k:shS y=true):GJ y:=h.t (QIJ k)
def yX(y:Xz)(v g:Int):Bool:=!(!(shS y)||(y.e != 0)||decide ((y.rt.n:Int)>v)||(!(decide ((y.st.n:Int)<=v)&&y.sl.all (cx g))&&decide ((y.st.n:Int)>0)))
def pT(y:Xz)(v d g:Int):Bool:=yX y v g&&y.rl.all λe=>fpB (ZX e.2) (y.rt.n:Int) 4 d g
def QFQ{v g:Int}(h:yX y v g=true):shS y=true/\y.e=0/\(y.rt.n:Int)<=v/\(y.st.n=0\/((y.st.n:Int)<=v/\∀s∈y.sl,cx g s=true)):=by
 unfold yX at h;simp only[aB,ai,aD,bne_eq_false_iff_eq,decide_eq_false_iff_not]at h;obtain⟨⟨⟨h1,h2⟩,h3⟩,h4⟩:=h;refine⟨by simpa using h1,h2,O,?_⟩;by_cases g:y.st.n=0
 ·exact .inl g
 right;have:decide ((y.st.n:Int)>0)=true:=decide_eq_true O;rw[this,Bool.and_true]at h4;simp only[aD,aq,decide_eq_true_eq,ax]at h4;exact h4
def gK{nl:List (List UInt8)}{a:List Pt}{sl:List (List UInt8×List UInt8)}(h1:nl.length≠0)(h2:¬nl.length>24)(h3:a.length=nl.length/\sl.length=nl.length):Bz nl a sl=Qs [DX nl,Qs (a.map λp=>Zh p nl.length),Qs (sl.map λs=>Xd s.1 s.2)]:=by
 unfold Bz;rw[if_neg h1,if_neg h2,if_neg O]
theorem QHP{q:Option Addr}{l:List (List UInt8)}{v:List UInt8}(x:Fits F w)(u:Qy F q n 1 (l.map tx))(hn:l.length=n)(hb:n<=1000000000):Qf prog 211 [.slice q n c,tx v] w F (.bool (decide (v∈l))):=by
 refine QU.intro (G:=λF=>Qy F q n 1 (l.map tx)) func211 rfl tH rfl rfl x (λF' o=>u.le o)<|wa<|wZ rfl<|QG<|wa<|wZ rfl<|QV<|J9 (ι:=NoI l v) [(0,_),(1,_)] (λi=>[(5,.int .i64 ((i.i:Nat):Int))]) (λi=>l.length-i.i) (⟨0,aE _,λj h=>absurd h (eu _)⟩) wm wk λi=>?_
 simp only[ae,ab];have hi:=i.le;refine wA 5 I<|QA (Qg I Kw)<|wD 3 I ?_
 refine QQ I (λa=>?_) λa=>?_
 ·have g:i.i<l.length:=tD<|wi a
  have m:=Qw g;refine wC 8 I<|QA (Q3 (n:=n) i.i tM rfl rfl Kw Du O)<|QA (JA (n:=n) ((i.i)*1) tM O rfl Du (XT (f:=tx) (l:=l) O))<|wW I<|QA (VE I I)<|QE<|QC ?_
  refine QQ I (λa=>?_) λa=>?_
  ·have b:el l i.i=v:=eq_of_beq a;refine wA 6 I ?_
   repeat first|refine Q6 ?_|refine Qv ?_
   exact wg I I (congrArg aa (decide_eq_true (by rw[<-b];exact m))) tL
  have b:¬el l i.i=v:=by simpa using a
  refine QN<|Qj<|wE 3 I<|QA (Qu I I O)<|wB 2 I ?_
  exact Ql (⟨i.i+1,g,λj s=>by rcases Nat.lt_succ_iff_lt_or_eq.1 s with h | rfl;exact i.h j h;exact b⟩) (by show l.length-(i.i+1)<l.length-i.i;omega) wu we tM
 have k:l.length<=i.i:=tD<|wj a
 refine Qx ?_
 repeat first|refine QY ?_|refine QO tH ?_
 refine QZ<|wE 7 I ?_
 exact wg I I (congrArg aa (decide_eq_false (i.stop k))) tL
theorem QHS{q:Option Addr}{l:List (List UInt8)}{v:List UInt8}(g:Fits F w)(b:Qy F q n 1 (l.map tx))(hn:l.length=n)(hb:n<=1000000000):Qf prog 117 [.slice q n c,tx v] w F (.bool (decide (v∈l))):=by
 refine QU.intro (G:=λF=>Qy F q n 1 (l.map tx)) func117 rfl tH rfl rfl g (λF' a=>b.le a)<|wa<|wZ rfl<|wb rfl<|wW rfl<|QI rfl (λ_ _ f k=>QHP f k hn hb) λ_=>wZ rfl<|QX ?_
 exact wg I I (rfl) tL
theorem QA3(hF:Fits F w)(Q:JE F)(hy:X4 F y)(ht:GJ y):Qf prog 26 [y.v] w F (.int .i64 y.e):=by
 obtain⟨⟨V,nn,cn⟩,nl,⟨U,K,cr⟩,c,⟨T,R,cs⟩,sl⟩:=y;have C:=hy.jL;have Y:=hy.Ka;have N:=hy.P0;have Z:=ht.nn;have X:=ht.rn;have M:=ht.sn;dsimp only at *
 dsimp only[Xz.v];refine QU.intro (G:=λF=>JE F/\X4 F ⟨⟨V,nn,cn⟩,nl,⟨U,K,cr⟩,c,⟨T,R,cs⟩,sl⟩) func26 rfl tH rfl rfl hF (λF' H=>⟨Q.le H,hy.le H⟩)<|wa<|Qp rfl (vs:=[_,_,_]) rfl λb1=>wZ rfl<|wa<|QA (QH rfl Hj VU)<|QA (Qe rfl VU .here .h1)<|QA (Qg rfl Kw)<|wZ rfl<|QG<|wb rfl<|QA (QT rfl rfl rfl)<|QE<|QC ?_
 refine QQ I (λa=>?_) λa=>?_
 ·have h11:nl.length=0:=by have:(nn:Int)=0:=eq_of_beq a;omega
  refine wA 6 I ?_;exact wg I I (congrArg (ak .i64) (by show Bz nl (c.map λe=>ZX e.2) sl=12;unfold Bz;rw[if_pos h11])) tL
 have h11:nl.length≠0:=by have:¬(nn:Int)=0:=(by simpa using a);omega
 refine wC 9 I ?_;refine QQ I (λa=>?_) λa=>?_
 ·have o:nl.length>24:=tD<|wi a
  refine wA 6 I ?_;exact wg I I (congrArg (ak .i64) (by show Bz nl (c.map λe=>ZX e.2) sl=5;unfold Bz;rw[if_neg h11,if_pos o])) tL
 have o:¬nl.length>24:=tD<|wj a
 refine wC 3 I ?_;refine ZZ [(1,_),(3,_)] [(25,.bool (((K:Int) != nn||(R:Int) != nn)))] wm ?_ ?_
 ·refine QB<|QA (QH I VY Z6)<|QA (Qe I Z6 .here (.skip .h1))<|QA (Qg I VJ)<|wB 3 I ?_
  refine Qn (t:=19) rfl (λz=>?_) λz=>?_
  ·refine wB 7 I ?_;exact JY ⟨rfl,rfl,(congrArg (λb=>some (aa b)) (by rw[z];rfl)),trivial⟩ we tM
  refine QL I I<|QA (QH I YM J0)<|QL I I<|QA (Qe I J0 .here (.skip (.skip .h1)))<|QL I I<|QA (Qg I XF)<|wB 6 I ?_
  exact JY ⟨rfl,rfl,(congrArg (λb=>some (aa b)) (by rw[z];rfl)),trivial⟩ we tM
 simp only[ae,ab];refine QQ I (λa=>?_) λa=>?_
 ·have m:(c.map λe=>ZX e.2).length≠nl.length\/sl.length≠nl.length:=by simp only[Bool.or_eq_true,bne_iff_ne]at a;rw[au];omega
  refine wA 6 I ?_;exact wg I I (congrArg (ak .i64) (by show Bz nl (c.map λe=>ZX e.2) sl=2;unfold Bz;rw[if_neg h11,if_neg o,if_pos m])) tL
 have m:(c.map λe=>ZX e.2).length=nl.length/\sl.length=nl.length:=by simp only[ai,bne_eq_false_iff_eq]at a;rw[au];omega
 have S:c.length=nl.length:=by rw[<-m.1,au]
 refine wC 9 I<|J9 (ι:=X7 (bw nl.length) (EL nl)) [(1,_),(3,_)] (λi=>[(4,.int .i64 ((i.i:Nat):Int))]) (λi=>nl.length-i.i) (X7.start _ _) wm wk λi=>?_
 simp only[ae,ab];have hi:=i.le;rw[aA]at hi;refine wA 8 I ?_;refine QQ I (λa=>?_) λa=>?_
 ·have g:i.i<nl.length:=tD<|wi a
  have j:=Qw g;refine wC 7 I<|QA (QH I Hj VU)<|QA (Qe I VU .here .h1)<|wW I<|QA (Q3 (n:=nn) i.i (λF h9=>h9.2.nm) rfl rfl Kw Du O)<|QA (JA (n:=nn) ((i.i)*1) (λF h9=>h9.2.nm) O rfl Du (XT (f:=tx) (l:=nl) O))<|QI I (λ_ _ f k=>QEo f (ht.nt _ j)) λ_=>QA (XL I)<|QE<|QC ?_
  refine QQ I (λa=>?_) λa=>?_
  ·have s:(!cN (el nl i.i))=true:=a;have u:EL nl i.i≠0:=by unfold EL;rw[if_pos s,Zf tF];decide
   refine wA 6 I ?_
   repeat first|refine Q6 ?_|refine Qv ?_
   exact wg I I (congrArg (ak .i64) (by show Bz nl (c.map λe=>ZX e.2) sl=8;rw[gK h11 o m];have h9:=i.hit (by rw[aA];exact g) (by rw[ZG g];exact u);rw[ZG g]at h9;rw[show DX nl=EL nl i.i from h9,Zf u];unfold EL;rw[if_pos s,Zf tF])) tL
  have s:(!cN (el nl i.i))=false:=a;refine wC 3 I<|JG we mixed tE<|QK (QH I Hj VU)<|QK (Qe I VU .here .h1)<|QK (QD I)<|QK (NV i.i I I I Kw Du (by have:=ht.nc;dsimp only at this;omega))<|QK (QH I Hj VU)<|QK (Qe I VU .here .h1)<|QK (QD I)<|QK (Q3 (n:=nn) i.i (λF h9=>h9.1.2.nm) rfl rfl Kw Du O)<|QK (JA (n:=nn) ((i.i)*1) (λF h9=>h9.1.2.nm) O rfl Du (XT (f:=tx) (l:=nl) O))<|QR I (λ_ _ f k=>QHS f (Qy.QCd (l:=nl) k.1.2.nm C hi) (by rw[aG];omega) O) λ_=>Q7<|QC ?_
  refine QQ I (λa=>?_) λa=>?_
  ·have B:decide (el nl i.i∈nl.take i.i)=true:=a;have u:EL nl i.i≠0:=by unfold EL;rw[if_neg (by rw[s];decide),if_pos B,Zn,Zf tF];decide
   refine wA 6 I ?_
   repeat first|refine Q6 ?_|refine Qv ?_
   exact wg I I (congrArg (ak .i64) (by show Bz nl (c.map λe=>ZX e.2) sl=9;rw[gK h11 o m];have h9:=i.hit (by rw[aA];exact g) (by rw[ZG g];exact u);rw[ZG g]at h9;rw[show DX nl=EL nl i.i from h9,Zf u];unfold EL;rw[if_neg (by rw[s];decide),if_pos B,Zn,Zf tF])) tL
  have B:decide (el nl i.i∈nl.take i.i)=false:=a;refine QN<|Qj<|wE 3 I<|QA (Qu I I O)<|wB 2 I ?_
  exact Ql (i.next (by rw[aA];exact g) (by rw[ZG g];unfold EL;rw[if_neg (by rw[s];decide),if_neg (by rw[B];decide)];rfl)) (by show nl.length-(i.i+1)<nl.length-i.i;omega) wu we λF h=>h.1.1
 have P:nl.length<=i.i:=tD<|wj a
 have D:DX nl=0:=i.stop (by rw[aA];exact P);refine Qx ?_
 repeat first|refine QY ?_|refine QO tH ?_
 refine QZ<|wE 8 I<|J9 (ι:=X7 c λe=>Zh (ZX e.2) (nn:Int)) [(1,_),(3,_)] (λi2=>[(5,.int .i64 ((i2.i:Nat):Int))]) (λi2=>c.length-i2.i) (X7.start _ _) wm wk λi2=>?_
 simp only[ae,ab];have hi2:=i2.le;refine wA 8 I ?_;refine QQ I (λa=>?_) λa=>?_
 ·have x:i2.i<c.length:=tD<|wi a
  have j:=Qw x;refine wC 6 I<|QA (QH I VY Z6)<|QA (Qe I Z6 .here (.skip .h1))<|wW I<|QA (Q3 (n:=K) (i2.i) (λF h9=>h9.2.rt) rfl rfl VJ Vu O)<|QA (JA (n:=K) ((i2.i)*1) (λF h9=>h9.2.rt) O rfl Vu (XT (f:=λe:NQ=>e.1.v) (l:=c) O))<|wW I<|QI I (λ_ _ f k=>Iw (q:=(el c i2.i).1.q) (n:=(el c i2.i).1.n) (cap:=(el c i2.i).1.cap) f k.1 (k.2.pl _ j).1 (k.2.pl _ j).2 (ht.tm _ j).1 (λt L=>tD<|(ht.tm _ j).2.1 t L) (tD<|(ht.tm _ j).2.2) O) λ_=>wD 9 I ?_
  refine QQ I (λa=>?_) λa=>?_
  ·have A:=bne_iff_ne.1 a;refine wA 7 I ?_
   repeat first|refine Q6 ?_|refine Qv ?_
   exact wg I I (congrArg (ak .i64) (by show Bz nl (c.map λe=>ZX e.2) sl=_;rw[gK h11 o m,D,Zn,bN,C];have h9:=i2.hit x A;rw[show Qs (c.map ((λp=>Zh p (nn:Int))∘λe=>ZX e.2))=Zh (ZX (el c i2.i).2) (nn:Int)from h9,Zf A])) tL
  have A:=bne_eq_false_iff_eq.1 a;refine QN<|Qj<|wE 3 I<|QA (Qu I I O)<|wB 2 I ?_
  exact Ql (i2.next x A) (by show c.length-(i2.i+1)<c.length-i2.i;omega) wu we tN
 have E:c.length<=i2.i:=tD<|wj a
 refine Qx ?_
 repeat first|refine QY ?_|refine QO tH ?_
 refine QZ<|QC<|wa<|QA (QH I YM J0)<|QA (Qe I J0 .here (.skip (.skip .h1)))<|QI I (λ_ _ f k=>jG f k.2.st ⟨N,ht.st⟩ M) λ_=>wD 4 I ?_
 exact wg I I (congrArg (ak .i64) (by show Bz nl (c.map λe=>ZX e.2) sl=_;rw[gK h11 o m,D,Zn,bN,C];have h9:=i2.stop E;rw[show Qs (c.map ((λp=>Zh p (nn:Int))∘λe=>ZX e.2))=0 from h9,Zn,QCD])) tL
theorem uk(U:Fits F w)(hy:X4 F y)(ht:vG y):Qf prog 105 [y.v] w F (.bool (shS y)):=by
 have R:=hy.jL;have N:=hy.Ka;have L:=hy.P0;have Q:=ht.nn;have M:=ht.rn;have K:=ht.sn;refine QU.intro (G:=λF=>X4 F y) func105 rfl tH rfl rfl U (λF' H=>hy.le H)<|wa<|Qp rfl (vs:=[_,_,_]) rfl λb1=>wZ rfl<|QG ?_
 refine ZZ [(1,_)] [(21,.bool (shN y))] wk ?_ ?_
 ·refine QB<|QA (QH I Hj VU)<|QA (Qe I VU .here .h1)<|QA (Qg I Kw)<|wB 2 I ?_
  refine Qn (t:=10) rfl (λc=>?_) λc=>?_
  ·refine wB 12 I ?_;exact JY ⟨rfl,(congrArg (λb=>some (aa b)) (by unfold shN;rw[c];rfl)),trivial⟩ we tM
  refine QL I I<|QA (QH I VY Z6)<|QL I I<|QA (Qe I Z6 .here (.skip .h1))<|QL I I<|QA (Qg I VJ)<|wB 4 I ?_
  refine Qn (t:=16) rfl (λm=>?_) λm=>?_
  ·refine wB 6 I ?_;exact JY ⟨rfl,(congrArg (λb=>some (aa b)) (by unfold shN;rw[c,m];rfl)),trivial⟩ we tM
  refine QL I I<|QA (QH I YM J0)<|QL I I<|QA (Qe I J0 .here (.skip (.skip .h1)))<|QL I I<|QA (Qg I XF)<|wB 4 I ?_
  exact JY ⟨rfl,(congrArg (λb=>some (aa b)) (by unfold shN;rw[c,m];rfl)),trivial⟩ we tM
 simp only[ae,ab];refine QQ I (λa=>?_) λa=>?_
 ·have h:shN y=true:=a;refine wA 6 I ?_;exact wg I I (congrArg aa (by unfold shS;rw[h];rfl)) tL
 have h:shN y=false:=a;refine wC 9 I<|J9 (ι:=Wo y.rl shP) [(1,_)] (λi=>[(3,.int .i64 ((i.i:Nat):Int))]) (λi=>y.rl.length-i.i) (Wo.start _ _) wk wk λi=>?_
 simp only[ae,ab];have hi:=i.le;refine wA 4 I<|QA (QH I VY Z6)<|QA (Qe I Z6 .here (.skip .h1))<|QA (Qg I VJ)<|wD 3 I ?_
 refine QQ I (λa=>?_) λa=>?_
 ·have o:i.i<y.rl.length:=tD<|wi a
  have g:=Qw o;have P:=(ht.rl _ g).1;have hpn:=(ht.rl _ g).2.1;refine wC 7 I<|QA (QH I VY Z6)<|QA (Qe I Z6 .here (.skip .h1))<|wW I<|QA (Q3 (n:=y.rt.n) i.i (λF hy=>hy.rt) rfl rfl VJ Vu O)<|QA (JA (n:=y.rt.n) ((i.i)*1) (λF hy=>hy.rt) O rfl Vu (XT (f:=λe:NQ=>e.1.v) (l:=y.rl) O))<|QA (Qg I Zg)<|wD 3 I ?_
  refine QQ I (λa=>?_) λa=>?_
  ·have A:((el y.rl i.i).1.n:Int)>70:=wi a;refine wA 6 I ?_
   repeat first|refine Q6 ?_|refine Qv ?_
   exact wg I I (congrArg aa (by unfold shS;rw[h,i.hit o (by unfold shP;rw[decide_eq_true A];rfl)];rfl)) tL
  have A:¬((el y.rl i.i).1.n:Int)>70:=wj a;refine wC 8 I<|J9 (ι:=Wo (el y.rl i.i).2 shT) [(1,_),(3,_)] (λi2=>[(4,.int .i64 ((i2.i:Nat):Int))]) (λi2=>(el y.rl i.i).2.length-i2.i) (Wo.start _ _) wm wk λi2=>?_
  simp only[ae,ab];have T:=i2.le;refine wA 4 I<|QA (QH I VY Z6)<|QA (Qe I Z6 .here (.skip .h1))<|wW I<|QA (Q3 (n:=y.rt.n) i.i (λF hy=>hy.rt) rfl rfl VJ Vu O)<|QA (JA (n:=y.rt.n) ((i.i)*1) (λF hy=>hy.rt) O rfl Vu (XT (f:=λe:NQ=>e.1.v) (l:=y.rl) O))<|QA (Qg I Zg)<|wD 3 I ?_
  refine QQ I (λa=>?_) λa=>?_
  ·have u:i2.i<(el y.rl i.i).2.length:=tD<|wi a
   refine wC 4 I ?_;refine ZZ [(1,_),(3,_),(4,_)] [(69,.bool (!(shT (el (el y.rl i.i).2 i2.i))))] wu ?_ ?_
   ·refine QB<|QA (QH I VY Z6)<|QA (Qe I Z6 .here (.skip .h1))<|wW I<|QA (Q3 (n:=y.rt.n) i.i (λF hy=>hy.rt) rfl rfl VJ Vu O)<|QA (JA (n:=y.rt.n) ((i.i)*1) (λF hy=>hy.rt) O rfl Vu (XT (f:=λe:NQ=>e.1.v) (l:=y.rl) O))<|wW I<|QA (Q3 (n:=(el y.rl i.i).1.n) (i2.i) (λF hy=>(hy.pl _ g).1) rfl rfl Zg Xh O)<|QA (QH I Yh JM)<|QA (JA (n:=(el y.rl i.i).1.n) ((i2.i)*2+1) (λF hy=>(hy.pl _ g).1) O rfl JM (JN (f:=VM) (l:=(el y.rl i.i).2) YR O rfl))<|QA (Qg I Q2)<|wB 2 I ?_
    refine Qn (t:=57) rfl (λk=>?_) λk=>?_
    ·refine wB 13 I ?_;exact JY ⟨rfl,rfl,rfl,(congrArg (λb=>some (aa b)) (by unfold shT;rw[ar,k];rfl)),trivial⟩ we tM
    refine QL I I<|QA (QH I VY Z6)<|QL I I<|QA (Qe I Z6 .here (.skip .h1))<|wB 3 I<|QA (Q3 (n:=y.rt.n) i.i (λF hy=>hy.rt) rfl rfl VJ Vu O)<|QL I I<|QA (JA (n:=y.rt.n) ((i.i)*1) (λF hy=>hy.rt) O rfl Vu (XT (f:=λe:NQ=>e.1.v) (l:=y.rl) O))<|wB 3 I<|QA (Q3 (n:=(el y.rl i.i).1.n) (i2.i) (λF hy=>(hy.pl _ g).1) rfl rfl Zg Xh O)<|QL I I<|QA (QH I GM JF)<|QL I I<|QA (JA (n:=(el y.rl i.i).1.n) ((i2.i)*2+0) (λF hy=>(hy.pl _ g).1) O rfl JF (JN (f:=VM) (l:=(el y.rl i.i).2) YR O rfl))<|QL I I<|QA (Xc I Bw)<|wB 4 I ?_
    exact JY ⟨rfl,rfl,rfl,(congrArg (λb=>some (aa b)) (by unfold shT;rw[ar,k];rfl)),trivial⟩ we tM
   simp only[ae,ab];refine QQ I (λa=>?_) λa=>?_
   ·have z:shT (el (el y.rl i.i).2 i2.i)=false:=by simpa using a
    refine wA 6 I ?_
    repeat first|refine Q6 ?_|refine Qv ?_
    exact wg I I (congrArg aa (by unfold shS;rw[h,i.hit o (by unfold shP;rw[i2.hit u z,bI])];rfl)) tL
   have z:shT (el (el y.rl i.i).2 i2.i)=true:=by simpa using a
   refine QN<|Qj<|wE 3 I<|QA (Qu I I O)<|wB 2 I ?_
   exact Ql (i2.next u z) (by show(el y.rl i.i).2.length-(i2.i+1)<(el y.rl i.i).2.length-i2.i;omega) wu we tM
  have D:(el y.rl i.i).2.length<=i2.i:=tD<|wj a
  refine Qx ?_
  repeat first|refine QY ?_|refine QO tH ?_
  refine QZ<|Qj<|wE 3 I<|QA (Qu I I O)<|wB 2 I ?_
  exact Ql (i.next o (by unfold shP;rw[decide_eq_false A,i2.stop D];rfl)) (by show y.rl.length-(i.i+1)<y.rl.length-i.i;omega) wm we tM
 have E:y.rl.length<=i.i:=tD<|wj a
 have B:=i.stop E;refine Qx ?_
 repeat first|refine QY ?_|refine QO tH ?_
 refine QZ<|wE 8 I<|J9 (ι:=Wo y.sl AZ) [(1,_)] (λi3=>[(5,.int .i64 ((i3.i:Nat):Int))]) (λi3=>y.sl.length-i3.i) (Wo.start _ _) wk wk λi3=>?_
 simp only[ae,ab];have S:=i3.le;refine wA 4 I<|QA (QH I YM J0)<|QA (Qe I J0 .here (.skip (.skip .h1)))<|QA (Qg I XF)<|wD 3 I ?_
 refine QQ I (λa=>?_) λa=>?_
 ·have s:i3.i<y.sl.length:=tD<|wi a
  refine wC 4 I ?_;refine ZZ [(1,_),(5,_)] [(94,.bool (!(AZ (el y.sl i3.i))))] wm ?_ ?_
  ·refine QB<|QA (QH I YM J0)<|QA (Qe I J0 .here (.skip (.skip .h1)))<|wW I<|QA (Q3 (n:=y.st.n) (i3.i) (λF hy=>hy.st) rfl rfl XF Jd O)<|QA (QH I V6 JF)<|QA (JA (n:=y.st.n) ((i3.i)*2+0) (λF hy=>hy.st) O rfl JF (JN (f:=NU) (l:=y.sl) K1 O rfl))<|QA (Xc I Bw)<|wB 2 I ?_
   refine Qn (t:=85) rfl (λj=>?_) λj=>?_
   ·refine wB 10 I ?_;exact JY ⟨rfl,rfl,(congrArg (λb=>some (aa b)) (by unfold AZ;rw[ar,j];rfl)),trivial⟩ we tM
   refine QL I I<|QA (QH I YM J0)<|QL I I<|QA (Qe I J0 .here (.skip (.skip .h1)))<|wB 3 I<|QA (Q3 (n:=y.st.n) (i3.i) (λF hy=>hy.st) rfl rfl XF Jd O)<|QL I I<|QA (QH I We JF)<|QL I I<|QA (JA (n:=y.st.n) ((i3.i)*2+1) (λF hy=>hy.st) O rfl JF (JN (f:=NU) (l:=y.sl) K1 O rfl))<|QL I I<|QA (Xc I Bw)<|wB 4 I ?_
   exact JY ⟨rfl,rfl,(congrArg (λb=>some (aa b)) (by unfold AZ;rw[ar,j];rfl)),trivial⟩ we tM
  simp only[ae,ab];refine QQ I (λa=>?_) λa=>?_
  ·have x:AZ (el y.sl i3.i)=false:=by simpa using a
   refine wA 6 I ?_
   repeat first|refine Q6 ?_|refine Qv ?_
   exact wg I I (congrArg aa (by unfold shS;rw[h,B,i3.hit s x];rfl)) tL
  have x:AZ (el y.sl i3.i)=true:=by simpa using a
  refine QN<|Qj<|wE 3 I<|QA (Qu I I O)<|wB 2 I ?_
  exact Ql (i3.next s x) (by show y.sl.length-(i3.i+1)<y.sl.length-i3.i;omega) wm we tM
 have C:y.sl.length<=i3.i:=tD<|wj a
 refine Qx ?_
 repeat first|refine QY ?_|refine QO tH ?_
 refine QZ<|wE 7 I ?_
 exact wg I I (congrArg aa (by unfold shS;rw[h,B,i3.stop C];rfl)) tL
theorem QGM{v d g:Int}(X:Fits F w)(L:JE F)(hy:X4 F y)(D:vG y)(V:0<=g/\g<=1000):Qf prog 55 [y.v,.int .i64 v,.int .i64 d,.int .i64 g] w F (.bool (pT y v d g)):=by
 have U:=hy.jL;have R:=hy.Ka;have C:=hy.P0;refine QU.intro (G:=λF=>JE F/\X4 F y) func55 rfl tH rfl rfl X (λF' A=>⟨L.le A,hy.le A⟩)<|wa<|Qp rfl (vs:=[_,_,_]) rfl λb4=>wZ rfl<|QG ?_
 refine ZZ [(2,_),(3,_),(4,_)] [(38,.bool (!(yX y v g)))] wu ?_ ?_
 ·refine QB<|QA (wO I J6 .here)<|QI I (λ_ _ f k=>uk (y:=y) f k.2 D) λ_=>QA (XL I)<|wW I ?_
  refine Qn (t:=13) rfl (λc=>?_) λc=>?_
  ·refine wB 19 I<|Jn I I<|Jn I I<|Jn I I<|Jn I I<|wB 2 I ?_
   refine QE ?_;exact JY ⟨rfl,rfl,rfl,(congrArg (λb=>some (aa b)) (by unfold yX;rw[ar,c];rfl)),trivial⟩ we tN
  have ht:GJ y:=D.ts (by simpa using c);refine QL I I<|QA (wO I J6 .here)<|QL I I<|QI I (λ_ _ f k=>QA3 (y:=y) f k.1.1 k.1.2 ht) λ_=>wB 4 I ?_
  refine Qn (t:=18) rfl (λj=>?_) λj=>?_
  ·refine wB 14 I<|Jn I I<|Jn I I<|Jn I I<|Jn I I<|wB 3 I ?_
   exact JY ⟨rfl,rfl,rfl,(congrArg (λb=>some (aa b)) (by unfold yX;rw[ar,c,j];rfl)),trivial⟩ we λ_ h=>h.1.1
  refine QL I I<|QA (QH I VY Z6)<|QL I I<|QA (Qe I Z6 .here (.skip .h1))<|QL I I<|QA (Qg I VJ)<|wB 6 I ?_
  refine Qn (t:=25) rfl (λm=>?_) λm=>?_
  ·refine wB 7 I<|Jn I I<|Jn I I<|Jn I I<|Jn I I<|wB 3 I ?_
   exact JY ⟨rfl,rfl,rfl,(congrArg (λb=>some (aa b)) (by unfold yX;rw[ar,c,j,m];rfl)),trivial⟩ we λ_ h=>h.1.1
  refine QL I I<|QA (QH I YM J0)<|QL I I<|QA (Qe I J0 .here (.skip (.skip .h1)))<|wB 5 I<|QI I (λ_ _ f k=>gU f k.1.1.2.st C V (tD ht.sn)) λ_=>QL I I<|QA (XL I)<|wB 2 I ?_
  refine Qn (t:=32) rfl (λs=>?_) λs=>?_
  ·refine QL I I<|QA (QH I YM J0)<|QL I I<|QA (Qe I J0 .here (.skip (.skip .h1)))<|QL I I<|QA (Qg I XF)<|wB 6 I ?_
   exact JY ⟨rfl,rfl,rfl,(congrArg (λb=>some (aa b)) (by unfold yX;rw[ar,c,j,m,s];rfl)),trivial⟩ we λ_ h=>h.1.1.1
  refine wB 8 I ?_;exact JY ⟨rfl,rfl,rfl,(congrArg (λb=>some (aa b)) (by unfold yX;rw[ar,c,j,m,s];rfl)),trivial⟩ we λ_ h=>h.1.1.1
 simp only[ae,ab];refine QQ I (λa=>?_) λa=>?_
 ·have u:yX y v g=false:=by simpa using a
  refine wA 6 I ?_;exact wg I I (congrArg aa (by unfold pT;rw[u];rfl)) tL
 have u:yX y v g=true:=by simpa using a
 obtain⟨K,H,N,P⟩:=QFQ u;have ht:GJ y:=D.ts K;have Q:=ht.rn;have M:=hy.ok H;have T:=M.n1;have S:=M.rn;refine wC 9 I<|J9 (ι:=Wo y.rl λe=>fpB (ZX e.2) (y.rt.n:Int) 4 d g) [(2,_),(3,_),(4,_)] (λi=>[(9,.int .i64 ((i.i:Nat):Int))]) (λi=>y.rl.length-i.i) (Wo.start _ _) wu wk λi=>?_
 simp only[ae,ab];have hi:=i.le;refine wA 4 I<|QA (QH I VY Z6)<|QA (Qe I Z6 .here (.skip .h1))<|QA (Qg I VJ)<|wD 3 I ?_
 refine QQ I (λa=>?_) λa=>?_
 ·have x:i.i<y.rl.length:=tD<|wi a
  have o:=Qw x;refine wC 5 I<|JG we mixed tE<|QK (QH I VY Z6)<|QK (Qe I Z6 .here (.skip .h1))<|QK (QD I)<|QK (Q3 (n:=y.rt.n) i.i (λF h9=>h9.2.rt) rfl rfl VJ Vu O)<|QK (JA (n:=y.rt.n) ((i.i)*1) (λF h9=>h9.2.rt) O rfl Vu (XT (f:=λe:NQ=>e.1.v) (l:=y.rl) O))<|QK (QH I VY Z6)<|QK (Qe I Z6 .here (.skip .h1))<|QK (Qg I VJ)<|QK (QD I)<|QK (QD I)<|QR I (λ_ _ f k=>uw (q:=(el y.rl i.i).1.q) (n:=(el y.rl i.i).1.n) (cap:=(el y.rl i.i).1.cap) f k.1 (k.2.pl _ o).1 (k.2.pl _ o).2 (ht.tm _ o).1 (λt B=>tD<|(ht.tm _ o).2.1 t B) (tD<|(ht.tm _ o).2.2) O O) λ_=>QK (XL I)<|Q7<|QC ?_
  refine QQ I (λa=>?_) λa=>?_
  ·have z:fpB (ZX (el y.rl i.i).2) (y.rt.n:Int) 4 d g=false:=by simpa using a
   refine wA 6 I ?_
   repeat first|refine Q6 ?_|refine Qv ?_
   exact wg I I (congrArg aa (by unfold pT;rw[u,i.hit x z];rfl)) tL
  have z:fpB (ZX (el y.rl i.i).2) (y.rt.n:Int) 4 d g=true:=by simpa using a
  refine QN<|Qj<|wE 3 I<|QA (Qu I I O)<|wB 2 I ?_
  exact Ql (i.next x z) (by show y.rl.length-(i.i+1)<y.rl.length-i.i;omega) wv we tN
 have E:y.rl.length<=i.i:=tD<|wj a
 refine Qx ?_
 repeat first|refine QY ?_|refine QO tH ?_
 refine QZ<|wE 7 I ?_
 exact wg I I (congrArg aa (by unfold pT;rw[u,i.stop E];rfl)) tL
def Xfb(tb:List Wl)(i:Nat):List UInt8:=if i=0 then[48]else(el tb (i-1)).e
def Xh9:Jp [48]=0/\Qz [48]=((0:Int):Rat):=tG
def Xhm(h:Jp (el tb i).e≠0):k6 n tb i=Jp (el tb i).e:=by
 unfold k6 Nb;rw[if_pos h,Zf h]
def Xhk(h0:Jp (el tb i).e=0)(h:Yw (Qz (el tb i).e) (Hd tb i)<=0):k6 n tb i=11:=by
 unfold k6 Nb Wc;rw[if_neg (by simpa using h0),if_pos (decide_eq_true h),Zf tF]
def Xhg(h0:Jp (el tb i).e=0)(h:¬Yw (Qz (el tb i).e) (Hd tb i)<=0):Nb (Hd tb i) (el tb i).e=0:=by
 unfold Nb Wc;rw[if_neg (by simpa using h0),if_neg (by rw[decide_eq_false h];decide)]
def Xhj(h0:Jp (el tb i).e=0)(h:¬Yw (Qz (el tb i).e) (Hd tb i)<=0)(h1:YZ n (el tb i).wl≠0):k6 n tb i=YZ n (el tb i).wl:=by
 unfold k6;rw[Xhg h0 h,Zn,Zf h1]
def Xhf(h0:Jp (el tb i).e=0)(h:¬Yw (Qz (el tb i).e) (Hd tb i)<=0)(h1:YZ n (el tb i).wl=0):k6 n tb i=YZ n (el tb i).ll:=by
 unfold k6;rw[Xhg h0 h,Zn,h1,Zn,QCD]
def Xf6(s:X7 (bw tb.length) (k6 n tb))(a:¬tb.length>1000)(h:s.i<tb.length){e:Int}(he:k6 n tb s.i=e)(h0:e≠0):Dz n tb=e:=by
 unfold Dz;rw[if_neg a];have h9:=s.hit (by rw[aA];exact h) (by rw[ZG h,he];exact h0);rw[ZG h]at h9;rw[h9,he]
def Xgg(s:X7 (bw tb.length) (k6 n tb))(a:¬tb.length>1000)(h:tb.length<=s.i):Dz n tb=0:=by
 unfold Dz;rw[if_neg a];exact s.stop (by rw[aA];exact h)
structure CfJ(n:Nat)(tb:List Wl) extends X7 (bw tb.length) (k6 n tb) where
 ok:Jp (Xfb tb i)=0/\Qz (Xfb tb i)=Hd tb i
def Xfa(tb:List Wl)(i:Nat):Xfb tb (i+1)=(el tb i).e:=by unfold Xfb;rw[if_neg O,Nat.add_sub_cancel]
theorem Xfn{n:Nat}{r:Sr}(C:Fits F w)(hx:IF F r tb)(hc:QCR r tb):Qf prog 52 [.int .i64 (n:Int),r.v] w F (.int .i64 (Dz n tb)):=by
 have A:=hx.len;have B:=hc.n;refine QU.intro (G:=λF=>IF F r tb) func52 rfl tH rfl rfl C (λF' z=>hx.le z)<|wa<|wZ rfl<|QG<|wb rfl<|QA (Qg rfl EC)<|QA (QT rfl rfl rfl)<|QE<|QC ?_
 refine QQ I (λa=>?_) λa=>?_
 ·have h12:tb.length>1000:=tD<|wi a
  refine wA 6 I ?_;exact wg I I (congrArg (ak .i64) (by unfold Dz;rw[if_pos h12])) tL
 have h12:¬tb.length>1000:=tD<|wj a
 have u:∀b∈tb,b.e.length<=1000000/\BS b.w b.wl/\BS b.l b.ll:=hc.t.resolve_left O;refine wC 14 I<|J9 (ι:=CfJ n tb) [(0,_),(1,_)] (λi=>[(5,tx (Xfb tb i.i)),(6,.int .i64 ((i.i:Nat):Int))]) (λi=>tb.length-i.i) (⟨X7.start _ _,Xh9⟩) wm wm λi=>?_
 simp only[ae,ab];have hi:=i.le;rw[aA]at hi;refine wA 5 I<|QA (Qg I EC)<|wD 3 I ?_
 refine QQ I (λa=>?_) λa=>?_
 ·have g:i.i<tb.length:=tD<|wi a
  have m:=Qw g;refine wC 9 I<|QA (Q3 (n:=r.n) i.i (λF hx=>hx.row) rfl rfl EC X8 O)<|QA (QH I Ec JF)<|QA (JA (n:=r.n) ((i.i)*3+0) (λF hx=>hx.row) O rfl JF (JN (f:=uI) (l:=tb) Cb O rfl))<|QI I (λ_ _ f k=>vN f (tD<|(u _ m).1)) λ_=>wD 9 I ?_
  refine QQ I (λa=>?_) λa=>?_
  ·have c:=bne_iff_ne.1 a;refine wA 7 I ?_
   repeat first|refine Q6 ?_|refine Qv ?_
   exact wg I I (congrArg (ak .i64) (Xf6 i.toX7 h12 g (Xhm c) c)) tL
  have c:=bne_eq_false_iff_eq.1 a;refine wC 7 I<|QA (Q3 (n:=r.n) i.i (λF h9=>h9.1.row) rfl rfl EC X8 O)<|QA (QH I Ec JF)<|QA (JA (n:=r.n) ((i.i)*3+0) (λF h9=>h9.1.row) O rfl JF (JN (f:=uI) (l:=tb) Cb O rfl))<|wW I<|QI I (λ_ _ f k=>QCs f c i.ok.1) λ_=>wD 3 I ?_
  refine QQ I (λa=>?_) λa=>?_
  ·have j:=wi a;rw[i.ok.2]at j;refine wA 6 I ?_
   repeat first|refine Q6 ?_|refine Qv ?_
   exact wg I I (congrArg (ak .i64) (Xf6 i.toX7 h12 g (Xhk c j) tF)) tL
  have j:=wj a;rw[i.ok.2]at j;refine wC 8 I<|QA (Q3 (n:=r.n) i.i (λF h9=>h9.1.1.row) rfl rfl EC X8 O)<|QA (QH I Ub J0)<|QA (JA (n:=r.n) ((i.i)*3+1) (λF h9=>h9.1.1.row) O rfl J0 (JN (f:=uI) (l:=tb) Cb O rfl))<|QI I (λ_ _ f k=>gW f (k.1.1.bx _ m).1 (u _ m).2.1) λ_=>wD 9 I ?_
  refine QQ I (λa=>?_) λa=>?_
  ·have o:=bne_iff_ne.1 a;refine wA 7 I ?_
   repeat first|refine Q6 ?_|refine Qv ?_
   exact wg I I (congrArg (ak .i64) (Xf6 i.toX7 h12 g (Xhj c j o) o)) tL
  have o:=bne_eq_false_iff_eq.1 a;refine wC 8 I<|QA (Q3 (n:=r.n) i.i (λF h9=>h9.1.1.1.row) rfl rfl EC X8 O)<|QA (QH I N6 J0)<|QA (JA (n:=r.n) ((i.i)*3+2) (λF h9=>h9.1.1.1.row) O rfl J0 (JN (f:=uI) (l:=tb) Cb O rfl))<|QI I (λ_ _ f k=>gW f (k.1.1.1.bx _ m).2 (u _ m).2.2) λ_=>wD 9 I ?_
  refine QQ I (λa=>?_) λa=>?_
  ·have x:=bne_iff_ne.1 a;refine wA 7 I ?_
   repeat first|refine Q6 ?_|refine Qv ?_
   exact wg I I (congrArg (ak .i64) (Xf6 i.toX7 h12 g (Xhf c j o) x)) tL
  have x:=bne_eq_false_iff_eq.1 a;refine wC 5 I<|QA (Q3 (n:=r.n) i.i (λF h9=>h9.1.1.1.1.row) rfl rfl EC X8 O)<|QA (QH I Ec JF)<|QA (JA (n:=r.n) ((i.i)*3+0) (λF h9=>h9.1.1.1.1.row) O rfl JF (JN (f:=uI) (l:=tb) Cb O rfl))<|wB 2 I<|Qj<|wE 3 I<|QA (Qu I I O)<|wB 2 I ?_
  exact Ql (⟨i.toX7.next (by rw[aA];exact g) (by rw[ZG g,Xhf c j o];exact x),by show Jp (Xfb tb (i.i+1))=0/\Qz (Xfb tb (i.i+1))=Hd tb (i.i+1);rw[Xfa,RU];exact⟨c,rfl⟩⟩) (by show tb.length-(i.i+1)<tb.length-i.i;omega) ⟨rfl,rfl,(congrArg (λs=>some (tx s)) (Xfa tb i.i).symm),rfl,trivial⟩ we λF h=>h.1.1.1.1
 have y:tb.length<=i.i:=tD<|wj a
 refine Qx ?_
 repeat first|refine QY ?_|refine QO tH ?_
 refine QZ<|wE 7 I ?_
 exact wg I I (congrArg (ak .i64) (Xgg i.toX7 h12 y)) tL
def QDg{l:List (List UInt8)}(h:i<l.length)(k:decide ((el l i).length>14)=true):l.any (λs=>decide (s.length>14))=true:=List.any_eq_true.2 ⟨_,Qw h,k⟩
structure LgJ(l:List (List UInt8)) where
 i:Nat
 le:i<=l.length
 no:∀j,j<i->¬(el l j).length>14
theorem LgJ.stop{l:List (List UInt8)}(s:LgJ l)(h:l.length<=s.i):l.any (λs=>decide (s.length>14))=false:=by
 cases e:l.any (λs=>decide (s.length>14))with
 |false=>rfl
 |true =>
  obtain⟨x,hx,k⟩:=List.any_eq_true.1 e;obtain⟨j,a,rfl⟩:=aH hx;exact absurd (wi k) (by have:=s.no j O;rwa [Jb a]at this)
theorem QGb{q:Option Addr}{l:List (List UInt8)}(u:Fits F w)(o:Qy F q n 1 (l.map tx))(hn:l.length=n)(hb:n<=1000000000):Qf prog 15 [.slice q n c] w F (.bool (l.any λs=>decide (s.length>14))):=by
 refine QU.intro (G:=λF=>Qy F q n 1 (l.map tx)) func15 rfl tH rfl rfl u (λF' k=>o.le k)<|wa<|wZ rfl<|QG<|wa<|wZ rfl<|QV<|J9 (ι:=LgJ l) [(0,_)] (λi=>[(3,.int .i64 ((i.i:Nat):Int))]) (λi=>l.length-i.i) (⟨0,aE _,λj h=>absurd h (eu _)⟩) wk wk λi=>?_
 simp only[ae,ab];have hi:=i.le;refine wA 5 I<|QA (Qg I YG)<|wD 3 I ?_
 refine QQ I (λhc=>?_) λhc=>?_
 ·have b:i.i<l.length:=tD<|wi hc
  refine wC 8 I<|QA (Q3 (n:=n) i.i tM rfl rfl YG JF O)<|QA (JA (n:=n) ((i.i)*1) tM O rfl JF (XT (f:=tx) (l:=l) O))<|QA (Xc I Bw)<|wD 3 I ?_
  refine QQ I (λhc=>?_) λhc=>?_
  ·have a:(el l i.i).length>14:=tD<|wi hc
   refine wA 6 I ?_
   repeat first|refine Q6 ?_|refine Qv ?_
   exact wg I I (congrArg aa (QDg b (decide_eq_true a))) tL
  have a:¬(el l i.i).length>14:=tD<|wj hc
  refine QN<|Qj<|wE 3 I<|QA (Qu I I O)<|wB 2 I ?_
  exact Ql (⟨i.i+1,b,λj m=>by rcases Nat.lt_succ_iff_lt_or_eq.1 m with h | rfl;exact i.no j h;exact a⟩) (by show l.length-(i.i+1)<l.length-i.i;omega) wm we tM
 have g:l.length<=i.i:=tD<|wj hc
 refine Qx ?_
 repeat first|refine QY ?_|refine QO tH ?_
 refine QZ<|wE 7 I ?_
 exact wg I I (congrArg aa (i.stop g)) tL
def Xhc{α:Type}[Inhabited α]{l:List α}{n i:Nat}(h:i<(l.take n).length):el (l.take n) i=el l i:=by
 have h2:i<l.length:=by rw[aG]at h;omega
 rw[Jb h,Jb h2,List.getElem_take]
def Ff(y:Xz)(n:Int):Bool:=!(shS y)||((y.e==0)&&!(pT y n 3 6))
theorem yQ{n:Int}(h:Ff y n=false):shS y=true/\(y.e=0->pT y n 3 6=true):=by
 unfold Ff at h;simp only[ai,aD,aP,beq_eq_false_iff_ne]at h;exact⟨h.1,λe=>h.2.resolve_left λk=>k e⟩
structure ATk where
 fr:List UInt8
 te:List UInt8
 bx:Sr
 bl:List (List UInt8×List UInt8)
 wh:Sr
 wl:List (List UInt8×List UInt8)
 o:Int
 b:Int
@[reducible] def ATk.v (x:ATk):Value:=.agg #[tx x.fr,tx x.te,.slice x.bx.q x.bx.n x.bx.cap,.slice x.wh.q x.wh.n x.wh.cap,.int .i64 x.o,.int .i64 x.b]
def cT(l:List (List UInt8)):Bool:=l.any λs=>decide (s.length>14)
def Xnn(a:NQ):Bool:=a.2.all shT&&decide ((a.1.n:Int)<=70)
def stX(b:Wl):Bool:=!(cT [b.e]||!(Ts b.wl)||!(Ts b.ll))
def stN(n:Nat):Bool:=(decide ((n:Int)>4)&&decide ((n:Int)<=1000))||decide ((n:Int)>1005)
def Xdo(tb:List Wl):Bool:=!(stN tb.length)&&(tb.take 4).all stX
theorem Xhi{b:Wl}(h:stX b=true)(c:b.wl.length=b.w.n)(f:b.ll.length=b.l.n):b.e.length<=14/\BS b.w b.wl/\BS b.l b.ll:=by
 simp only[stX,aB,ai,aD]at h;obtain⟨⟨h1,h2⟩,h3⟩:=h;have h4:=AY h2;have h5:=AY h3;refine⟨by unfold cT at h1;simp at h1;omega,⟨O,λs a=>tD<|h4.2 s a⟩,⟨O,λs a=>tD<|h5.2 s a⟩⟩
def Xh2{r:Sr}(hn:tb.length=r.n)(hx:∀b∈tb,b.wl.length=b.w.n/\b.ll.length=b.l.n)(h:Xdo tb=true):QCR r tb:=by
 unfold Xdo at h;rw[aq,ax]at h;have h1:stN tb.length=false:=by simpa using h.1
 unfold stN at h1;simp only[ai,aP,decide_eq_false_iff_not]at h1;refine⟨O,?_⟩;rcases bD 1000 r.n with g | g
 ·exact .inl g
 right;intro b hb;rw[ay O]at h;have h2:=Xhi (h.2 b hb) (hx b hb).1 (hx b hb).2;exact⟨O,h2.2⟩
theorem QFF{n:Int}(i:Fits F w)(h:JE F)(hy:X4 F y)(g:vG y):Qf prog 23 [y.v,.int .i64 n] w F (.bool (Ff y n)):=by
 refine QU.intro (G:=λF=>JE F/\X4 F y) func23 rfl tH rfl rfl i (λF' c=>⟨h.le c,hy.le c⟩)<|wa<|Qp rfl (vs:=[_,_,_]) rfl λb2=>wZ rfl<|wa<|QA (wO I J6 .here)<|QI rfl (λ_ _ f k=>uk (y:=y) f k.2 g) λ_=>QA (XL rfl)<|wW rfl ?_
 refine Qn (t:=8) rfl (λa=>?_) λa=>?_
 ·refine wB 4 I<|Jn I I<|Jn I I<|Jn I I<|Jn I I<|wD 6 I ?_
  exact wg I I (congrArg aa (by unfold Ff;rw[a];rfl)) tL
 have ht:GJ y:=g.ts (by simpa using a);refine QL I I<|QA (wO I J6 .here)<|QL I I<|QI I (λ_ _ f k=>QA3 (y:=y) f k.1.1 k.1.2 ht) λ_=>wB 4 I ?_
 refine Qn (t:=12) rfl (λb=>?_) λb=>?_
 ·refine QL I I<|QA (wO I J6 .here)<|wB 3 I<|QI I (λ_ _ f k=>QGM (y:=y) f k.1.1.1 k.1.1.2 g tF) λ_=>QL I I<|QA (XL I)<|wD 7 I ?_
  exact wg I I (congrArg aa (by unfold Ff;rw[a,b];rfl)) tL
 refine wD 11 I ?_;exact wg I I (congrArg aa (by unfold Ff;rw[a,b];rfl)) tL
theorem QDh{q:Option Addr}{l:List Int}(u:Fits F w)(m:Qy F q n 1 (l.map Jo))(hn:n<=1000000000):Qf prog 29 [.slice q n c] w F (.int .i64 (Qs l)):=by
 have o:l.length=n:=by have:=m.1;simpa using this
 have b:Qs l=Qs (l.map id):=by rw[eK]
 refine QU.intro (G:=λF=>Qy F q n 1 (l.map Jo)) func29 rfl tH rfl rfl u (λF' k=>m.le k)<|wa<|wZ rfl<|QG<|wa<|wZ rfl<|QV<|J9 (ι:=X7 l id) [(0,_)] (λi=>[(3,.int .i64 ((i.i:Nat):Int))]) (λi=>l.length-i.i) (X7.start _ _) wk wk λi=>?_
 simp only[ae,ab];have hi:=i.le;refine wA 5 I<|QA (Qg I Q2)<|wD 3 I ?_
 refine QQ I (λa=>?_) λa=>?_
 ·have g:i.i<l.length:=tD<|wi a
  have s:=Qw g;refine wC 8 I<|QA (Q3 (n:=n) i.i tM rfl rfl Q2 JK O)<|QA (JA (n:=n) ((i.i)*1) tM O rfl JK (XT (f:=Jo) (l:=l) O))<|wD 3 I ?_
  refine QQ I (λa=>?_) λa=>?_
  ·have h:id (el l i.i)≠0:=bne_iff_ne.1 a;refine wA 4 I<|QA (Q3 (n:=n) i.i tM rfl rfl Q2 JK O)<|QA (JA (n:=n) ((i.i)*1) tM O rfl JK (XT (f:=Jo) (l:=l) O))<|wD 4 I ?_
   repeat first|refine Q6 ?_|refine Qv ?_
   exact wg I I (congrArg (ak .i64) (b ▸ i.hit g h)) tL
  have h:id (el l i.i)=0:=bne_eq_false_iff_eq.1 a;refine QN<|Qj<|wE 3 I<|QA (Qu I I O)<|wB 2 I ?_
  exact Ql (i.next g h) (by show l.length-(i.i+1)<l.length-i.i;omega) wm we tM
 have j:l.length<=i.i:=tD<|wj a
 refine Qx ?_
 repeat first|refine QY ?_|refine QO tH ?_
 refine QZ<|wE 7 I ?_
 exact wg I I (congrArg (ak .i64) (b ▸ i.stop j)) tL
theorem Xoo(x:Fits F w)(u:Qy F a.1.q a.1.n 2 (a.2.flatMap VM))(o:a.2.length=a.1.n)(hb:a.1.n<=9223372036854775807):Qf prog 47 [a.1.v] w F (.bool (Xnn a)):=by
 refine QU.intro (G:=λF=>Qy F a.1.q a.1.n 2 (a.2.flatMap VM)) func47 rfl tH rfl rfl x (λF' m=>u.le m)<|wa<|wZ rfl<|QG<|wa<|wZ rfl<|QV<|J9 (ι:=Wo a.2 shT) [(0,_)] (λi=>[(3,.int .i64 ((i.i:Nat):Int))]) (λi=>a.2.length-i.i) (Wo.start _ _) wk wk λi=>?_
 simp only[ae,ab];have hi:=i.le;refine wA 5 I<|QA (Qg I Zg)<|wD 3 I ?_
 refine QQ I (λc=>?_) λc=>?_
 ·have h:i.i<a.2.length:=tD<|wi c
  have s:=Qw h;refine wC 4 I ?_;refine ZZ [(0,_),(3,_)] [(25,.bool (!(shT (el a.2 i.i))))] wm ?_ ?_
  ·refine wA 3 I<|QA (Q3 (n:=a.1.n) i.i tM rfl rfl Zg Xh O)<|QA (QH I Yh JM)<|QA (JA (n:=a.1.n) ((i.i)*2+1) tM O rfl JM (JN (f:=VM) (l:=a.2) YR O rfl))<|QA (Qg I Q2)<|wB 2 I ?_
   refine Qn (t:=17) rfl (λg=>?_) λg=>?_
   ·refine wB 9 I ?_;exact JY ⟨rfl,rfl,(congrArg (λb=>some (aa b)) (by unfold shT;rw[ar,g];rfl)),trivial⟩ we tM
   refine wB 5 I<|QA (Q3 (n:=a.1.n) i.i tM rfl rfl Zg Xh O)<|QL I I<|QA (QH I GM JF)<|QL I I<|QA (JA (n:=a.1.n) ((i.i)*2+0) tM O rfl JF (JN (f:=VM) (l:=a.2) YR O rfl))<|QL I I<|QA (Xc I Bw)<|wB 4 I ?_
   exact JY ⟨rfl,rfl,(congrArg (λb=>some (aa b)) (by unfold shT;rw[ar,g];rfl)),trivial⟩ we tM
  simp only[ae,ab];refine QQ I (λc=>?_) λc=>?_
  ·have j:shT (el a.2 i.i)=false:=by simpa using c
   refine wA 6 I ?_
   repeat first|refine Q6 ?_|refine Qv ?_
   exact wg I I (congrArg aa (by unfold Xnn;rw[i.hit h j];rfl)) tL
  have j:shT (el a.2 i.i)=true:=by simpa using c
  refine QN<|Qj<|wE 3 I<|QA (Qu I I O)<|wB 2 I ?_
  exact Ql (i.next h j) (by show a.2.length-(i.i+1)<a.2.length-i.i;omega) wm we tM
 have k:a.2.length<=i.i:=tD<|wj c
 refine Qx ?_
 repeat first|refine QY ?_|refine QO tH ?_
 refine QZ<|wE 4 I<|QA (Qg I Zg)<|wD 5 I ?_
 exact wg I I (congrArg aa (by unfold Xnn;rw[i.stop k];rfl)) tL
theorem Xgm{r:Sr}(K:Fits F w)(hx:IF F r tb)(hn:r.n<=9223372036854775807)(hz:∀b∈tb,b.w.n<=9223372036854775807/\b.l.n<=9223372036854775807):Qf prog 46 [r.v] w F (.bool (Xdo tb)):=by
 have y:=hx.len;have B:∀ {i:Nat},i<(tb.take 4).length->i<tb.length:=λh=>by rw[aG]at h;omega
 refine QU.intro (G:=λF=>IF F r tb) func46 rfl tH rfl rfl K (λF' E=>hx.le E)<|wa<|wZ rfl<|QG ?_
 refine ZZ [(0,_)] [(16,.bool (stN tb.length))] wk ?_ ?_
 ·refine wA 2 I<|QA (Qg I EC)<|wB 2 I ?_
  refine Qn (t:=7) rfl (λu=>?_) λu=>?_
  ·refine wB 3 I<|QA (Qg I EC)<|wB 4 I ?_
   refine Qn (t:=12) rfl (λo=>?_) λo=>?_
   ·refine wB 5 I ?_;exact JY ⟨rfl,(congrArg (λb=>some (aa b)) (by unfold stN;rw[y,u,o];rfl)),trivial⟩ we tM
   refine wB 3 I<|QA (Qg I EC)<|wB 4 I ?_
   exact JY ⟨rfl,(congrArg (λb=>some (aa b)) (by unfold stN;rw[y,u,o];rfl)),trivial⟩ we tM
  refine wB 8 I<|QA (Qg I EC)<|wB 4 I ?_
  exact JY ⟨rfl,(congrArg (λb=>some (aa b)) (by unfold stN;rw[y,u];rfl)),trivial⟩ we tM
 simp only[ae,ab];refine QQ I (λa=>?_) λa=>?_
 ·have x:stN tb.length=true:=a;refine wA 6 I ?_;exact wg I I (congrArg aa (by unfold Xdo;rw[x];rfl)) tL
 have x:stN tb.length=false:=a;refine wC 9 I<|J9 (ι:=Wo (tb.take 4) stX) [(0,_)] (λi=>[(3,.int .i64 ((i.i:Nat):Int))]) (λi=>(tb.take 4).length-i.i) (Wo.start _ _) wk wk λi=>?_
 simp only[ae,ab];have hi:=i.le;have H:i.i<=tb.length:=by rw[aG]at hi;omega
 refine QG ?_;refine ZZ [(0,_),(3,_)] [(24,.bool (decide (i.i<(tb.take 4).length)))] wm ?_ ?_
 ·refine wA 3 I<|QA (Qg I EC)<|wB 2 I ?_
  refine Qn (t:=21) rfl (λm=>?_) λm=>?_
  ·refine wB 6 I ?_;exact JY ⟨rfl,rfl,(congrArg (λb=>some (aa b)) (by rw[aG];have hb:=wi m;exact decide_eq_decide.2 O)),trivial⟩ we tM
  refine wB 4 I ?_;exact JY ⟨rfl,rfl,(congrArg (λb=>some (aa b)) (by rw[aG];have hb:=wj m;rw[decide_eq_false O])),trivial⟩ we tM
 simp only[ae,ab];refine QQ I (λa=>?_) λa=>?_
 ·have c:i.i<(tb.take 4).length:=wi a;have D:i.i<tb.length:=B c;have s:=Qw D;have C:el (tb.take 4) i.i=el tb i.i:=Xhc c;refine wC 4 I ?_;refine ZZ [(0,_),(3,_)] [(51,.bool (!(stX (el tb i.i))))] wm ?_ ?_
  ·refine wA 3 I<|QA (Q3 (n:=r.n) i.i (λF hx=>hx.row) rfl rfl EC X8 O)<|QA (QH I Ec JF)<|QA (JA (n:=r.n) ((i.i)*3+0) (λF hx=>hx.row) O rfl JF (JN (f:=uI) (l:=tb) Cb O rfl))<|Qb I (Q5 YG) JF Im I I λL=>QI I (λ_ _ f k=>QGb (l:=[(el tb i.i).e]) f (Qy.of (n:=1) (sz:=1) (cs:=[(el tb i.i).e].map tx) k.2 I) rfl tF) λ_=>wW I ?_
   refine Qn (t:=34) rfl (λg=>?_) λg=>?_
   ·refine wB 18 I ?_;exact JY ⟨rfl,rfl,(congrArg (λb=>some (aa b)) (by unfold stX;rw[ar,show cT [(el tb i.i).e]=true from g];rfl)),trivial⟩ we λ_ h=>h.1.1
   refine wB 5 I<|QA (Q3 (n:=r.n) i.i (λF h9=>h9.1.1.row) rfl rfl EC X8 O)<|QL I I<|QA (QH I Ub J0)<|QL I I<|QA (JA (n:=r.n) ((i.i)*3+1) (λF h9=>h9.1.1.row) O rfl J0 (JN (f:=uI) (l:=tb) Cb O rfl))<|QL I I<|QI I (λ_ _ f k=>um f (k.1.1.bx _ s).1 (hz _ s).1) λ_=>QL I I<|QA (XL I)<|wB 2 I ?_
   refine Qn (t:=43) rfl (λj=>?_) λj=>?_
   ·refine wB 9 I ?_;exact JY ⟨rfl,rfl,(congrArg (λb=>some (aa b)) (by unfold stX;rw[ar,show cT [(el tb i.i).e]=false from g,j];rfl)),trivial⟩ we λ_ h=>h.1.1.1
   refine wB 5 I<|QA (Q3 (n:=r.n) i.i (λF h9=>h9.1.1.1.row) rfl rfl EC X8 O)<|QL I I<|QA (QH I N6 J0)<|QL I I<|QA (JA (n:=r.n) ((i.i)*3+2) (λF h9=>h9.1.1.1.row) O rfl J0 (JN (f:=uI) (l:=tb) Cb O rfl))<|QL I I<|QI I (λ_ _ f k=>um f (k.1.1.1.bx _ s).2 (hz _ s).2) λ_=>QL I I<|QA (XL I)<|wB 2 I ?_
   exact JY ⟨rfl,rfl,(congrArg (λb=>some (aa b)) (by unfold stX;rw[ar,show cT [(el tb i.i).e]=false from g,j];rfl)),trivial⟩ we λ_ h=>h.1.1.1.1
  simp only[ae,ab];refine QQ I (λa=>?_) λa=>?_
  ·have z:stX (el (tb.take 4) i.i)=false:=by rw[C];simpa using a
   refine wA 6 I ?_
   repeat first|refine Q6 ?_|refine Qv ?_
   exact wg I I (congrArg aa (by unfold Xdo;rw[x,i.hit c z];rfl)) tL
  have z:stX (el (tb.take 4) i.i)=true:=by rw[C];simpa using a
  refine QN<|Qj<|wE 3 I<|QA (Qu I I O)<|wB 2 I ?_
  exact Ql (i.next c z) (by show(tb.take 4).length-(i.i+1)<(tb.take 4).length-i.i;omega) wm we tM
 have A:(tb.take 4).length<=i.i:=tD<|wj a
 refine Qx ?_
 repeat first|refine QY ?_|refine QO tH ?_
 refine QZ<|wE 7 I ?_
 exact wg I I (congrArg aa (by unfold Xdo;rw[x,i.stop A];rfl)) tL
section
open Go.RowKit Go.ChangeShapes Go.WideShapes Ig
section
variable{H:Type}{enc:TypeId×Value->H}{w:World}
def QGx(n:Nat):Prop:=n<=9223372036854775807
set_option maxRecDepth 100000 in
theorem QFd{x:DataW H×List MemPlace}(h:aO enc prog w 0 (λ_=>true) true m 36 cs=some x):∃(r:Sr) (l:List (List UInt8×List UInt8)),cs=[.slice r.q r.n r.cap]/\Ks (Vx w) r l/\QGx r.n:=by
 obtain⟨q,n,cap,l,h1,h2,h3,h4,_,_⟩:=Pe (f:=NU) (Q:=λ_=>True) underlying36 (show prog.cellsOf 40=2 by kernel_rfl) tF (λ_=>rfl) (λn cs x h=>by obtain⟨y,hy⟩:=xF n cs x h;exact⟨y,hy,trivial⟩) h;exact⟨⟨q,n,cap⟩,l,h1,⟨h2,h3⟩,h4⟩
theorem QAc(n:Nat)(cs:List Value)(x:DataW H×List MemPlace)(h:aO enc prog w 0 (λ_=>true) true n 9 cs=some x):∃y:List UInt8,cs=[tx y]/\y.length<=9223372036854775807:=by
 obtain⟨s,rfl,_,a⟩:=DataW.trod_string underlying9 h;refine⟨s.data.toList,by simp[tx],?_⟩;unfold maxLen at a;have:s.data.toList.length=s.size:=tJ;omega
set_option maxRecDepth 100000 in
theorem QBJ(m:Nat)(cs:List Value)(x:DataW H×List MemPlace)(h:aO enc prog w 0 (λ_=>true) true m 76 cs=some x):
  ∃a:NQ,cs=[a.1.v]/\(Qy (Vx w) a.1.q a.1.n 2 (a.2.flatMap VM)/\Yy (Vx w) a.2)/\a.2.length=a.1.n/\QGx a.1.n/\∀t∈a.2,QGw t:=by
 obtain⟨q,n,cap,l,h1,h2,h3,h4,h5,h6⟩:=Pe (cs:=cs) (f:=VM) (Q:=λy=>J8 (Vx w) y.r y.k/\QGw y) underlying76 (show prog.cellsOf 108=2 by kernel_rfl) tF (λ_=>rfl) ua h;exact⟨(⟨q,n,cap⟩,l),h1,⟨h2,λt ht=>(h5 t ht).1⟩,h3,h4,λt ht=>(h5 t ht).2⟩
def QFP(l:List NQ):(l.flatMap λa=>[a.1.v])=l.map λe=>e.1.v:=by
 induction l with
 |nil=>rfl
 |cons a l ih=>rw[bB,ih];rfl
set_option maxRecDepth 100000 in
theorem QEz{v:Value}{d:DataW H}{p:List MemPlace}(s:bL prog w .any b 38 v)(h:bT enc prog w 0 (λ_=>true) true 38 v d p):∃y:Xz,v=y.v/\X4 (Vx w) y/\vG y:=by
 obtain⟨v0,v1,v2,i,B,A,n,rfl,_,_,h0,h1,h2⟩:=Joins.open_agg3 underlying38 tE tE s h;obtain⟨q0,o,z,nl,e0,g,a2,a3,a4,a5⟩:=Pe (cs:=[v0]) (f:=λy=>[tx y]) (Q:=λy=>y.length<=9223372036854775807) underlying34 (show prog.cellsOf 9=1 by kernel_rfl) tF (λ_=>rfl) QAc h0;obtain⟨m,n1,c1,k,x,b1,b2,b3,b4,C⟩:=Pe (cs:=[v1]) (f:=λa:NQ=>[a.1.v]) (Q:=λa=>(Qy (Vx w) a.1.q a.1.n 2 (a.2.flatMap VM)/\Yy (Vx w) a.2)/\a.2.length=a.1.n/\QGx a.1.n/\∀t∈a.2,QGw t) underlying35 (show prog.cellsOf 76=1 by kernel_rfl) tF (λ_=>rfl) QBJ h1;obtain⟨l,sl,u,c,j⟩:=QFd h2;obtain rfl:=(aW e0).1;obtain rfl:=(aW x).1;obtain rfl:=(aW u).1;rw[QGf]at g;rw[QFP]at b1;exact⟨⟨⟨q0,o,z⟩,nl,⟨m,n1,c1⟩,k,l,sl⟩,rfl,⟨g,b1,λe he=>(b4 e he).1,c.row,a2,b2,c.len⟩,⟨a3,a5,a4,b3,j,λe he=>⟨(b4 e he).2.1,(b4 e he).2.2.1,λt ht=>((b4 e he).1.2 t ht).2.1⟩⟩⟩
theorem trod_struct3{t:TypeId}{f c b:Field}{fuel:Nat}{x:DataW H×List MemPlace}(ht:prog.underlying t=some (.struct #[f,c,b]))(h:aO enc prog w 0 (λ_=>true) true fuel t cs=some x):
  ∃yz0 y1 y2 n,cs.length=prog.cellsOf t/\aO enc prog w 0 (λ_=>true) true n f.type ((cs.drop f.offset).take (prog.cellsOf f.type))=some yz0/\aO enc prog w 0 (λ_=>true) true n c.type ((cs.drop c.offset).take (prog.cellsOf c.type))=some y1 /\
   aO enc prog w 0 (λ_=>true) true n b.type ((cs.drop b.offset).take (prog.cellsOf b.type))=some y2:=by
 obtain⟨i,n,_,rfl,j,a,g⟩:=DataW.trod_struct ht h
 match i,a with
 |[yz0,y1,y2],_=>exact⟨yz0,y1,y2,n,j,by simpa using g 0 f rfl,by simpa using g 1 c rfl,by simpa using g 2 b rfl⟩
set_option maxRecDepth 100000 in
theorem Xgz(m:Nat)(cs:List Value)(x:DataW H×List MemPlace)(h:aO enc prog w 0 (λ_=>true) true m 123 cs=some x):∃y:Wl,cs=uI y/\(Ks (Vx w) y.w y.wl/\Ks (Vx w) y.l y.ll)/\QGx y.w.n/\QGx y.l.n:=by
 obtain⟨g,E,D,n,f,h0,h1,h2⟩:=trod_struct3 underlying123 h;have C:prog.cellsOf 123=3:=tE;have c1:prog.cellsOf 22=1:=tE;have c2:prog.cellsOf 36=1:=tE;rw[C]at f
 match cs,f with
 |[a,b,c],_ =>
  dsimp only at h0 h1 h2;rw[c1]at h0;rw[c2]at h1 h2;obtain⟨e,rfl⟩:=LG jD (v:=a) h0;obtain⟨j,z,B,s,o⟩:=QFd (cs:=[b]) h1;obtain⟨i,u,A,p2,k⟩:=QFd (cs:=[c]) h2;obtain rfl:=(aW B).1;obtain rfl:=(aW A).1;exact⟨⟨e,j,z,i,u⟩,rfl,⟨s,p2⟩,o,k⟩
set_option maxRecDepth 100000 in
theorem Xgk{v:Value}{d:DataW H}{p:List MemPlace}(a:bL prog w .any b 77 v)(h:bT enc prog w 0 (λ_=>true) true 77 v d p):∃(r:Sr) (tb:List Wl),v=r.v/\IF (Vx w) r tb/\QGx r.n/\∀b∈tb,QGx b.w.n/\QGx b.l.n:=by
 obtain⟨q,n,cap,l,h1,h2,h3,h4,h5⟩:=QDZ (f:=uI) (Q:=λy=>(Ks (Vx w) y.w y.wl/\Ks (Vx w) y.l y.ll)/\QGx y.w.n/\QGx y.l.n) underlying77 (show prog.cellsOf 123=3 by kernel_rfl) tF Cb Xgz a h;exact⟨⟨q,n,cap⟩,l,h1,⟨h2,h3,λb hb=>(h5 b hb).1⟩,h4,λb hb=>(h5 b hb).2⟩
end
end
section
open Go.RowKit Go.ChangeShapes Go.WideShapes Ig
section
variable{H:Type}{enc:TypeId×Value->H}{w:World}
set_option maxRecDepth 100000 in
theorem Xon{v:Value}{d:DataW H}{p:List MemPlace}(c:bL prog w .any b 76 v)(h:bT enc prog w 0 (λ_=>true) true 76 v d p):
  ∃a:NQ,v=a.1.v/\QED (Vx w) a.1 a.2 (ZX a.2)/\(∀t∈a.2,QGw t)/\a.1.n<=9223372036854775807:=by
 obtain⟨a,len,cap,rfl⟩:=okWide_slice underlying76 c;obtain⟨fuel,f⟩:=h;exact Xoe (m:=fuel) (v:=.slice a len cap) f
end
end
def eqI8(a:Int):It .eql (.int .i64 a) (.int .i64 a)=some (.bool true):=by simp[It]
structure QxR(F:Gs)(r:Sr)(vs:List XP):Prop where
 row:Qy F r.q r.n 2 (vs.flatMap LP)
 len:vs.length=r.n
def QxR.le{a:Gs}{r:Sr}{vs:List XP}(h:QxR F r vs)(k:Gs.le F a):QxR a r vs:=⟨h.row.le k,h.len⟩
def QEi(x:XP):∀v∈LP x,v.oneCell'=true:=λv a=>by
 simp only[LP,List.mem_cons,List.not_mem_nil,or_false]at a;rcases a with rfl | rfl<;>rfl
def QEh(h:∀s∈l,Xd s.1 s.2=0):l.flatMap NU=(lV l).flatMap LP:=by
 induction l with
 |nil=>rfl
 |cons s l ih =>
  have h1:=Ku (h s (.head _));show NU s++l.flatMap NU=LP (JB s)++(lV l).flatMap LP;rw[ih λu hu=>h u (.tail _ hu)];congr 1;show[tx s.1,tx s.2]=[tx (JP (Qz s.1)),tx (JP (Qz s.2))];rw[<-(XM h1.1).1,<-(XM h1.2.1).1]
def Ks.q{r:Sr}(hx:Ks F r l)(h:∀s∈l,Xd s.1 s.2=0):QxR F r (lV l):=⟨by rw[<-QEh h];exact hx.row,by rw[Yg];exact hx.len⟩
def Ip(c:Rat×Rat)(bs:List (Rat×Rat))(ks:List Int)(i:Nat):Rat×Rat:=(bw i).foldl (λa j=>Jg a (Y5 (el bs j) (Qm ks j))) c
def vI(c:Rat×Rat)(bs:List (Rat×Rat))(ks:List Int)(i:Nat):Ip c bs ks (i+1)=Jg (Ip c bs ks i) (Y5 (el bs i) (Qm ks i)):=by
 unfold Ip;rw[ei,aL];rfl
def QAZ(c:Rat×Rat)(bs:List (Rat×Rat))(ks:List Int)(i:Nat):VT c bs ks (i+1)=if Qm ks i>0 then Jg (VT c bs ks i) (Y5 (el bs i) (Qm ks i))else VT c bs ks i:=by
 unfold VT;rw[ei,aL];rfl
theorem QC6(x y:Rat):Dv x y<=x/\Dv x y<=y:=by rw[O9];grind
theorem QC7(x y:Rat):x<=Gx x y/\y<=Gx x y:=by rw[CA];grind
def QGU(a b:Rat×Rat):(QBe a b).1<=(QBe a b).2:=by
 unfold QBe;exact bO (QC6 _ _).1 (bO (QC6 _ _).1 (bO (QC7 _ _).1 (QC7 _ _).1))
def QDW(b:Rat×Rat):Y5 b 0=(1,1):=by
 rw[pow_eq];have h1:b.1^(0:Int).toNat=1:=by show b.1^0=1;exact eG _
 have h2:b.2^(0:Int).toNat=1:=by show b.2^0=1;exact eG _
 unfold QDX;rw[h1,h2,O9,CA];simp
theorem QAr{a:Rat×Rat}(h:a.1<=a.2):Jg a (1,1)=a:=by
 rw[jw];unfold QBe;simp only[Rat.mul_one,O9,CA];obtain⟨x,y⟩:=a;simp only at h;simp only[eL,if_true];by_cases k:y<=x
 ·have:x=y:=Rat.le_antisymm h k;subst this;simp
 rw[if_pos h,if_neg k]
def gV{c:Rat}{bs:List (Rat×Rat)}{ks:List Int}(hk:∀i,0<=Qm ks i):∀i,Ip (c,c) bs ks i=VT (c,c) bs ks i/\(Ip (c,c) bs ks i).1<=(Ip (c,c) bs ks i).2
 |0=>⟨rfl,eL⟩
 |i+1=>by
  obtain⟨h1,h2⟩:=gV hk i;rw[vI,QAZ,<-h1];by_cases g:Qm ks i>0
  ·rw[if_pos g];exact⟨rfl,by rw[jw];exact QGU _ _⟩
  have:Qm ks i=0:=tD<|hk i
  rw[if_neg g,this,QDW,QAr h2];exact⟨rfl,h2⟩
theorem QEv{a:Rat×Rat}(n:Int)(ha:Ux m a):Ux (n.toNat*m+1) (Y5 a n):=by
 have b:∀x:Rat,JW x<=m->JW (x^n.toNat)<=n.toNat*m+1:=λx hx=>af (VP x _) (Nat.add_le_add_right (aI _ hx) _);have h:=Dt (k:=n.toNat*m+1) (r:=a.1^n.toNat) (l:=[a.2^n.toNat]) (b _ ha.1) λx hx=>by
  obtain rfl:=List.mem_singleton.1 hx;exact b _ ha.2
 unfold Y5;refine⟨?_,h.2⟩;dsimp only;split
 ·exact af QEW O
 exact h.1
def yp{ks:List Int}(h:∀k∈ks,0<=k)(i:Nat):0<=Qm ks i:=by
 rcases bD i ks.length with g | g
 ·exact h _ (by rw[Z9 g];exact ba g)
 unfold Qm;rw[dif_neg O];exact Int.le_refl _
def Uy(bs:List (Rat×Rat))(l:List Tm):Rat×Rat:=l.foldl (λa t=>QCw a (Ip (t.1,t.1) bs t.2 t.2.length)) (0,0)
theorem QGN{bs:List (Rat×Rat)}{l:List Tm}(h:∀t∈l,∀k∈t.2,0<=k):Uy bs l=J3 bs l:=by
 unfold Uy J3;have:∀(l:List Tm) (a:Rat×Rat),(∀t∈l,∀k∈t.2,0<=k)->l.foldl (λa t=>QCw a (Ip (t.1,t.1) bs t.2 t.2.length)) a=l.foldl (λa t=>Vz a (VT (t.1,t.1) bs t.2 t.2.length)) a:=by
  intro l
  induction l with
  |nil=>exact λ_ _=>rfl
  |cons t l ih =>
   intro a h;rw[er,er,(gV (yp (h t (List.mem_cons_self ..))) _).1];exact ih _ λu hu=>h u (aS _ hu)
 exact this l (0,0) h
def QDT{bs:List (Rat×Rat)}(h:i<ps.length):Uy bs ((ps.take (i+1)).map R6)=QCw (Uy bs ((ps.take i).map R6)) (Ip (Qz (el ps i).f,Qz (el ps i).f) bs (el ps i).k (el ps i).k.length):=by
 unfold Uy;rw[XE h,ep,aL];rfl
theorem QEl{a b:Rat×Rat}(c:Fits F w)(ha:Ux 45000 a)(hb:Ux 45000 b):Qf prog 121 [kh a,kh b] w F (kh (Jg a b)):=by
 have h:=ur c ha hb;rw[<-jw]at h;exact h
theorem QEq{a b:Rat×Rat}(c:Fits F w)(ha:Ux 100000 a)(hb:Ux 100000 b):Qf prog 127 [kh a,kh b] w F (kh (QCw a b)):=uz c ha hb
structure NtI(n:Nat) where
 i:Nat
 le:i<=n
def ja{l:List Int}(h:k<l.length):Qm l k∈l:=by rw[Z9 h];exact ba h
def DG.drop{l:List Int}(hd:DG B9 l)(k:Nat):DG B9 (l.drop k):=λx hx=>hd x (bp hx)
def QCn(l:List XP):(l.flatMap LP).length=l.length*2:=Dq (f:=LP) uh l
theorem QGJ{a:XP}{n:Int}(b:Fits F w)(ha:Xf a 2000)(hn:0<=n/\n<=12):Qf prog 228 [kh a,.int .i64 n] w F (kh (Y5 a n)):=by
 have h:=gQ (a:=a) (n:=n) b ha hn;rw[<-pow_eq]at h;exact h
structure jT(Z D T S:Nat)(ps:List V0)(bs:List XP):Prop where
 poc:ke Z D T bs.length (ps.map R6)
 ck:∀t∈ps,Jp t.f=0
 sz:∀x∈bs,Xf x S
 s1:S<=2000
 n1:Z+D*(S+1)<=45000
 n2:CO Z D T S<=90000
def jT.pw(h:jT Z D T S ps bs){t:V0}(ht:t∈ps):t.k.length=bs.length/\∀k∈t.k,0<=k/\k<=12:=⟨h.poc.pl _ (aC (f:=R6) ht),h.poc.pw _ (aC (f:=R6) ht)⟩
def jT.refs(h:jT Z D T S ps bs){t:V0}(ht:t∈ps){i:Nat}(hi:i<=bs.length):Xf (Ip (Qz t.f,Qz t.f) bs t.k i) 45000:=by
 rw[(gV (yp λk hk=>((h.pw ht).2 k hk).1) i).1];have h1:=Cm h.poc I h.sz (aC (f:=R6) ht) i hi;refine Xf.mono h1 (af (bU (aT _ (af (Dl _ hi) (h.poc.sum _ (aC (f:=R6) ht)))) Z) h.n1)
def jT.QI6(h:jT Z D T S ps bs){t:V0}(ht:t∈ps){i:Nat}(hi:i<bs.length):Xf (Y5 (el bs i) (Qm t.k i)) 45000:=by
 have h1:=QEv (Qm t.k i) (show Ux S (el bs i)from h.sz _ (Qw hi));have h2:=(h.pw ht).2 (Qm t.k i) (ja (by rw[(h.pw ht).1];exact hi));have h3:(Qm t.k i).toNat*S<=12*2000:=aN O h.s1;exact⟨af h1.1 O,af h1.2 O⟩
theorem vJ(h:∀t∈ps,∀k∈t.k,0<=k)(i:Nat):Uy bs ((ps.take i).map R6)=J3 bs ((ps.map R6).take i):=by
 rw[<-eC];exact QGN λt ht k hk=>by
  rw[eC]at ht;obtain⟨s,a,rfl⟩:=List.mem_map.1 (aR ht);exact h s a k hk
theorem jT.ev(h:jT Z D T S ps bs){i:Nat}(hi:i<=ps.length):Xf (Uy bs ((ps.take i).map R6)) 90000:=by
 rw[vJ λt ht k hk=>((h.pw ht).2 k hk).1];have h1:=Ii h.poc I h.sz i (by rw[au];exact hi);refine h1.mono (af ?_ h.n2);unfold CO;exact bU (aT _ (af hi (by have:=h.poc.len;rw[au]at this;exact this))) 2
theorem ux{q:Option Addr}{rb:Sr}(hF:Fits F w)(hR:Qy F q n 2 (ps.flatMap VM))(U:Yy F ps)(hln:ps.length=n)(R:QxR F rb bs)(x:jT Z D T S ps bs)(hb:n<=1000000/\rb.n<=1000000):
  Qf prog 136 [.slice q n cap,rb.v] w F (kh (J3 bs (ps.map R6))):=by
 have X:=R.len;refine QU.intro (G:=λF=>Qy F q n 2 (ps.flatMap VM)/\Yy F ps/\QxR F rb bs) func136 rfl tH rfl rfl hF (λF' z=>⟨hR.le z,U.le z,R.le z⟩)<|wa<|Qc Xa λb4=>wY<|wa<|QI rfl (λ_ _ f k=>VC f) λ_=>Qc Xa λA=>QW (vs:=[_,_]) rfl rfl rfl Jd rfl .here .h2 wm<|wD 5 I<|wZ rfl<|QV<|JU (ι:=NtI ps.length) [(0,_),(1,_),(4,_),(5,_)] (λi=>[(6,.int .i64 ((i.i:Nat):Int))]) (λi=>[(A,.cells [tx (JP (Uy bs ((ps.take i.i).map R6)).1),tx (JP (Uy bs ((ps.take i.i).map R6)).2)].toArray 40 (0,0)),(b4,.cells [tx [],tx []].toArray 40 (0,0))]) (λi F=>True) (λi=>ps.length-i.i) (⟨0,aE _⟩) wv wk ((by show bC (α:=Nat×Obj) [(A,.cells [tx (JP ((0,0):Rat×Rat).1),tx (JP ((0,0):Rat×Rat).2)].toArray 40 (0,0)),(b4,.cells [tx [],tx []].toArray 40 (0,0))] _;rw[show JP ((0,0):Rat×Rat).1=[48]from by decide +kernel];exact aK _)) tL λi=>?_
 simp only[ae,ab];have hi:=i.le;have C:=x.ev hi;refine wA 5 I<|QA (Qg I Zg)<|wD 3 I ?_
 refine QQ I (λs=>?_) λs=>?_
 ·have y:i.i<ps.length:=tD<|wi s
  have m:=Qw y;have E:=x.ck _ m;obtain⟨hkl,L⟩:=x.pw m;have Y:=(U _ m).2.1;refine wC 8 I<|QA (Q3 (n:=n) i.i (λF h9=>h9.1.1.1) rfl rfl Zg Xh O)<|QA (QH I GM JF)<|QA (JA (n:=n) ((i.i)*2+0) (λF h9=>h9.1.1.1) O rfl JF (JN (f:=VM) (l:=ps) YR O rfl))<|QI I (λ_ _ f k=>VC f) λ_=>Qc Xa λP=>QW (vs:=[_,_]) I I I Jd I .here .h2 wm<|wD 9 I<|JU (ι:=NtI bs.length) [(0,_),(1,_),(4,_),(5,_),(6,_),(7,_)] (λi2=>[(8,.int .i64 ((i2.i:Nat):Int))]) (λi2=>[(P,.cells [tx (JP (Ip (Qz (el ps i.i).f,Qz (el ps i.i).f) bs (el ps i.i).k i2.i).1),tx (JP (Ip (Qz (el ps i.i).f,Qz (el ps i.i).f) bs (el ps i.i).k i2.i).2)].toArray 40 (0,0)),(A,.cells [tx (JP (Uy bs ((ps.take i.i).map R6)).1),tx (JP (Uy bs ((ps.take i.i).map R6)).2)].toArray 40 (0,0)),(b4,.cells [tx [],tx []].toArray 40 (0,0))]) (λi2 F=>True) (λi2=>bs.length-i2.i) (⟨0,aE _⟩) wz wk ((by show bC (α:=Nat×Obj) [(P,.cells [tx (JP ((Qz (el ps i.i).f,Qz (el ps i.i).f):Rat×Rat).1),tx (JP ((Qz (el ps i.i).f,Qz (el ps i.i).f):Rat×Rat).2)].toArray 40 (0,0)),(A,.cells [tx (JP (Uy bs ((ps.take i.i).map R6)).1),tx (JP (Uy bs ((ps.take i.i).map R6)).2)].toArray 40 (0,0)),(b4,.cells [tx [],tx []].toArray 40 (0,0))] _;dsimp only;rw[<-(XM E).1];exact aK _)) tL λi2=>?_
  simp only[ae,ab];have hj:=i2.le;have B:=x.refs m hj;refine wA 5 I<|QA (Qg I XF)<|wD 3 I ?_
  refine QQ I (λs=>?_) λs=>?_
  ·have u:i2.i<bs.length:=tD<|wi s
   have H:=(x.sz _ (Qw u)).mono x.s1;have N:=L (Qm (el ps i.i).k i2.i) (ja O);have K:=x.QI6 m u;refine wC 4 I<|Jq 15 we mixed tE tE ?_
   simp only[bS,bm,aV,ew];refine QK (wN I Jd .here)<|QK (QD I)<|QK (QD I)<|QK (Q3 (n:=rb.n) (i2.i) (λF h9=>h9.1.1.1.1.2.2.row) rfl rfl XF Jd O)<|QK (JZ (n:=rb.n) (vs:=[tx (JP (el bs (i2.i)).1),tx (JP (el bs (i2.i)).2)]) ((i2.i)*2) (λF h9=>h9.1.1.1.1.2.2.row) O rfl Jd I λj v V=>JN (f:=LP) (l:=bs) uh O V)<|QK (QD I)<|QK (QD I)<|QK (Q3 (n:=n) i.i (λF h9=>h9.1.1.1.1.1) rfl rfl Zg Xh O)<|QK (QH I Yh JM)<|QK (JA (n:=n) ((i.i)*2+1) (λF h9=>h9.1.1.1.1.1) O rfl JM (JN (f:=VM) (l:=ps) YR O rfl))<|QK (QD I)<|QK (Q3 (n:=(el ps i.i).r.n) (i2.i) (λF h9=>((h9.1.1.1.1.2.1 _ m)).1) rfl rfl Q2 JK O)<|QK (JA (n:=(el ps i.i).r.n) ((i2.i)*1) (λF h9=>((h9.1.1.1.1.2.1 _ m)).1) O rfl JK (Jz (o:=(el ps i.i).k) O))<|QR I (λ_ _ f k=>QGJ (a:=el bs i2.i) f H N) λ_=>QR I (λ_ _ g h=>QEl (a:=(Ip (Qz (el ps i.i).f,Qz (el ps i.i).f) bs (el ps i.i).k i2.i)) (b:=Y5 (el bs i2.i) (Qm (el ps i.i).k i2.i)) g B K) λ_=>ZS<|QW (vs:=[_,_]) I I I Jd I .here .h2 wm<|QE<|Qj<|wE 3 I<|QA (Qu I I O)<|wB 2 I ?_
   exact Ql (⟨i2.i+1,u⟩) (by show bs.length-(i2.i+1)<bs.length-i2.i;omega) w6 ((by show bC (α:=Nat×Obj) [(P,.cells [tx (JP (Ip (Qz (el ps i.i).f,Qz (el ps i.i).f) bs (el ps i.i).k (i2.i+1)).1),tx (JP (Ip (Qz (el ps i.i).f,Qz (el ps i.i).f) bs (el ps i.i).k (i2.i+1)).2)].toArray 40 (0,0)),(A,.cells [tx (JP (Uy bs ((ps.take i.i).map R6)).1),tx (JP (Uy bs ((ps.take i.i).map R6)).2)].toArray 40 (0,0)),(b4,.cells [tx [],tx []].toArray 40 (0,0))] _;rw[vI];exact aK _)) λF h=>⟨h.1.1.1,trivial⟩
  have Q:i2.i=bs.length:=tD<|wj s
  refine Qx ?_
  repeat first|refine QY ?_|refine QO tH ?_
  refine QZ<|QC<|QB<|QA (wN I Jd .u1)<|QA (wN I Jd .here)<|QI I (λ_ _ g h=>QEq (a:=(Uy bs ((ps.take i.i).map R6))) (b:=(Ip (Qz (el ps i.i).f,Qz (el ps i.i).f) bs (el ps i.i).k i2.i)) g (Xf.mono C tF) (Xf.mono B tF)) λ_=>QW (vs:=[_,_]) I I I Jd I .u1 .h2 wm<|QE<|Qj<|wE 3 I<|QA (Qu I I O)<|wB 2 I ?_
  have ek:(el ps i.i).k.length=i2.i:=O;exact Ql (⟨i.i+1,y⟩) (by show ps.length-(i.i+1)<ps.length-i.i;omega) wy (.cons _ (by show bC (α:=Nat×Obj) [(A,.cells [tx (JP (Uy bs ((ps.take (i.i+1)).map R6)).1),tx (JP (Uy bs ((ps.take (i.i+1)).map R6)).2)].toArray 40 (0,0)),(b4,.cells [tx [],tx []].toArray 40 (0,0))] _;rw[QDT y,ek];exact aK _)) λF h=>⟨h.1.1.1.1,trivial⟩
 have M:i.i=ps.length:=tD<|wj s
 refine Qx ?_
 repeat first|refine QY ?_|refine QO tH ?_
 refine QZ<|QC<|wa<|QA (wN I Jd .here)<|QW (vs:=[_,_]) I I I Jd I .u1 .h2 wm<|wY<|QX ?_
 exact QP (()) I (.JX (c:=[_,_]) I Jd .u1 .nil) (by rw[M,vJ (λt ht k hk=>((x.pw ht).2 k hk).1),ay (by rw[au];exact ah _)]) tL
theorem ui(l:List XP):∀v∈l.flatMap LP,v.oneCell'=true:=λv a=>by obtain⟨s,_,h⟩:=List.mem_flatMap.1 a;exact QEi s v h
def Sw(l:List Rat):Nat:=l.foldr (λr q=>r.den*q) 1
def Mw:∀l:List Rat,0<Sw l
 |[]=>Nat.one_pos
 |r::l=>aY r.den_pos (Mw l)
theorem xX:∀ {l:List Rat} {r:Rat},r∈l->r.den ∣ Sw l
 |a::l,r,h=>by
  rcases List.mem_cons.1 h with rfl | h
  ·exact bZ _ _
  exact Nat.dvd_trans (xX h) (Nat.dvd_mul_left _ _)
def QCu:∀ {l:List Rat},(∀r∈l,JW r<=k)->sz ((Sw l:Nat):Int)<=l.length*k+1
 |[],_=>by rw[List.length_nil,Nat.zero_mul];decide
 |r::l,h=>by
  have h1:=QCu λx hx=>h x (aS _ hx);have h2:sz (r.den:Int)<=k:=af (Nat.le_max_right _ _) (h r tJ);have h3:=K8 (r.den:Int) ((Sw l:Nat):Int);rw[<-bj]at h3;show sz ((r.den*Sw l:Nat):Int)<=_;rw[ao,bR];omega
structure SmS(Z T D m:Nat)(rs:List (List Tm)):Prop where
 N4:∀p∈rs,∀u∈p,JW u.1<=Z/\Zz u.2 (m+1)<=D/\u.2.length=m+1/\∀k∈u.2,0<=k/\k<=12
 len:∀p∈rs,p.length<=T
 hn:rs.length=m
def Xar(rs:List (List Tm)):List Rat:=rs.flatMap λp=>p.map (·.1)
def Xb1:∀ {rs:List (List Tm)},(∀p∈rs,p.length<=T)->(Xar rs).length<=rs.length*T
 |[],_=>aE _
 |p::rs,h=>by
  have h1:=Xb1 λx hx=>h x (aS _ hx);have h2:=h p tJ;show(p.map (·.1)++Xar rs).length<=_;rw[aj,au,ao,bR];omega
def QEa:∀(ks:List Int) (m:Nat),(∀k∈ks,0<=k)->ks.length=m->((Zz ks m:Nat):Int)=ks.sum:=by
 intro ks;have a:∀(m:Nat) (ks:List Int),(∀k∈ks,0<=k)->m<=ks.length->((Zz ks m:Nat):Int)=(ks.take m).sum:=by
  intro m
  induction m with
  |zero=>intro ks _ _;rw[bm];rfl
  |succ m ih =>
   intro ks h hm;show((Zz ks m+(Qm ks m).toNat:Nat):Int)=_;rw[XE (show m<ks.length by omega),List.sum_append,Int.natCast_add,ih ks h O];have h1:=h (Qm ks m) (ja O);have h2:el ks m=Qm ks m:=(YW O).symm;rw[h2];simp;omega
 intro m h b;rw[a m ks h O,<-b,aZ]
theorem QGh{d z:Nat}(h:Uz s d=true)(hz:10^d<=2^z):JW (Qz s)<=z:=by
 simp only[Uz,aq,decide_eq_true_eq,beq_iff_eq]at h;obtain⟨_,hc,h1,h2⟩:=h;have c:=(XM hc).1;generalize Qz s=x at c;have b:∀n:Nat,(bM n).length<=d->n<2^z:=λn hn=>by
  have a:=Hb (Jy n);rw[Xi]at a;exact bz (bz a (bQ tF hn)) hz
 have e:numOf (JP x)=Ze x.num:=by
  unfold numOf;by_cases h:x.den=1
  ·obtain⟨h1,h2⟩:=LL h;rw[h2,aZ,h1]
  exact(EB h).2.2.1
 rw[c,e,QAM]at h1;have hn:sz x.num<=z:=(XD _ _).2 (b _ O);have hd:sz (x.den:Int)<=z:=by
  refine(XD _ _).2 ?_;rw[bA];by_cases g:x.den=1
  ·have:(1:Nat)<=10^d:=Nat.one_le_pow _ _ tF;have hx:d≠0:=by
    intro h0;have:=Kn x.num.natAbs;have h3:(bM x.num.natAbs).length≠0:=λq=>this (List.length_eq_zero_iff.1 q);omega
   have:1<10^d:=Nat.one_lt_pow hx tF;omega
  refine b _ ?_;rw[c]at h2;unfold CS at h2;rw[if_neg λe=>g ((LM x).1 e),(EB g).2.2.2]at h2;omega
 exact Nat.max_le.2 ⟨hn,hd⟩
theorem QGF{v:Int}(h:pT y v 3 6=true)(hr:y.rl.length=y.rt.n):SmS 20 4 3 y.rl.length y.rs/\(y.rl.length:Int)<=v:=by
 unfold pT at h;rw[aq,ax]at h;obtain⟨h0,h1⟩:=h;refine⟨⟨λp hp u hu=>?_,λp hp=>?_,by unfold Xz.rs;rw[au]⟩,by rw[hr];exact(QFQ h0).2.2.1⟩
 ·obtain⟨e,he,rfl⟩:=List.mem_map.1 hp;obtain⟨x,hx,rfl⟩:=List.mem_map.1 hu;have h2:=h1 e he;unfold fpB at h2;split at h2
  ·cases h2
  rename_i hg;rw[aB,bX]at h2;have h3:=h2 x hx;rw[ee,ai,aD,decide_eq_false_iff_not]at h3;have h4:Zh (ZX e.2) (y.rt.n:Int)=0:=by
   rcases bY (Zh (ZX e.2) (y.rt.n:Int)=0)with g | g
   ·exact g
   exact absurd (Or.inr g) hg
  have h5:=Wv ((H4 h4).term x hx);have hlen:x.2.length=y.rl.length+1:=tD h5.1;refine⟨QGh h3.2 tF,?_,hlen,h5.2.1⟩;have h6:=QEa x.2 (y.rl.length+1) (λk hk=>(h5.2.1 k hk).1) hlen;show Zz x.2 (y.rl.length+1)<=3;have:=h3.1;omega
 obtain⟨e,he,rfl⟩:=List.mem_map.1 hp;have h2:=h1 e he;unfold fpB at h2;split at h2
 ·cases h2
 rename_i hg;have h3:¬((ZX e.2).length:Int)>4:=λg=>hg (Or.inl g);unfold Xq;rw[au];omega
structure SmY(y:Xz)(m:Nat):Prop where
 s:SmS 20 4 3 m y.rs
 rl:y.rl.length=m
 pl:∀e∈y.rl,e.2.length=e.1.n/\e.1.n<=1000/\∀t∈e.2,Jp t.f=0
structure ShB(m:Nat)(x:List XP):Prop where
 len:x.length=m
 sz:∀a∈x,Xf a 160
 ord:Nv x
section
variable{y:Xz}{m n:Nat}{fr t2:Rat}{x on:List XP}(h:SmY y m)(hm:m<=2)(hx:ShB m x)(ho:ShB m on)(hf:JW fr<=56)(ht:JW t2<=56)(hlt:fr<=t2)(hn:n<=3)
include h hm hx ho hf ht hlt hn
omit h hm hlt hn in
omit hlt hn in
omit hm hlt in
omit h hm hx ho hf ht hlt in
end
def Wl.sl(b:Wl)(k:Nat):List (List UInt8×List UInt8):=if k=0 then b.wl else b.ll
section
variable{P:Program}{N:Nat}{m:Sl}{Y:World->Prop}{ty:TypeId}
theorem cA{T e:TypeId}{x:Operand}{lo:Option Operand}{vl:Option Value}{q:Option Addr}{sz:Nat}{g:Bool}(l:Nat)(hx:ev m x=some (.slice q n c))(el:Is m lo=some vl)(k:vl=some (.int .i64 (l:Int)))(i:Gp P T=some e)(j:Z5 P e=some (g,sz))(f:l<=n)(hc:n<=c):
  Qt P N m Y (.slice T x lo none none) ty (.slice (if c=l then q else q.map λa=>a.add (l*sz)) (n-l) (c-l)):=λa w _ _ _ _ ha _=>by
 subst k;have h:l<=c:=af f hc;have b:(eF T (.slice q n c) (some (.int .i64 (l:Int))) none none).run P w = .ok (.slice (if c=l then q else q.map λa=>a.add (l*sz)) (n-l) (c-l)) w:=by
  simp[eF,run_underlying (Q5 i),Instr.sliceBounds,Instr.sliceBound,asIntOf,hc,f,h,K4 j]
 simp[execOp,ha.ev hx,ha.Is el,Instr.sliceAt,run_underlying (Q5 i),b]
end
theorem Qy.drop{q:Option Addr}{sz:Nat}(h:Qy F q n sz cs)(hc:n<=c)(l:Nat):Qy F (if c=l then q else q.map λa=>a.add (l*sz)) (n-l) sz (cs.drop (l*sz)):=by
 refine⟨by rw[aQ,h.1,Nat.sub_mul],λh0=>?_⟩;obtain⟨b,off,f,T,k,i,g⟩:=h.2 O;subst k;rw[if_neg O];refine⟨b,off+l*sz,f,T,by rw[bV,BP],i,λj u hu=>?_⟩;rw[Nat.add_assoc];rw[List.getElem?_drop]at hu;exact g _ u hu
def R9(P:List Tm)(i:Nat)(k:List Int):Bool:=decide (i<P.length)&&decide ((el P i).2=k)
def Ch(P:List Tm)(i:Nat)(k:List Int):Nat:=if R9 P i k=true then i+1 else i
def uT(P:List Tm)(i:Nat)(t:Tm):Rat:=if R9 P i t.2=true then(el P i).1+t.1 else t.1
theorem cC(t:Tm):∀ {P:List Tm} {i:Nat},i<=P.length->(∀x∈P.take i,before x.2 t.2=true)->(i<P.length->before (el P i).2 t.2=false) ->
  Z0 P t=P.take i++(if uT P i t=0 then[]else[(uT P i t,t.2)])++P.drop (Ch P i t.2)
 |[],i,h,_,_=>by
  obtain rfl:i=0:=by simpa using h
  simp[Z0,uT,Ch,R9]
 |y::P,0,_,_,h=>by
  have hb:before y.2 t.2=false:=h tJ;have a:el (y::P) 0=y:=rfl;unfold Z0 uT Ch R9;rw[a,if_neg (by rw[hb];decide)];by_cases e:y.2=t.2
  ·simp[e];split<;>rfl
  simp[e];split<;>rfl
 |y::P,i+1,hi,h1,h2=>by
  have a:el (y::P) (i+1)=el P i:=rfl;have ih:=cC t (P:=P) (i:=i) (by simpa using hi) (λx hx=>h1 x (by simp[hx])) (λh=>by have:=h2 tK;rwa [a]at this);have hb:=h1 y tJ;have es:R9 (y::P) (i+1) t.2=R9 P i t.2:=by unfold R9;rw[a];simp
  have b:uT (y::P) (i+1) t=uT P i t:=by unfold uT;rw[es,a]
  have c:Ch (y::P) (i+1) t.2=Ch P i t.2+1:=by unfold Ch;rw[es];split<;>rfl
  rw[b,c];show Z0 (y::P) t=(y::P.take i)++_++(y::P).drop (Ch P i t.2+1);rw[aV];unfold Z0;rw[if_pos hb,ih];simp
def uf{q:Option Addr}{l sz:Nat}(h:(if c=l then q else q.map λa=>a.add (l*sz))=none):q=none:=by
 split at h
 ·exact h
 simpa using h
def QDN(P:List Tm):(Vg P).length=P.length:=by simp[Vg]
def OO{P:List Tm}(h:ZX ps=Vg P):ps.length=P.length:=by
 have:=congrArg List.length h
 rwa [QDF,QDN]at this
def vw{P:List Tm}(h:ZX ps=Vg P){i:Nat}(hi:i<ps.length):(el ps i).f=JP (el P i).1/\(el ps i).k=(el P i).2:=by
 have a:=OO h;have h1:(ZX ps)[i]?=(Vg P)[i]?:=by rw[h]
 unfold ZX Vg at h1;rw[bW,bW,bK hi,bK (show i<P.length by omega)]at h1;simp only[bV,Option.some.injEq,Prod.mk.injEq]at h1;rw[Jb hi,Jb (show i<P.length by omega)];exact h1
def uV(r:Rat):(JP r==[48])=decide (r=0):=by
 rw[ag,beq_iff_eq,decide_eq_true_eq];constructor
 ·intro h;have e:JP (0:Rat)=[48]:=tG;have h1:=congrArg Qz (h.trans e.symm)
  rwa [vt,vt]at h1
 rintro rfl;decide +kernel
structure PlJ(ps:List V0)(P:List Tm)(k:List Int) where
 i:Nat
 v:Value
 ob:List (Nat×Obj)
 le:i<=ps.length
 hr:Q8 108 2 v i ((ps.take i).flatMap VM) ob
 hb:∀x∈P.take i,before x.2 k=true
structure PlE(ps:List V0)(P:List Tm)(k:List Int) extends PlJ ps P k where
 stop:i<P.length->before (el P i).2 k=false
def QAJ{P:List Tm}{k:List Int}(h:i<P.length)(hb:∀x∈P.take i,before x.2 k=true)(e:before (el P i).2 k=true):∀x∈P.take (i+1),before x.2 k=true:=by
 intro x hx;rw[XE h]at hx;rcases List.mem_append.1 hx with hx | hx
 ·exact hb x hx
 rw[List.mem_singleton.1 hx];exact e
def QDG{l:List V0}:∀v∈l.flatMap VM,v.oneCell'=true:=by
 intro v a;obtain⟨t,_,h⟩:=List.mem_flatMap.1 a;exact jc t v h
def QAK(l:List V0):(l.flatMap VM).length=l.length*2:=by
 induction l with
 |nil=>rfl
 |cons t l ih=>rw[bB,aj,ih,ao,YR];omega
def vc(l:List V0)(j:Nat):(l.flatMap VM).drop (j*2)=(l.drop j).flatMap VM:=by
 induction l generalizing j with
 |nil=>simp
 |cons t l ih =>
  cases j with
  |zero=>simp
  |succ j =>
   rw[aV,<-ih j,bB,show(j+1)*2=2+j*2 by omega,<-List.drop_drop];rfl
def jb(a b:List V0):ZX (a++b)=ZX a++ZX b:=by simp[ZX]
def IW(a b:List Tm):Vg (a++b)=Vg a++Vg b:=by simp[Vg]
def QFh(a:List V0)(i:Nat):ZX (a.take i)=(ZX a).take i:=by simp[ZX]
def QAs(a:List Tm)(i:Nat):Vg (a.take i)=(Vg a).take i:=by simp[Vg]
def QFi(a:List V0)(i:Nat):ZX (a.drop i)=(ZX a).drop i:=by simp[ZX]
def QAt(a:List Tm)(i:Nat):Vg (a.drop i)=(Vg a).drop i:=by simp[Vg]
theorem QEj{q:Option Addr}{r:Sr}{k:List Int}{y:Rat}{P:List Tm}(hF:Fits F w)(hR:Qy F q n 2 (ps.flatMap VM))(hA:Yy F ps)(hn:ps.length=n)(hcap:n<=cap)(hK:J8 F r k)(hP:ZX ps=Vg P)(hz:∀t∈P,JW t.1<=100000)(hy:JW y<=100000)(hw:∀t∈P,t.2.length=k.length/\PW t.2)(hk:PW k)(hl:n<=1000000):
  QU prog 292 [.slice q n cap,.agg #[tx (JP y),.slice r.q r.n r.cap]] w F (λ(c:NQ)=>c.1.v) (λc F=>QED F c.1 c.2 (Vg (Z0 P (y,k)))):=by
 have hPl:=OO hP;have hRJ0:=hR.cM;have hk0:=hK.1.cM;have hkl:=hK.2.1;have hk2:=hk.2;refine QU.intro (G:=λF=>Qy F q n 2 (ps.flatMap VM)/\Yy F ps/\J8 F r k) func292 rfl tH rfl rfl hF (λF' hF'=>⟨hR.le hF',hA.le hF',hK.le hF'⟩)<|wa<|Qp rfl (vs:=[_,_]) rfl λb3=>wZ rfl<|QG<|DP (b:=b3) .here<|QB<|wZ rfl<|wa<|wX rfl<|QE<|QC ?_
 refine Us (ι:=PlE ps P k) [(0,_),(3,_)] (λx=>[(5,x.v),(6,.int .i64 ((x.i:Nat):Int))]) (λx=>x.ob) (λx F=>True) wm ?_ ?_
 ·refine QV<|JU (ι:=PlJ ps P k) [(0,_),(3,_)] (λi=>[(5,i.v),(6,.int .i64 ((i.i:Nat):Int))]) (λi=>i.ob) (λi F=>True) (λi=>ps.length-i.i) (⟨0,_,[],aE _,.nil,tJ⟩) wm wm we tL λi=>?_
  simp only[ae,ab];have hi:=i.le;refine QG<|QG<|JG we mixed tE<|QK (QD I)<|QK (QD I)<|QK (Qg I Zg)<|QK (QT I I I)<|QK (QD I) ?_
  refine Gg (t:=12) rfl (λhb12=>?_) λhb12=>?_
  ·have hlt:i.i<ps.length:=tD<|wi hb12
   have htm:=Qw hlt;obtain⟨ef,ek⟩:=vw hP hlt;have hPm:=Qw (show i.i<P.length by omega);obtain⟨hwl,hwp⟩:=hw _ hPm;refine XA I I<|QK (QD I)<|XA I I<|QK (QD I)<|XA I I<|QK (Q3 (n:=n) i.i (λF h9=>h9.1.1.1) rfl rfl Zg Xh O)<|XA I I<|QK (QH I Yh JM)<|XA I I<|QK (JA (n:=n) ((i.i)*2+1) (λF h9=>h9.1.1.1) O rfl JM (JN (f:=VM) (l:=ps) YR O rfl))<|XA I I<|QK (QH I Yh JM)<|XA I I<|QK (JA (n:=1) ((0)*2+1) (λF h9=>(Qy.of (n:=1) (sz:=2) h9.1.2 I)) O rfl JM I)<|XA I I<|QR I (λ_ _ f k=>vO f (k.1.1.2.1 _ htm) k.1.1.2.2 (by rw[ek];exact hwp) hk (by rw[ek];exact hwl)) λ_=>?_
   rw[ek];refine QK (Qh I I I)<|Q7<|QC ?_
   refine QQ I (λhc=>?_) λhc=>?_
   ·refine wC 8 I<|QA (Q3 (n:=n) i.i (λF h9=>h9.1.1.1.1) rfl rfl Zg Xh O)<|QA (JZ (n:=n) (vs:=[tx (el ps i.i).f,.slice (el ps i.i).r.q (el ps i.i).r.n (el ps i.i).r.cap]) ((i.i)*2) (λF h9=>h9.1.1.1.1) O rfl Xh I λj v hv=>JN (f:=VM) (l:=ps) YR O hv)<|Qb I (Q5 Zg) Xh KV I I λb27=>?_
    refine Z4 (bs1:=[]) (ob:=i.ob) (n:=i.i) (k:=1) (sz:=2) (news:=VM (el ps i.i)) I I Zg Xh KV I kC i.hr (Src.row (off:=0) tO (λj v hv=>by rw[aM];show((VM (el ps i.i)).toArray)[j]?=some v;rw[bh];exact hv) rfl) O O (jc _) (λv28 ob28 hr28=>?_);rw[show(ps.take i.i).flatMap VM++VM (el ps i.i)=(ps.take (i.i+1)).flatMap VM from by rw[XE hlt,aF];simp]at hr28;refine wD 5 I<|QA (Qu I I O)<|wB 2 I<|Qj ?_
    exact Ql (⟨i.i+1,v28,ob28,hlt,hr28,QAJ O i.hb hc⟩) (by show ps.length-(i.i+1)<ps.length-i.i;omega) wv we λF h=>⟨h.1.1.1,trivial⟩
   refine Qx ?_
   repeat first|refine QY ?_|refine QO tH ?_
   refine QZ ?_;exact Za (⟨i,λ_=>hc⟩) wv we λF ⟨⟨⟨⟨hR,hA,hK⟩,hz3⟩,_⟩,_⟩=>⟨⟨⟨hR,hA,hK⟩,hz3⟩,trivial⟩
  have hge:i.i=ps.length:=tD<|wj hb12
  refine Jj I I I<|Jj I I I<|Jj I I I<|Jj I I I<|Jj I I I<|Jj I I I<|Jj I I I<|Jj I I I<|QK (Qd I I I)<|Q7<|QC<|Yj I<|Qx ?_
  repeat first|refine QY ?_|refine QO tH ?_
  refine QZ ?_;exact Za (⟨i,λh=>absurd h O⟩) wv we λF ⟨⟨⟨hR,hA,hK⟩,hz3⟩,_⟩=>⟨⟨⟨hR,hA,hK⟩,hz3⟩,trivial⟩
 intro x;simp only[ae,ab];have hi:=x.le;refine wa<|QA (QH I GM JF)<|QA (JA (n:=1) ((0)*2+0) (λF h9=>(Qy.of (n:=1) (sz:=2) h9.1.2 I)) O rfl JF I)<|wD 3 I ?_
 refine ZZ [(0,_),(3,_),(5,_)] [(6,.int .i64 (((Ch P x.i k):Nat):Int)),(7,tx (JP (uT P x.i (y,k))))] wu ?_ ?_
 ·refine QG<|JG we mixed tE<|QK (QD I)<|QK (QD I)<|QK (Qg I Zg)<|QK (QT I I I)<|QK (QD I) ?_
  refine Gg (t:=37) rfl (λhb37=>?_) λhb37=>?_
  ·have hlt:x.i<ps.length:=tD<|wi hb37
   have htm:=Qw hlt;obtain⟨ef,ek⟩:=vw hP hlt;have hPm:=Qw (show x.i<P.length by omega);obtain⟨hwl,hwp⟩:=hw _ hPm;refine XA I I<|QK (QD I)<|XA I I<|QK (QD I)<|XA I I<|QK (Q3 (n:=n) (x.i) (λF h9=>h9.1.1.1) rfl rfl Zg Xh O)<|XA I I<|QK (QH I Yh JM)<|XA I I<|QK (JA (n:=n) ((x.i)*2+1) (λF h9=>h9.1.1.1) O rfl JM (JN (f:=VM) (l:=ps) YR O rfl))<|XA I I<|QK (QH I Yh JM)<|XA I I<|QK (JA (n:=1) ((0)*2+1) (λF h9=>(Qy.of (n:=1) (sz:=2) h9.1.2 I)) O rfl JM I)<|XA I I<|QR I (λ_ _ f k=>uo f (k.1.1.2.1 _ htm) k.1.1.2.2 (by rw[ek];have:=hwp.2;omega)) λ_=>?_
   rw[ek];refine QK (Qh I I I)<|Q7<|QC ?_
   refine QQ I (λhc=>?_) λhc=>?_
   ·refine QG<|JG we mixed tE<|QK (QD I)<|QK (QD I)<|QK (Q3 (n:=n) (x.i) (λF h9=>h9.1.1.1.1) rfl rfl Zg Xh O)<|QK (QH I GM JF)<|QK (JA (n:=n) ((x.i)*2+0) (λF h9=>h9.1.1.1.1) O rfl JF (JN (f:=VM) (l:=ps) YR O rfl))<|QK (QH I GM JF)<|QK (JA (n:=1) ((0)*2+0) (λF h9=>(Qy.of (n:=1) (sz:=2) h9.1.1.2 I)) O rfl JF I) ?_
    rw[ef];refine QR I (λ_ _ f k=>xW f (hz _ hPm) hy) (λ_=>QK (QF I)<|Q7<|wE 3 I<|QA (Qu I I O)<|wB 2 I ?_);have hs:R9 P x.i k=true:=by unfold R9;rw[hc,decide_eq_true (show x.i<P.length by omega)];rfl
    exact JY ⟨rfl,rfl,rfl,(congrArg (λz:Int=>some (ak .i64 z)) (by unfold Ch;rw[if_pos hs];omega)),(congrArg (λr:Rat=>some (tx (JP r))) (by unfold uT;rw[if_pos hs])),trivial⟩ we λ_ h=>h.1.1
   refine QN ?_;have hs:¬R9 P x.i k=true:=by unfold R9;rw[hc,bI];decide
   exact JY ⟨rfl,rfl,rfl,(congrArg (λz:Nat=>some (ak .i64 (z:Int))) (by unfold Ch;rw[if_neg hs])),(congrArg (λr:Rat=>some (tx (JP r))) (by unfold uT;rw[if_neg hs])),trivial⟩ we tN
  have hge:x.i=ps.length:=tD<|wj hb37
  refine Jj I I I<|Jj I I I<|Jj I I I<|Jj I I I<|Jj I I I<|Jj I I I<|Jj I I I<|Jj I I I<|QK (Qd I I I)<|Q7<|QC<|Yj I<|QN ?_
  have hs:¬R9 P x.i k=true:=by unfold R9;rw[decide_eq_false (show ¬x.i<P.length by omega),Bool.false_and];decide
  exact JY ⟨rfl,rfl,rfl,(congrArg (λz:Nat=>some (ak .i64 (z:Int))) (by unfold Ch;rw[if_neg hs])),(congrArg (λr:Rat=>some (tx (JP r))) (by unfold uT;rw[if_neg hs])),trivial⟩ we tM
 simp only[ae,ab];have hJ:x.i<=(Ch P x.i k)/\(Ch P x.i k)<=n:=by
  unfold Ch;split
  ·rename_i hs;unfold R9 at hs;rw[aq,decide_eq_true_eq]at hs;omega
  omega
 have hpl:=cC (y,k) (P:=P) (i:=x.i) O x.hb x.stop;have hat:ZX (ps.take x.i)=Vg (P.take x.i):=by rw[QFh,hP,QAs]
 have hdr:ZX (ps.drop (Ch P x.i k))=Vg (P.drop (Ch P x.i k)):=by rw[QFi,hP,QAt]
 have htl:(ps.take x.i).length=x.i:=by rw[aG];omega
 refine wA 4 I<|QI I (λ_ _ f k=>QCm f) λ_=>QA (XL I)<|QE<|QC ?_
 refine QQ I (λhc=>?_) λhc=>?_
 ·have hs0:(uT P x.i (y,k))≠0:=by rw[uV]at hc;simpa using hc
  refine wA 3 I<|Gf (Q5 Q2) JK λb62=>QA (QH I Yh JM)<|QA (JA (n:=1) ((0)*2+1) (λF h9=>(Qy.of (n:=1) (sz:=2) h9.1.1.2 I)) O rfl JM I)<|ZL (bs':=x.ob++[(b62,.cells ([]++[]:List Value).toArray 3 (0,0))]) (bc (l₁:=[_]))<|Z4 (ob:=[(b62,.cells ([]++[]:List Value).toArray 3 (0,0))]) (n:=0) (k:=r.n) (sz:=1) (news:=k.map Jo) rfl rfl Q2 JK R4 I F6 (.some rfl rfl (ah _) tF) (Src.gR hk0 (λF h9=>h9.1.1.1.2.2.1) (by simp[hkl])) O O (CI k) λv65 ob65 hr65=>?_
  rw[aM,ab]at hr65;obtain⟨r65,hv65,hn65,hc65,hfix65⟩:=Q8.fix (w0:=w) (F0:=F) (bs1:=x.ob) (G:=_) hr65;refine Zj hfix65 ?_;rw[hv65];dsimp only[Sr.v];refine QA (Q4 I BC KV (wV I I I))<|Qb I (Q5 Zg) Xh KV I I λb67=>?_
  refine Z4 (bs1:=[]) (ob:=x.ob) (n:=x.i) (k:=1) (sz:=2) (news:=VM (⟨JP (uT P x.i (y,k)),r65,k⟩:V0)) I I Zg Xh KV I kC x.hr (Src.row (off:=0) tO (λj v hv=>by rw[aM];show((VM (⟨JP (uT P x.i (y,k)),r65,k⟩:V0)).toArray)[j]?=some v;rw[bh];exact hv) rfl) O O (jc _) (λv68 ob68 hr68=>?_);refine wD 8 I<|QA (cA (Ch P x.i k) rfl rfl rfl Zg Xh hJ.2 hcap)<|Z4 (bs1:=[]) (ob:=ob68) (n:=(x.i+1)) (k:=n-(Ch P x.i k)) (sz:=2) (news:=(ps.drop (Ch P x.i k)).flatMap VM) rfl rfl Zg Xh KV I kC hr68 (Src.gR (λe=>tD<|hRJ0 (uf e)) (λF h9=>by have:=h9.1.1.1.1.1.1.drop hcap (Ch P x.i k);rwa [vc]at this) (by rw[QAK,aQ,hn])) O O QDG λv73 ob73 hr73=>?_
  obtain⟨rr,hv73,hrn,hrc,hfix⟩:=Q8.fix (w0:=w) (F0:=F) (bs1:=[]) (G:=_) hr73;refine Zj hfix ?_;rw[hv73];refine wD 4 I ?_;exact QP ((rr,(ps.take x.i++[(⟨JP (uT P x.i (y,k)),r65,k⟩:V0)]++ps.drop (Ch P x.i k)))) I (wT I) (rfl) (λF ⟨⟨⟨⟨⟨⟨⟨hR,hA,hK⟩,hz3⟩,_⟩,_⟩,hrow65⟩,hs67⟩,hrow⟩=>⟨by rw[hrn];rw[show(ps.take x.i).flatMap VM++VM (⟨JP (uT P x.i (y,k)),r65,k⟩:V0)++(ps.drop (Ch P x.i k)).flatMap VM=(ps.take x.i++[(⟨JP (uT P x.i (y,k)),r65,k⟩:V0)]++ps.drop (Ch P x.i k)).flatMap VM from by rw[aF,aF];simp]at hrow;exact hrow,
 λt ht=>by
  rcases List.mem_append.1 ht with ht | ht
  ·rcases List.mem_append.1 ht with ht | ht
   ·exact hA t (aR ht)
   rw[List.mem_singleton.1 ht];exact⟨by rw[hn65];exact hrow65,by rw[hn65];exact hkl,by rw[hn65];exact hc65⟩
  exact hA t (bp ht),
 by rw[hpl,if_neg hs0,jb,jb,IW,IW,hat,hdr];rfl,by rw[hrn];exact hrc,by rw[hrn,aj,aj,htl,aQ,hn];rfl⟩)
 ·have hs0:(uT P x.i (y,k))=0:=by rw[uV]at hc;simpa using hc
  refine wC 7 I<|QA (cA (Ch P x.i k) rfl rfl rfl Zg Xh hJ.2 hcap)<|Z4 (bs1:=[]) (ob:=x.ob) (n:=x.i) (k:=n-(Ch P x.i k)) (sz:=2) (news:=(ps.drop (Ch P x.i k)).flatMap VM) rfl rfl Zg Xh KV I kC x.hr (Src.gR (λe=>tD<|hRJ0 (uf e)) (λF h9=>by have:=h9.1.1.1.1.drop hcap (Ch P x.i k);rwa [vc]at this) (by rw[QAK,aQ,hn])) O O QDG λv73 ob73 hr73=>?_
  obtain⟨rr,hv73,hrn,hrc,hfix⟩:=Q8.fix (w0:=w) (F0:=F) (bs1:=[]) (G:=_) hr73;refine Zj hfix ?_;rw[hv73];refine wD 4 I ?_;exact QP ((rr,(ps.take x.i++ps.drop (Ch P x.i k)))) I (wT I) (rfl) (λF ⟨⟨⟨⟨⟨hR,hA,hK⟩,hz3⟩,_⟩,_⟩,hrow⟩=>⟨by rw[hrn];rw[<-aF]at hrow;exact hrow,
 λt ht=>by
  rcases List.mem_append.1 ht with ht | ht
  ·exact hA t (aR ht)
  exact hA t (bp ht),
 by rw[hpl,if_pos hs0,jb,av,IW,hat,hdr],by rw[hrn];exact hrc,by rw[hrn,aj,htl,aQ,hn]⟩)
section
variable[Dr][df:Df]{P:Program}{Q:Exit->Act->World->Prop}{N:Nat}{m:Sl}{ops:Array Oper}{l:List Oper}{w0:World}{F0:Gs}{bs:List (Nat×Obj)}{G:Gs->Prop}{ty:TypeId}
theorem Xnp{t u e a:TypeId}{x y:Value}(hx:∃b n c,x = .slice b n c)(ht:Gp P t=some e)(hu:Gp P u=some a):(bG #[t,u] ty #[x,y]).run P w=(bG #[t,t] ty #[x,y]).run P w:=by
 obtain⟨b,n,c,rfl⟩:=hx;simp[bG,run_underlying (Q5 ht),run_underlying (Q5 hu)]
theorem Xnr{d:Nat}{pos:String}{aft:Array Edge}{t u e F:TypeId}{sz bytes:Nat}{z:List Value}{g:Bool}{X Y:Operand}{x y:Value}{olds news:List Value}{ob:List (Nat×Obj)}(hx:ev m X=some x)(hy:ev m Y=some y)(ht:Gp P t=some e)(i:Gp P u=some F)(D:Z5 P e=some (g,sz))(hz:XI P e=some z)(f:z.length=sz)(o:ZK P e=some bytes)
  (hr:Q8 e sz x n olds ob) (j:Src ⟨w0,F0,ob++bs,G⟩ sz y k news) (s:n+k<=9223372036854775807) (A:(n+k)*bytes<=140737488355328) (h1:∀v∈news,v.oneCell'=true)
  (B:∀v' ob',Q8 e sz v' (n+k) (olds++news) ob'->JS P ops Q l N ((d,v')::m) ⟨w0,F0,ob'++bs,G⟩) (hu:Hi e=true:=by rfl) (hd:J5 N (some d)=true:=by rfl) :
  JS P ops Q (⟨some d,.call ⟨.builtin .append,#[X,Y],#[t,u]⟩,ty,pos,aft,none⟩::l) N m ⟨w0,F0,ob++bs,G⟩:=λa w ha C =>
 wpList_plain rfl λK E=>by
  have h:∃b n c,x = .slice b n c:=by
   cases hr
   ·exact⟨_,_,_,rfl⟩
   exact⟨_,_,_,rfl⟩
  obtain⟨v',ob',w',h2,h3,h4⟩:=DE (ty:=ty) ht D hz f o hr j C s A h1 hu;refine upon_value (w':=w') (v:=v') ?_ (E _ _ (B v' ob' h3 _ w' (ha.put hd v') h4));rw[YH];simp[builtin,ha.ev hx,ha.ev hy,Xnp h ht i,h2]
end
def QED.QJD{s:Sr}{ts:List V0}{L:List Tm}(h:QED F s ts (Vg L)):s.n=L.length:=by
 rw[<-h.2.2.2.2];exact OO h.2.2.1
def QBa{L:List Tm}(h:i<L.length):XO (L.take (i+1))=Z0 (XO (L.take i)) (el L i):=by
 rw[XE h];unfold XO;rw[aL];rfl
structure NoJ(n:Nat) where
 i:Nat
 c:NQ
 le:i<=n
structure OtJ(g:List Tm->List Tm)(L:List Tm) where
 i:Nat
 v:Value
 ob:List (Nat×Obj)
 out:List V0
 le:i<=L.length
 hr:Q8 108 2 v out.length (out.flatMap VM) ob
 ho:ZX out=Vg (g (L.take i))
 hl:out.length<=i
def vd{v:Nat}{L:List Tm}(h:i<L.length):ZT v (L.take (i+1))=ZT v (L.take i)++TU v (el L i):=by
 rw[XE h];unfold ZT;rw[aF];simp
def QDy(o:List V0)(t:V0):o.flatMap VM++VM t=(o++[t]).flatMap VM:=by rw[aF];simp
def Yy.snoc{o:List V0}{t:V0}(h:Yy F o)(k:J8 F t.r t.k):Yy F (o++[t]):=λx hx=>by
 rcases List.mem_append.1 hx with hx | hx
 ·exact h x hx
 rw[List.mem_singleton.1 hx];exact k
def QAw{l:List Tm}{t:Tm}(h:t∈l):JW t.1+1<=Yr l:=by
 unfold Yr
 induction l with
 |nil=>cases h
 |cons x l ih =>
  rw[eD,eB];rcases List.mem_cons.1 h with rfl | h
  ·omega
  have:=ih h;omega
theorem QDS{q:Option Addr}{ts:List V0}{L:List Tm}(A:Fits F w)(H:Qy F q n 2 (ts.flatMap VM))(B:Yy F ts)(hn:ts.length=n)(E:ZX ts=Vg L)(D:∀t∈L,t.2.length=N/\PW t.2)(hz:Yr L<=90000)(S:n<=100000):
  QU prog 230 [.slice q n cap] w F (λ(c:NQ)=>c.1.v) (λc F=>QED F c.1 c.2 (Vg (XO L))):=by
 have P:=OO E;refine QU.intro (G:=λF=>Qy F q n 2 (ts.flatMap VM)/\Yy F ts) func230 rfl tH rfl rfl A (λF' g=>⟨H.le g,B.le g⟩)<|wa<|wZ rfl<|wa<|wZ rfl<|QG<|wa<|wZ rfl<|QV<|JU (ι:=NoJ n) [(0,_)] (λi=>[(3,i.c.1.v),(4,.int .i64 ((i.i:Nat):Int))]) (λi=>[]) (λi F=>QED F i.c.1 i.c.2 (Vg (XO (L.take i.i)))) (λi=>n-i.i) (⟨0,(⟨none,0,0⟩,[]),aE _⟩) wk wm we (λF _=>⟨Qy.nil F none 2,λ_ h=>(by cases h),rfl,ah _,rfl⟩) λi=>?_
 simp only[ae,ab];have hi:=i.le;refine wA 5 I<|QA (Qg I QCk)<|wD 3 I ?_
 refine QQ I (λhc=>?_) λhc=>?_
 ·have x:i.i<n:=tD<|wi hc
  have s:=Qw (show i.i<ts.length by omega);obtain⟨R,Q⟩:=vw E (show i.i<ts.length by omega);have b:=Qw (show i.i<L.length by omega);obtain⟨o,m⟩:=D _ b;have M:=OW L i.i;have u:=QDi (L.take i.i);rw[aG]at u;refine wC 8 I<|QA (Q3 (n:=n) i.i (λF h9=>h9.1.1) rfl rfl QCk Xh O)<|QA (JZ (n:=n) (vs:=[tx (el ts i.i).f,.slice (el ts i.i).r.q (el ts i.i).r.n (el ts i.i).r.cap]) ((i.i)*2) (λF h9=>h9.1.1) O rfl Xh I λj v K=>JN (f:=VM) (l:=ts) YR O K) ?_
  rw[R];refine QI I (λw F A ⟨⟨H,B⟩,a⟩=>QEj (k:=(el L i.i).2) A a.1 a.2.1 a.2.2.2.2 a.2.2.2.1 (by rw[<-Q];exact B _ s) a.2.2.1 (λt ht=>af (QDO ht) O) (tD<|QAw b)
   (λt ht=>by obtain⟨y,hy,e⟩:=QDe ht;rw[<-e,o];exact D y (aR hy)) m (by rw[a.QJD];omega)) λC=>?_
  refine wB 2 I<|Qj<|wE 3 I<|QA (Qu I I O)<|wB 2 I ?_
  exact Ql (⟨i.i+1,C,x⟩) (by show n-(i.i+1)<n-i.i;omega) wu we λF h=>⟨h.1.1,by rw[QBa O];exact h.2⟩
 have z:i.i=n:=tD<|wj hc
 refine Qx ?_
 repeat first|refine QY ?_|refine QO tH ?_
 refine QZ<|wE 8 I ?_
 exact QP (i.c) rfl (wT I) (rfl) λF h9=>by have h:=h9.2;rwa [z,show L.take n=L from ay O]at h
theorem Xod{q s:Option Addr}{i o:Nat}{b:List V0}{A B:List Tm}(D:Fits F w)(M:Qy F q n 2 (ps.flatMap VM))(h:Yy F ps)(U:ps.length=n)(C:ZX ps=Vg A)(H:Qy F s i 2 (b.flatMap VM))(g:Yy F b)(T:b.length=i)(z:ZX b=Vg B)
  (Q:∀t∈A++B,t.2.length=N/\PW t.2) (hz:Yr (A++B)<=90000) (Y:n<=10000/\i<=10000) :
  QU prog 237 [.slice q n cap,.slice s i o] w F (λ(c:NQ)=>c.1.v) (λc F=>QED F c.1 c.2 (Vg (XO (A++B)))):=by
 have K:=M.cM;have E:=H.cM;refine QU.intro (G:=λF=>Qy F q n 2 (ps.flatMap VM)/\Yy F ps/\Qy F s i 2 (b.flatMap VM)/\Yy F b) func237 rfl tH rfl rfl D (λF' a=>⟨M.le a,h.le a,H.le a,g.le a⟩)<|wa<|wZ rfl<|wa<|Gf (Q5 QCk) Xh λV=>wW rfl<|Xnr (ob:=[(V,.cells ([]++[]:List Value).toArray 108 (0,0))]) (n:=0) (k:=n) (sz:=2) (news:=ps.flatMap VM) rfl rfl QCk Zg Xh KV rfl kC (.some rfl rfl (ah _) tF) (Src.gR K tN (by rw[QAK];omega)) O O QDG λX x l=>?_
 rw[aM,ab]at l;refine wW I<|Xnr (ob:=x) (n:=n) (k:=i) (sz:=2) (news:=b.flatMap VM) rfl rfl QCk Zg Xh KV I kC l (Src.gR E (λF h9=>h9.2.2.1) (by rw[QAK];omega)) O O QDG λv9 u y=>?_
 rw[av,<-av u];obtain⟨r,R,j,S,m⟩:=Q8.fix (w0:=w) (F0:=F) (bs1:=[]) (G:=_) y;rw[av];refine Zj m ?_;rw[R];refine QI I (λw F D ⟨⟨M,h,H,g⟩,f⟩=>QDS (N:=N) (ts:=ps++b) (L:=A++B) D (by rw[<-aF]at f;rw[j];exact f) (λt ht=>by
  rcases List.mem_append.1 ht with ht | ht
  ·exact h t ht
  exact g t ht) (by rw[aj,j];omega) (by rw[jb,IW,C,z]) Q hz O) λP=>?_
 refine wD 4 I ?_;exact QP (P) rfl (wT I) (rfl) tO
theorem ki{q:Option Addr}{v:Nat}{L:List Tm}(hF:Fits F w)(hR:Qy F q n 2 (ps.flatMap VM))(Q:Yy F ps)(hn:ps.length=n)(hT:ZX ps=Vg L)(hv:v<N)(Z:∀t∈L,t.2.length=N/\PW t.2)(hsz:∀t∈L,JW t.1<=90000)(hw:∀t∈ZT v L,t.2.length=N/\PW t.2)(hz:Yr (ZT v L)<=90000)(hl:n<=10000):
  QU prog 138 [.slice q n cap,.int .i64 (v:Nat)] w F (λ(c:NQ)=>c.1.v) (λc F=>QED F c.1 c.2 (Vg (XO (ZT v L)))):=by
 have hLl:=OO hT;refine QU.intro (G:=λF=>Qy F q n 2 (ps.flatMap VM)/\Yy F ps) func138 rfl tH rfl rfl hF (λF' P=>⟨hR.le P,Q.le P⟩)<|wa<|wZ rfl<|wa<|wZ rfl<|QG<|wa<|wZ rfl<|QV<|JU (ι:=OtJ (ZT v) L) [(0,_),(1,_)] (λi=>[(5,i.v),(6,.int .i64 ((i.i:Nat):Int))]) (λi=>i.ob) (λi F=>Yy F i.out) (λi=>L.length-i.i) (⟨0,_,[],[],aE _,.nil,rfl,ah _⟩) wm wm we (λ_ _ _ h=>by cases h) λi=>?_
 simp only[ae,ab];have hi:=i.le;refine wA 5 I<|QA (Qg I Zg)<|wD 3 I ?_
 refine QQ I (λhc=>?_) λhc=>?_
 ·have m:i.i<L.length:=tD<|wi hc
  have E:i.i<ps.length:=O;have g:=Qw E;obtain⟨ef,R⟩:=vw hT E;have M:=Qw m;have hil:=i.hl;obtain⟨Y,C⟩:=Z _ M;have H:=(Q _ g).2.1;have hkl:(el ps i.i).k.length=N:=by rw[R];exact Y
  have hvn:v<(el ps i.i).r.n:=O;have hk1:=C.2;have hdb:0<=Qm (el ps i.i).k v/\Qm (el ps i.i).k v<=1000000:=by rw[R];exact C.el O
  have hk0:=(Q _ g).1.cM;refine wC 8 I<|QA (Q3 (n:=n) i.i (λF h9=>h9.1.1) rfl rfl Zg Xh O)<|QA (QH I Yh JM)<|QA (JA (n:=n) ((i.i)*2+1) (λF h9=>h9.1.1) O rfl JM (JN (f:=VM) (l:=ps) YR O rfl))<|wW I<|QA (Q3 (n:=(el ps i.i).r.n) (v) (λF h9=>((h9.1.2 _ g)).1) rfl rfl Q2 JK O)<|QA (JA (n:=(el ps i.i).r.n) ((v)*1) (λF h9=>((h9.1.2 _ g)).1) O rfl JK (Jz (o:=(el ps i.i).k) O))<|wD 9 I ?_
  refine QQ I (λhc=>?_) λhc=>?_
  ·have z:=wi hc;refine wa<|Gf (Q5 Q2) JK λU=>wB 2 I<|QA (Q3 (n:=n) i.i (λF h9=>h9.1.1) rfl rfl Zg Xh O)<|QA (QH I Yh JM)<|QA (JA (n:=n) ((i.i)*2+1) (λF h9=>h9.1.1) O rfl JM (JN (f:=VM) (l:=ps) YR O rfl))<|ZL (bs':=i.ob++[(U,.cells ([]++[]:List Value).toArray 3 (0,0))]) (bc (l₁:=[_]))<|Z4 (ob:=[(U,.cells ([]++[]:List Value).toArray 3 (0,0))]) (n:=0) (k:=(el ps i.i).r.n) (sz:=1) (news:=(el ps i.i).k.map Jo) rfl rfl Q2 JK R4 I F6 (.some rfl rfl (ah _) tF) (Src.gR hk0 (λF h9=>(h9.1.2 _ g).1) (by simp[H])) O O (CI _) λv31 ob31 x=>?_
   rw[aM,ab]at x;obtain⟨bb,S,rest,rfl,rfl,e1,e2,e3,e4⟩:=Q8.pos x O;refine wD 8 I<|QA (X3 I I O)<|QA (JL (i:=v) rfl rfl Q2 JK O)<|QW (vs:=[_]) I I I JK I (Own.skip .here i.ob) (BB (by first | omega | (simp only[aU];omega)) ((Qm (el ps i.i).k (v)-1))) wk<|QE<|QC ?_
   obtain⟨X,hv9,a,D,A⟩:=Q8.fix (w0:=w) (F0:=F) (bs1:=i.ob) (G:=_) (Q8.some (T:=3) (sz:=1) (b:=bb) (n:=(el ps i.i).r.n) (cap:=S) (l:=((el ps i.i).k.set v (Qm (el ps i.i).k v-1)).map Jo) (rest:=rest) (by simpa using e1) (by simpa using e2) e3 e4);refine jH A ?_;rw[hv9];dsimp only[Sr.v];refine JG tQ mixed tE<|QK (QD I)<|QK (QD I)<|QK (QD I)<|QK (Q3 (n:=n) i.i (λF h9=>h9.1.1.1) rfl rfl Zg Xh O)<|QK (QH I GM JF)<|QK (JA (n:=n) ((i.i)*2+0) (λF h9=>h9.1.1.1) O rfl JF (JN (f:=VM) (l:=ps) YR O rfl))<|QK (QD I)<|QR I (λ_ _ f k=>QA8 f ⟨O,O⟩) λ_=>?_
   rw[ef];refine QR I (λ_ _ f h=>C3 f (af (hsz _ M) tF) (by have h2:=GK (Qm (el ps i.i).k v);have h3:=IY hdb;omega)) (λ_=>QK (QD I)<|QK (Q4 I BC KV (wV I I I)) ?_);refine Qo I (Q5 QCk) Xh KV I I (λb48=>?_) (λw h=>h.imp tQ λF h=>h.1.1);rw[<-av i.ob];refine Yz (ob:=i.ob) (n:=i.out.length) (k:=1) (sz:=2) (news:=VM (⟨JP ((el L i.i).1*((Qm (el ps i.i).k v:Int):Rat)),X,((el ps i.i).k.set v (Qm (el ps i.i).k v-1))⟩:V0)) I I QCk Xh KV I kC i.hr (Src.row (off:=0) tO (λj u hu=>by rw[aM];show((VM (⟨JP ((el L i.i).1*((Qm (el ps i.i).k v:Int):Rat)),X,((el ps i.i).k.set v (Qm (el ps i.i).k v-1))⟩:V0)).toArray)[j]?=some u;rw[bh];exact hu) rfl) O O (jc _) we (λ_ h=>h.1.1.1) (λV B s=>?_);rw[QDy]at s;refine QK (QF I)<|Q7<|Qj<|wE 3 I<|QA (Qu I I O)<|wB 2 I ?_
   exact Ql (⟨i.i+1,V,B,i.out++[(⟨JP ((el L i.i).1*((Qm (el ps i.i).k v:Int):Rat)),X,((el ps i.i).k.set v (Qm (el ps i.i).k v-1))⟩:V0)],m,by rw[aj];exact s,by rw[jb,i.ho,vd m,IW,show TU v (el L i.i)=[((el L i.i).1*((Qm (el L i.i).2 v:Int):Rat),(el L i.i).2.set v (Qm (el L i.i).2 v-1))]from if_pos (by rw[<-R];exact z)];show _++[(JP ((el L i.i).1*((Qm (el ps i.i).k v:Int):Rat)),((el ps i.i).k.set v (Qm (el ps i.i).k v-1)))]=_;rw[R];rfl,by rw[aj];simp;omega⟩) (by show L.length-(i.i+1)<L.length-i.i;omega) wv (by rw[av];exact aK _) λF ⟨⟨⟨⟨⟨⟨hR,Q⟩,hO⟩,y⟩,_⟩,_⟩,hs48⟩=>⟨⟨hR,Q⟩,hO.snoc ⟨by rw[a];exact y,by rw[a,aU];exact H,by rw[a];exact D⟩⟩
  have z:=wj hc;refine QN<|Qj<|wE 3 I<|QA (Qu I I O)<|wB 2 I ?_
  exact Ql (⟨i.i+1,i.v,i.ob,i.out,m,i.hr,by rw[i.ho,vd m,show TU v (el L i.i)=[]from if_neg (by rw[<-R];exact z),av],O⟩) (by show L.length-(i.i+1)<L.length-i.i;omega) wv we tM
 have hge:i.i=L.length:=tD<|wj hc
 have hil:=i.hl;refine Qx ?_
 repeat first|refine QY ?_|refine QO tH ?_
 refine QZ<|wE 3 I ?_
 obtain⟨r,hv,a,D,K⟩:=Q8.fix (w0:=w) (F0:=F) (bs1:=[]) (G:=_) i.hr;refine Zj K ?_;rw[hv];refine wW I<|QI I (λ_ _ f k=>QDS (N:=N) (ts:=i.out) (L:=ZT v L) f (by rw[a];exact k.2) k.1.2 a.symm (by have h:=i.ho;rwa [hge,aZ]at h) hw hz O) λc51=>wD 4 I ?_
 exact QP (c51) rfl (wT I) (rfl) tO
def Xh1(a:Xdo tb=true)(c:QHw n tb):∀b∈tb,Ts b.wl=true/\Ts b.ll=true/\b.e.length<=14:=λb hb=>by
 unfold Xdo at a;rw[aq,ax]at a;have h1:stN tb.length=false:=by simpa using a.1
 unfold stN at h1;simp only[ai,aP,decide_eq_false_iff_not]at h1;have f:=c.len;rw[ay O]at a;have h:=a.2 b hb;simp only[stX,aB,ai,aD]at h;obtain⟨⟨h1,h2⟩,h3⟩:=h;exact⟨h2,h3,by unfold cT at h1;simp at h1;omega⟩
theorem QGg{v:Int}(c:vG y)(hr:y.rl.length=y.rt.n)(a:vF y)(b:shS y=true)(h:pT y v 3 6=true):SmY y y.rl.length/\(y.rl.length:Int)<=v:=by
 have h1:=QGF h hr;refine⟨⟨h1.1,rfl,λe he=>⟨(c.rl e he).1,?_,λt ht=>?_⟩⟩,h1.2⟩
 ·unfold shS at b;simp only[aq,ax]at b;have h2:=b.2.1 e he;unfold shP at h2;simp only[aq,aB,decide_eq_false_iff_not]at h2;omega
 have h2:=a.pl e he;exact(Wv (h2.term (t.f,t.k) (aC (f:=λt:V0=>(t.f,t.k)) ht))).2.2.2
theorem QHK(h:∀s∈l,s.1.length<=40/\s.2.length<=40)(hc:∀s∈l,Xd s.1 s.2=0)(hm:l.length=m):ShB m (lV l):=by
 refine⟨by rw[Yg];exact hm,λa ha=>?_,λi hi=>?_⟩
 ·obtain⟨s,b,rfl⟩:=List.mem_map.1 ha;have h1:=Ku (hc s b);have h2:=h s b;exact⟨OU (k:=40) h1.1 tF h2.1,OU (k:=40) h1.2.1 tF h2.2⟩
 obtain⟨s,b,e⟩:=List.mem_map.1 (Qw hi);have c:JB s=el (lV l) i:=e;rw[<-c];have h1:=(Ku (hc s b)).2.2;have h2:=K3 (Qz s.1) (Qz s.2);show Qz s.1<=Qz s.2;exact Rat.not_lt.1 λk=>h1 (h2.2 k)
def QGG(h:Ts l=true)(hb:YZ m l=0):ShB m (lV l):=QHK (AY h).2 (XZ hb).2 (XZ hb).1
theorem Xfk(b:shS y=true)(a:vF y)(hm:y.sl.length=m):ShB m y.vs:=QHK (QIJ b).s a.st hm
def Cl.cQ{x y:Rat}(hx:Cl D 1 b x)(hy:Cl E 1 c y):Cl (D*E) 1 (b+c) (x*y):=by
 obtain⟨z,rfl,h1⟩:=hx;obtain⟨u,rfl,h2⟩:=hy;rw[aJ]at h1 h2;refine⟨z*u,?_,?_⟩
 ·rw[Rat.divInt_mul_divInt,aJ,aJ,aJ,bj]
 rw[eE,aJ,Nat.pow_add]
 calc z.natAbs*u.natAbs<=(2^b*D)*(2^c*E):=aN h1 h2
  _=2^b*2^c*(D*E):=by ac_rfl
theorem Cl.dvd{x:Rat}(h:Cl D 1 b x)(h0:0<E)(hd:D ∣ E)(hb:b<=c):Cl E 1 c x:=by
 obtain⟨k,rfl⟩:=hd;obtain⟨z,rfl,h1⟩:=h;have hk:(k:Int)≠0:=by rintro hk;simp only[Int.natCast_eq_zero]at hk;subst hk;simp at h0
 refine⟨z*k,?_,?_⟩
 ·rw[aJ,aJ,bj,Rat.divInt_mul_right hk]
 rw[aJ]at h1 ⊢;rw[eE,bA,<-Nat.mul_assoc];exact aN (af h1 (aT _ (bQ tF hb))) (ah _)
theorem vT{F:Nat}{Pw:List Int->Prop}(h0:0<F):∀ {p:List Tm} {t:Tm},(∀u∈p,Cl F 1 b u.1/\Pw u.2)->(Cl F 1 b t.1/\Pw t.2)->∀u∈Z0 p t,Cl F 1 (b+1) u.1/\Pw u.2
 |[],t,_,ht=>λu hu=>by
  unfold Z0 at hu;split at hu
  ·cases hu
  rw[List.mem_singleton.1 hu];exact⟨ht.1.mono h0 (ah _) O,ht.2⟩
 |x::p,t,hp,ht=>λu hu=>by
  have f:∀a:Tm,(Cl F 1 b a.1/\Pw a.2)->Cl F 1 (b+1) a.1/\Pw a.2:=λa ha=>⟨ha.1.mono h0 (ah _) O,ha.2⟩;have hx:=hp x tJ;have c:∀u∈p,Cl F 1 b u.1/\Pw u.2:=λu hu=>hp u (by simp[hu]);unfold Z0 at hu;split at hu
  ·rcases List.mem_cons.1 hu with rfl | hu
   ·exact f _ hx
   exact vT h0 c ht u hu
  split at hu
  ·split at hu
   ·exact f _ (c u hu)
   rcases List.mem_cons.1 hu with rfl | hu
   ·exact⟨Cl.add h0 hx.1 ht.1,ht.2⟩
   exact f _ (c u hu)
  split at hu
  ·exact f _ (hp u hu)
  rcases List.mem_cons.1 hu with rfl | hu
  ·exact f _ ht
  exact f _ (hp u hu)
theorem QDc{F:Nat}{Pw:List Int->Prop}(h0:0<F){l:List Tm}(h:∀u∈l,Cl F 1 b u.1/\Pw u.2):∀u∈XO l,Cl F 1 (b+l.length) u.1/\Pw u.2:=by
 have a:∀(l p:List Tm) (c:Nat),b<=c->(∀u∈l,Cl F 1 b u.1/\Pw u.2)->(∀u∈p,Cl F 1 c u.1/\Pw u.2)->∀u∈l.foldl Z0 p,Cl F 1 (c+l.length) u.1/\Pw u.2:=by
  intro l
  induction l with
  |nil=>intro p c _ _ hp;exact hp
  |cons t l ih =>
   intro p c hc f hp u hu;have ht:=f t tJ;have h1:=ih (Z0 p t) (c+1) O (λu hu=>f u (by simp[hu])) (vT h0 hp ⟨ht.1.mono h0 (ah _) hc,ht.2⟩) u hu;rw[ao];exact⟨h1.1.mono h0 (ah _) O,h1.2⟩
 exact a l [] b (ah _) h λu hu=>by cases hu
def QDb(l:List Tm):(XO l).length<=l.length:=by
 have a:∀(l p:List Tm),(l.foldl Z0 p).length<=p.length+l.length:=by
  intro l
  induction l with
  |nil=>intro p;exact ah _
  |cons t l ih =>
   intro p;have h1:=ih (Z0 p t);have h2:=qL p t;rw[ao];show(l.foldl Z0 (Z0 p t)).length<=_;omega
 exact af (a l []) tJ
def QAE(v:Nat):∀l:List Tm,(ZT v l).length<=l.length
 |[]=>ah _
 |t::l=>by
  show(TU v t++ZT v l).length<=_;have h1:=QAE v l;have h2:(TU v t).length<=1:=by unfold TU;split<;>simp
  rw[aj,ao];omega
def QFS{v:Nat}{l:List Tm}{u:Tm}(h:u∈ZT v l):∃t∈l,0<Qm t.2 v/\u=(t.1*((Qm t.2 v:Int):Rat),t.2.set v (Qm t.2 v-1)):=by
 obtain⟨t,ht,hu⟩:=List.mem_flatMap.1 h;unfold TU at hu;split at hu
 ·rename_i hg;exact⟨t,ht,hg,List.mem_singleton.1 hu⟩
 cases hu
structure MlO(n:Nat) where
 i:Nat
 c:NQ
 le:i<=n
def Xnq{s:Tm}{B:List Tm}(h:k<B.length):K6 s (B.take (k+1))=K6 s (B.take k)++[(s.1*(el B k).1,Wm s.2 (el B k).2)]:=by
 rw[XE h];unfold K6;rw[ep];rfl
def Q8.Zw{T:TypeId}{sz:Nat}{v:Value}{ob:List (Nat×Obj)}(h:Q8 T sz v n cs ob):∃q c,v = .slice q n c:=by
 cases h<;>exact⟨_,_,rfl⟩
def Xof(L:List Tm)(t:Tm):XO (L++[t])=Z0 (XO L) t:=by unfold XO;rw[aL];rfl
def Xnx{A B:List Tm}(h:i<A.length):Zr (A.take (i+1)) B=Zr (A.take i) B++K6 (el A i) B:=by
 rw[XE h,EF];congr 1;simp[Zr]
def Xny{A B:List Tm}(k:Nat)(h:i<A.length):∃l,Zr A B=(Zr (A.take i) B++K6 (el A i) (B.take k))++l:=by
 refine⟨K6 (el A i) (B.drop k)++Zr (A.drop (i+1)) B,?_⟩;have e:A=A.take (i+1)++A.drop (i+1):=(bP _ _).symm;have a:K6 (el A i) B=K6 (el A i) (B.take k)++K6 (el A i) (B.drop k):=by
  rw[<-DB,bP]
 conv=>lhs;rw[e,EF,Xnx h,a]
 simp only[aX]
theorem Xoc{q q2:Option Addr}{g cap2:Nat}{a:List V0}{A B:List Tm}(hF:Fits F w)(hA:Qy F q n 2 (ps.flatMap VM))(z:Yy F ps)(hna:ps.length=n)(hTa:ZX ps=Vg A)(hB:Qy F q2 g 2 (a.flatMap VM))(K:Yy F a)(hnb:a.length=g)(hTb:ZX a=Vg B)
  (T:∀t∈A,t.2.length=N/\PW t.2/\JW t.1<=40000) (S:∀t∈B,t.2.length=N/\PW t.2/\JW t.1<=40000) (hw:∀t∈Zr A B,PW t.2) (hz:Yr (Zr A B)<=90000) (hl:n<=1000/\g<=1000) :
  QU prog 238 [.slice q n cap,.slice q2 g cap2] w F (λ(c:NQ)=>c.1.v) (λc F=>QED F c.1 c.2 (Vg (XO (Zr A B)))):=by
 have hLa:=OO hTa;have hLb:=OO hTb;have hpl:=qA A B;have hnn:A.length*B.length<=1000000:=aN (show A.length<=1000 by omega) (show B.length<=1000 by omega);refine QU.intro (G:=λF=>Qy F q n 2 (ps.flatMap VM)/\Yy F ps/\Qy F q2 g 2 (a.flatMap VM)/\Yy F a) func238 rfl tH rfl rfl hF (λF' x=>⟨hA.le x,z.le x,hB.le x,K.le x⟩)<|wa<|wZ rfl<|wa<|wZ rfl<|QG<|wa<|wZ rfl<|QV<|JU (ι:=MlO n) [(0,_),(1,_)] (λi=>[(5,i.c.1.v),(6,.int .i64 ((i.i:Nat):Int))]) (λi=>[]) (λi F=>QED F i.c.1 i.c.2 (Vg (XO (Zr (A.take i.i) B)))) (λi=>n-i.i) (⟨0,(⟨none,0,0⟩,[]),aE _⟩) wm wm we (λF _=>⟨Qy.nil F none 2,λ_ h=>(by cases h),rfl,ah _,rfl⟩) λi=>?_
 simp only[ae,ab];have hi:=i.le;refine wA 5 I<|QA (Qg I Zg)<|wD 3 I ?_
 refine QQ I (λhc=>?_) λhc=>?_
 ·have hlt:i.i<n:=tD<|wi hc
  have m:=Qw (show i.i<ps.length by omega);obtain⟨efa,P⟩:=vw hTa (show i.i<ps.length by omega);have hAm:=Qw (show i.i<A.length by omega);obtain⟨hal,hap,haz⟩:=T _ hAm;have V:=(z _ m).2.1;have Y:=(z _ m).1.cM;have hap2:=hap.2;refine wC 10 I<|JU (ι:=MlO g) [(0,_),(1,_),(6,_)] (λi2=>[(5,i2.c.1.v),(7,.int .i64 ((i2.i:Nat):Int))]) (λi2=>[]) (λi2 F=>QED F i2.c.1 i2.c.2 (Vg (XO (Zr (A.take i.i) B++K6 (el A i.i) (B.take i2.i))))) (λi2=>g-i2.i) (⟨0,i.c,aE _⟩) wu wm we (λF h=>by rw[bm,show K6 (el A i.i) []=[]from rfl,av];exact h.2) λi2=>?_
  simp only[ae,ab];have hi2:=i2.le;refine wA 5 I<|QA (Qg I Zg)<|wD 3 I ?_
  refine QQ I (λhc=>?_) λhc=>?_
  ·have X:i2.i<g:=tD<|wi hc
   have j:=Qw (show i2.i<a.length by omega);obtain⟨efb,M⟩:=vw hTb (show i2.i<a.length by omega);have hBm:=Qw (show i2.i<B.length by omega);obtain⟨hbl,hbp,hbz⟩:=S _ hBm;have hrb:=(K _ j).2.1;have hna3:(el ps i.i).k.length=N:=by rw[P];exact hal
   have hnb3:(el a i2.i).k.length=N:=by rw[M];exact hbl
   obtain⟨l9,e9⟩:=Xny (B:=B) i2.i (show i.i<A.length by omega);obtain⟨l8,e8⟩:=Xny (B:=B) (i2.i+1) (show i.i<A.length by omega);have hz9:Yr (Zr (A.take i.i) B++K6 (el A i.i) (B.take i2.i))<=90000:=by rw[e9,Zi]at hz;omega
   have hl9:(Zr (A.take i.i) B++K6 (el A i.i) (B.take i2.i)).length<=1000000:=by have h0:=hpl;rw[e9,aj]at h0;omega
   have hw9:PW (Wm (el A i.i).2 (el B i2.i).2):=hw ((el A i.i).1*(el B i2.i).1,Wm (el A i.i).2 (el B i2.i).2) (by rw[e8,Xnq O];simp);refine wC 6 I<|Gf (Q5 Q2) JK λb22=>wB 2 I<|QA (Q3 (n:=n) i.i (λF h9=>h9.1.1.1) rfl rfl Zg Xh O)<|QA (QH I Yh JM)<|QA (JA (n:=n) ((i.i)*2+1) (λF h9=>h9.1.1.1) O rfl JM (JN (f:=VM) (l:=ps) YR O rfl))<|Mf (ob:=[(b22,.cells ([]++[]:List Value).toArray 3 (0,0))]) (n:=0) (k:=(el ps i.i).r.n) (sz:=1) (news:=(el ps i.i).k.map Jo) rfl rfl Q2 JK R4 I F6 (.some rfl rfl (ah _) tF) (Src.gR Y (λF h9=>(h9.1.1.2.1 _ m).1) (by simp[V])) O O (CI _) λv28 Q C=>?_
   rw[aM,ab]at C;rw[av];refine wD 10 I<|JU (ι:=PmK (el ps i.i).r.n (el ps i.i).k (el a i2.i).k) [(0,_),(1,_),(5,_),(6,_),(7,_)] (λi3=>[(8,i3.v),(9,.int .i64 ((i3.k:Nat):Int))]) (λi3=>i3.ob) (λi3 F=>True) (λi3=>(el a i2.i).k.length-i3.k) (⟨0,(el ps i.i).k,v28,Q,aE _,C,by simp[Wm]⟩) wy wm we tL λi3=>?_
   simp only[ae,ab];have hk:=i3.le;refine wA 5 I ?_;obtain⟨q3,c3,hv3⟩:=i3.hr.Zw;refine QA (Qg (q:=q3) (n:=(el ps i.i).r.n) (c:=c3) (by show some i3.v=_;rw[hv3]) Q2)<|wD 3 I ?_
   refine QQ I (λhc=>?_) λhc=>?_
   ·obtain⟨k,L,v,ob,hk0,hr,hL⟩:=i3;dsimp only at hk hc ⊢;have s:k<(el a i2.i).k.length:=tD<|wi hc
    have E:k<(el ps i.i).k.length:=O;have hLn:L.length=(el ps i.i).k.length:=by rw[hL];unfold Wm;simp;omega
    have hb1:0<=Qm (el ps i.i).k k/\Qm (el ps i.i).k k<=1000000:=by rw[P];exact hap.el O
    have hb2:0<=Qm (el a i2.i).k k/\Qm (el a i2.i).k k<=1000000:=by rw[M];exact hbp.el O
    obtain⟨b,cap,rest,rfl,rfl,e1,e2,e3,e4⟩:=Q8.pos hr O;have hdL:Qm L k=Qm (el ps i.i).k k:=by rw[hL];exact IC E s
    refine wC 4 I<|Jq 16 we mixed tE tE ?_
    simp only[bS,bm,aV,ew];refine QK (QD I)<|QK (QD I)<|QK (QD I)<|QK (QD I)<|QK (JL (i:=k) rfl rfl Q2 JK O)<|QK (V1 (c:=(L).map Jo++rest) (T':=3) rfl JK .here (WR (by first | omega | (simp only[aU];omega))))<|QK (QD I)<|QK (QD I)<|QK (Q3 (n:=g) (i2.i) (λF h9=>h9.1.1.1.2.2.1) rfl rfl Zg Xh O)<|QK (QH I Yh JM)<|QK (JA (n:=g) ((i2.i)*2+1) (λF h9=>h9.1.1.1.2.2.1) O rfl JM (JN (f:=VM) (l:=a) YR O rfl))<|QK (QD I)<|QK (Q3 (n:=(el a (i2.i)).r.n) (k) (λF h9=>((h9.1.1.1.2.2.2 _ j)).1) rfl rfl Q2 JK O)<|QK (JA (n:=(el a (i2.i)).r.n) ((k)*1) (λF h9=>((h9.1.1.1.2.2.2 _ j)).1) O rfl JK (Jz (o:=(el a (i2.i)).k) O))<|QK (Qu I I O)<|QK (JL (i:=k) rfl rfl Q2 JK O)<|ZS<|QW (vs:=[_]) I I I JK I .here (BB (by first | omega | (simp only[aU];omega)) ((Qm (L) (k)+Qm (el a (i2.i)).k (k)))) wk<|QE<|Qj<|wE 3 I<|QA (Qu I I O)<|wX I ?_
    refine QE ?_;exact Ql (⟨k+1,_,_,_,s,Q8.some (by simpa using e1) (by simpa using e2) e3 e4,by rw[hL,IC E s];exact qu E s⟩) (by show(el a i2.i).k.length-(k+1)<(el a i2.i).k.length-k;omega) w6 we λF h=>⟨h.1,trivial⟩
   have Z:i3.k=(el a i2.i).k.length:=tD<|wj hc
   have hLe:i3.L=Wm (el ps i.i).k (el a i2.i).k:=by
    have h1:=i3.hL;rw[Z,aZ]at h1;rw[h1,ay O,List.drop_of_length_le O,av]
   have hLn:(Wm (el ps i.i).k (el a i2.i).k).length=(el ps i.i).r.n:=by rw[IB O];exact V
   refine Qx ?_
   repeat first|refine QY ?_|refine QO tH ?_
   refine QZ<|QC ?_
   obtain⟨r9,hv9,D,hrc,H⟩:=Q8.fix (w0:=w) (F0:=F) (bs1:=[]) (G:=_) i3.hr;refine jH H ?_;rw[hv9];dsimp only[Sr.v];refine JG we mixed tE<|QK (QD I)<|QK (QD I)<|QK (QD I)<|QK (Q3 (n:=n) i.i (λF h9=>h9.1.1.1.1.1) rfl rfl Zg Xh O)<|QK (QH I GM JF)<|QK (JA (n:=n) ((i.i)*2+0) (λF h9=>h9.1.1.1.1.1) O rfl JF (JN (f:=VM) (l:=ps) YR O rfl))<|QK (QD I)<|QK (QD I)<|QK (Q3 (n:=g) (i2.i) (λF h9=>h9.1.1.1.1.2.2.1) rfl rfl Zg Xh O)<|QK (QH I GM JF)<|QK (JA (n:=g) ((i2.i)*2+0) (λF h9=>h9.1.1.1.1.2.2.1) O rfl JF (JN (f:=VM) (l:=a) YR O rfl)) ?_
   rw[efa,efb];refine QR I (λ_ _ f k=>C3 f (af haz tF) (af hbz tF)) (λ_=>QK (QD I)<|QK (Q4 I BC KV (wV I I I)) ?_);refine QR I (λw F hF ⟨⟨⟨⟨⟨⟨hA,z,hB,K⟩,hC⟩,u⟩,_⟩,U⟩,_⟩=>QEj (y:=(el A i.i).1*(el B i2.i).1) (k:=Wm (el A i.i).2 (el B i2.i).2) hF u.1 u.2.1 u.2.2.2.2 u.2.2.2.1 (by rw[<-P,<-M,<-hLe];exact⟨by rw[D];exact U,by rw[D,hLe];exact hLn,by rw[D];exact hrc⟩) u.2.2.1 (λt ht=>af (QDO ht) O) (tD<|YN (el A i.i).1 (el B i2.i).1)
    (λt ht=>by
     obtain⟨y,hy,e⟩:=QDe ht;rw[<-e,IB O,hal];have R:y∈Zr A B:=by rw[e9];exact List.mem_append_left _ hy
     exact⟨Xob.Zr (λt ht=>(T t ht).1) (λt ht=>(S t ht).1) y R,hw y R⟩) hw9 (by rw[u.QJD];have:=QDi (Zr (A.take i.i) B++K6 (el A i.i) (B.take i2.i));omega)) λc65=>?_
   refine QK (QF I)<|Q7<|Qj<|wE 3 I<|QA (Qu I I O)<|wB 2 I ?_
   exact Ql (⟨i2.i+1,c65,X⟩) (by show g-(i2.i+1)<g-i2.i;omega) wy we λF h=>⟨h.1.1.1.1.1,by rw[Xnq O,<-aX,Xof];exact h.2⟩
  have hge2:i2.i=g:=tD<|wj hc
  refine Qx ?_
  repeat first|refine QY ?_|refine QO tH ?_
  refine QZ<|Qj<|wE 3 I<|QA (Qu I I O)<|wB 2 I ?_
  exact Ql (⟨i.i+1,i2.c,hlt⟩) (by show n-(i.i+1)<n-i.i;omega) wv we λF h=>⟨h.1.1,by rw[Xnx O];have h3:=h.2;rw[hge2,show B.take g=B from ay O]at h3;exact h3⟩
 have hge:i.i=n:=tD<|wj hc
 refine Qx ?_
 repeat first|refine QY ?_|refine QO tH ?_
 refine QZ<|wE 8 I ?_
 exact QP (i.c) rfl (wT I) (rfl) λF h9=>by have h:=h9.2;rwa [hge,show A.take n=A from ay O]at h
structure Xpu(rs:List (List Tm))(L:List Tm)(N:Nat):Prop where
 n:N=rs.length+1
 n1:N<=1000
 lp:L.length<=1000
 pw:∀t∈L,t.2.length=N/\PW t.2
 sz:∀t∈L,JW t.1<=39000
 dwx:∀v,v<=rs.length->∀t∈ZT v L,t.2.length=N/\PW t.2
 ds:∀v,v<=rs.length->Yr (ZT v L)<=39000
 dl:∀v,v<=rs.length->(XO (ZT v L)).length<=1000
 rt:∀k,k<rs.length->(el rs k).length<=1000/\∀t∈el rs k,t.2.length=N/\PW t.2/\JW t.1<=39000
 pm:∀k,k<rs.length->∀t∈Zr (XO (ZT (k+1) L)) (el rs k),t.2.length=N/\PW t.2
 pzx:∀k,k<rs.length->Yr (Zr (XO (ZT (k+1) L)) (el rs k))<=90000
 aw:∀k,k<=rs.length->(Ul rs L k).length<=9000/\∀t∈Ul rs L k,t.2.length=N/\PW t.2
 az:∀k,k<rs.length->Yr (Ul rs L k++XO (Zr (XO (ZT (k+1) L)) (el rs k)))<=90000
 al:∀k,k<rs.length->(XO (Zr (XO (ZT (k+1) L)) (el rs k))).length<=9000
def Xok(rs:List (List Tm))(L:List Tm):∀k,Canon (Ul rs L k)
 |0=>SF _
 |_+1=>SF _
def Xp3{rs:List (List Tm)}{L:List Tm}(h:XO (ZT (k+1) L)=[]):Ul rs L (k+1)=Ul rs L k:=by
 show XO (Ul rs L k++XO (Zr (XO (ZT (k+1) L)) (el rs k)))=_;rw[h];show XO (Ul rs L k++[])=_;rw[av,RN (Xok rs L k)]
theorem Xnm{l:List Tm}(h:∀t∈l,t.2.length=N/\PW t.2):∀t∈XO l,t.2.length=N/\PW t.2:=λt ht=>by
 obtain⟨y,hy,e⟩:=QDe ht;rw[<-e];exact h y hy
structure Xpn(F:Gs)(r:Sr)(rl:List NQ):Prop where
 row:Qy F r.q r.n 1 (rl.map λe=>e.1.v)
 pl:IT F rl
 len:rl.length=r.n
def Xpn.le{b:Gs}{r:Sr}{a:List NQ}(h:Xpn F r a)(k:Gs.le F b):Xpn b r a:=⟨h.row.le k,h.pl.le k,h.len⟩
structure Xq6(rl:List NQ):Prop where
 n:∀e∈rl,e.2.length=e.1.n
 t:∀e∈rl,ZX e.2=Vg (Xq (ZX e.2))
theorem Xp7{r:Sr}{m:List NQ}{L:List Tm}{rs:List (List Tm)}(T:Fits F w)(hr:Xpn F r m)(ht:Xq6 m)(he:rs=(m.map λe=>Xq (ZX e.2)))(z:Qy F a.1.q a.1.n 2 (a.2.flatMap VM))(C:Yy F a.2)(M:a.2.length=a.1.n)(S:ZX a.2=Vg L)(b:Xpu rs L N):QU prog 149 [r.v,a.1.v] w F (λ(d:NQ)=>d.1.v) (λd F=>QED F d.1 d.2 (Vg (Ul rs L rs.length))):=by
 have X:=hr.len;have Y:rs.length=m.length:=by rw[he,au]
 have hn:=b.n;have Z:=b.n1;have hLl:=OO S;have hlp:=b.lp;have D:∀k,k<m.length->el rs k=Xq (ZX (el m k).2):=λk hk=>by
  rw[he,Jb (by rw[au];exact hk),List.getElem_map,Jb hk]
 refine QU.intro (G:=λF=>Xpn F r m/\Qy F a.1.q a.1.n 2 (a.2.flatMap VM)/\Yy F a.2) func149 rfl tH rfl rfl T (λF' x=>⟨hr.le x,z.le x,C.le x⟩)<|wa<|wZ rfl<|wb rfl<|QI rfl (λ_ _ f k=>ki (N:=N) (v:=0) (L:=L) f k.2.1 k.2.2 M S O b.pw (λt ht=>af (b.sz t ht) tF) (b.dwx 0 O) (af (b.ds 0 O) tF) O) λc9=>wZ rfl<|QG<|wa<|wZ rfl<|QV<|JU (ι:=NoJ rs.length) [(0,_),(1,_)] (λi=>[(5,.slice i.c.1.q i.c.1.n i.c.1.cap),(6,.int .i64 ((i.i:Nat):Int))]) (λi=>[]) (λi F=>QED F i.c.1 i.c.2 (Vg (Ul rs L i.i))) (λi=>rs.length-i.i) (⟨0,c9,aE _⟩) wm wm we tO λi=>?_
 simp only[ae,ab];have hi:=i.le;refine wA 5 I<|QA (Qg I VJ)<|wD 3 I ?_
 refine QQ I (λj=>?_) λj=>?_
 ·have u:i.i<m.length:=tD<|wi j
  have g:i.i<rs.length:=O;have o:=Qw u;have Q:(el m i.i).1.n<=1000:=by
   have h1:=(b.rt _ g).1;rw[D _ u,show(Xq (ZX (el m i.i).2)).length=(ZX (el m i.i).2).length by simp[Xq],QDF,ht.n _ o]at h1;exact h1
  refine XV _ (λ_ _ f k=>k.2.QJD) (λR=>wC 8 I<|QA (Qu I I O) ?_);rw[show(((i.i:Nat):Int)+1)=((i.i+1:Nat):Int)from rfl];refine QI I (λ_ _ f k=>ki (N:=N) (v:=i.i+1) (L:=L) f k.1.1.2.1 k.1.1.2.2 M S O b.pw (λt ht=>af (b.sz t ht) tF) (b.dwx _ O) (af (b.ds _ O) tF) O) (λc19=>JQ _ (λ_ _ f k=>k.2.QJD) λK=>wD 6 I<|QA (Qg I Zg)<|wD 3 I ?_);refine QQ I (λj=>?_) λj=>?_
  ·refine wA 5 I<|QA (Q3 (n:=r.n) i.i (λF h9=>h9.1.1.1.1.row) rfl rfl VJ Vu O)<|QA (JA (n:=r.n) ((i.i)*1) (λF h9=>h9.1.1.1.1.row) O rfl Vu (XT (f:=λe:NQ=>e.1.v) (l:=m) O))<|QI I (λ_ _ f k=>Xoc (N:=N) (A:=XO (ZT (i.i+1) L)) (B:=el rs i.i) f k.2.1 k.2.2.1 k.2.2.2.2.2 k.2.2.2.1 (k.1.1.1.1.pl _ o).1 (k.1.1.1.1.pl _ o).2 (ht.n _ o) (by rw[D _ u];exact ht.t _ o) (λt h=>⟨(Xnm (b.dwx _ O) t h).1,(Xnm (b.dwx _ O) t h).2,by have h1:=QDO h;have h2:=b.ds (i.i+1) O;omega⟩) (λt h=>⟨((b.rt _ g).2 t h).1,((b.rt _ g).2 t h).2.1,af ((b.rt _ g).2 t h).2.2 tF⟩) (λt h=>(b.pm _ g t h).2) (b.pzx _ g) ⟨by rw[K];exact b.dl _ O,Q⟩) λc29=>JQ _ (λ_ _ f k=>k.2.QJD) λH=>?_
   refine QI I (λw F T ⟨⟨⟨⟨⟨hr,z,C⟩,h9⟩,y⟩,TL⟩,s⟩=>Xod (N:=N) (A:=Ul rs L i.i) (B:=XO (Zr (XO (ZT (i.i+1) L)) (el rs i.i))) T y.1 y.2.1 y.2.2.2.2 y.2.2.1 s.1 s.2.1 s.2.2.2.2 s.2.2.1 (λt h=>by
    rcases List.mem_append.1 h with h | h
    ·exact(b.aw _ O).2 t h
    exact Xnm (b.pm _ g) t h) (b.az _ g) ⟨by have h1:=(b.aw i.i O).1;rw[R];omega,by rw[H];have:=b.al _ g;omega⟩) λV=>?_
   refine wB 2 I<|Qj<|wE 3 I<|QA (Qu I I O)<|wB 2 I ?_
   exact Ql (⟨i.i+1,V,g⟩) (by show rs.length-(i.i+1)<rs.length-i.i;omega) wv we λF ⟨⟨⟨⟨⟨⟨hr,z,C⟩,h9⟩,y⟩,TL⟩,s⟩,U⟩=>⟨⟨⟨hr,z,C⟩,h9⟩,U⟩
  have E:XO (ZT (i.i+1) L)=[]:=by have:=wj j;exact bH O
  refine QN<|Qj<|wE 3 I<|QA (Qu I I O)<|wB 2 I ?_
  exact Ql (⟨i.i+1,i.c,g⟩) (by show rs.length-(i.i+1)<rs.length-i.i;omega) wv we λF ⟨⟨⟨⟨hr,z,C⟩,h9⟩,y⟩,TL⟩=>⟨⟨⟨hr,z,C⟩,h9⟩,(show QED F i.c.1 i.c.2 (Vg (Ul rs L (i.i+1))) by rw[Xp3 E];exact y)⟩
 have P:i.i=rs.length:=by have:=wj j;have:=i.le;omega
 refine Qx ?_
 repeat first|refine QY ?_|refine QO tH ?_
 refine QZ<|wE 8 I ?_
 exact QP (i.c) rfl (wT I) (rfl) λF h=>by have h1:=h.2;rw[P]at h1;exact h1
theorem Xpz{L:List Tm}(g:Fits F w)(hy:X4 F y)(ht:Xq6 y.rl)(f:Qy F a.1.q a.1.n 2 (a.2.flatMap VM))(h:Yy F a.2)(c:a.2.length=a.1.n)(j:ZX a.2=Vg L)(i:Xpu y.rs L N):QU prog 53 [y.v,a.1.v] w F (λ(d:NQ)=>d.1.v) (λd F=>QED F d.1 d.2 (Vg (Ul y.rs L y.rs.length))):=by
 refine QU.intro (G:=λF=>X4 F y/\Qy F a.1.q a.1.n 2 (a.2.flatMap VM)/\Yy F a.2) func53 rfl tH rfl rfl g (λF' b=>⟨hy.le b,f.le b,h.le b⟩)<|wa<|Qp rfl (vs:=[_,_,_]) rfl λb2=>wZ rfl<|wa<|QA (QH rfl VY Z6)<|QA (Qe rfl Z6 .here (.skip .h1))<|wW rfl<|QI rfl (λw F g ⟨hy,f,h⟩=>Xp7 (r:=y.rt) (rs:=y.rs) (a:=a) g ⟨hy.rt,hy.pl,hy.Ka⟩ ht rfl f h c j i) λk=>wZ rfl<|QX ?_
 exact QP (k) rfl (wT I) (rfl) tO
section
variable{P:Program}{l:List Oper}{Q:Exit->Act->World->Prop}{A r:List Nat}{N:Nat}{m:Sl}{w0:World}{F0:Gs}{bs bs0:List (Nat×Obj)}{G G0:Gs->Prop}{d:Nat}{ty:TypeId}{pos:String}{aft:Array Edge}
theorem Xpx(k:Nat){t e:TypeId}{n sz:Nat}{z:List Value}{g:Bool}{parts:Array (Nat×Operand)}{ps:List (Nat×Value)}{cs:List Value}(i:okB l A r k=true)(h:Bu P N l A=true)(f:yD l m A=true)(h0:bs0.Sublist bs)(s:∀F,G F->G0 F)
  (C:l[k]?=some ⟨some d,.buildSlice t n parts,ty,pos,aft,none⟩) (o:A.contains k=false) (u:A.all (λj=>!(eH d (dI l j)))=true) (hp:∀mX,GC (m++mX) parts.toList=some ps) (ht:P.underlying t=some (.slice e)) (B:Z5 P e=some (g,sz)) (hz:XI P e=some z)
  (hc:Kg sz 0 ps=some cs) (D:cs.length=n*sz) (hk:∀b,KT P l Q (St ⟨w0,F0,bs0,G0⟩) A (r.erase k) N ((d,.slice (some ⟨b,0,none⟩) n n)::m) w0 F0 ((b,.cells cs.toArray e (0,0))::bs) G) (x:Nat.ble (n*sz) 16777216=true:=by rfl) (hn:eH (n*sz) 0=false:=by rfl) (hu:Hi e=true:=by rfl) (hd:J5 N (some d)=true:=by rfl) :
  KT P l Q (St ⟨w0,F0,bs0,G0⟩) A r N m w0 F0 bs G:=by
 obtain⟨g1,M,L⟩:=WC h f;refine Cc (γ:=Nat) (new:=λb=>[(d,.slice (some ⟨b,0,none⟩) n n)]) (bs1:=λb=>(b,.cells cs.toArray e (0,0))::bs) (G1:=λ_=>G) k i g1 M L h0 s C rfl (by simpa using o) (λc j E=>?_) (λmX X K H=>Xnw (hp mX) ht B hz hc D (λb=>OI λa w ha y=>H b a w ha (y.perm List.perm_middle.symm)) x hn hu hd) hk;have:=List.all_eq_true.1 u j E;rw[Wb];simp only[aB]at this;rw[this];rfl
theorem Xpo(k:Nat){t e:TypeId}{sz bytes n k2:Nat}{z:List Value}{g:Bool}{X Y:Operand}{x y:Value}{olds news:List Value}{ob bs':List (Nat×Obj)}(D:okB l A r k=true)(i:Bu P N l A=true)(b:yD l m A=true)(h0:bs0.Sublist bs')(f:∀F,G F->G0 F)
  (Z:l[k]?=some ⟨some d,.call ⟨.builtin .append,#[X,Y],#[t,t]⟩,ty,pos,aft,none⟩) (E:A.contains k=false) (H:A.all (λj=>!(eH d (dI l j)))=true) (hx:∀mX,ev (m++mX) X=some x) (hy:∀mX,ev (m++mX) Y=some y) (ht:Gp P t=some e) (V:Z5 P e=some (g,sz)) (hz:XI P e=some z) (o:z.length=sz) (L:ZK P e=some bytes)
  (hr:Q8 e sz x n olds ob) (s:∀bs,Src ⟨w0,F0,bs,G⟩ sz y k2 news) (M:n+k2<=9223372036854775807) (R:(n+k2)*bytes<=140737488355328) (h1:∀v∈news,v.oneCell'=true)
  (hk:∀c:Sr,c.n=n+k2->n+k2<=c.cap->KT P l Q (St ⟨w0,F0,bs0,G0⟩) A (r.erase k) N ((d,c.v)::m) w0 F0 bs' λF=>G F/\Qy F c.q (n+k2) sz (olds++news)) (hu:Hi e=true:=by rfl) (hd:J5 N (some d)=true:=by rfl) :
  KT P l Q (St ⟨w0,F0,bs0,G0⟩) A r N m w0 F0 (ob++bs') G:=by
 obtain⟨g1,g2,g3⟩:=WC i b;refine Cc (γ:={c:Sr // c.n=n+k2/\n+k2<=c.cap}) (new:=λc=>[(d,c.1.v)]) (bs1:=λ_=>bs') (G1:=λc F=>G F/\Qy F c.1.q (n+k2) sz (olds++news)) k D g1 g2 g3 (h0.trans (bJ _ _)) f Z rfl (by simpa using E) (λc j hj=>?_) (λmX X K hK=>?_) λc=>hk c.1 c.2.1 c.2.2
 ·have:=List.all_eq_true.1 H j hj;rw[Wb];simp only[aB]at this;rw[this];rfl
 refine Y6 (bs':=ob++(X++bs')) (by rw[<-aX,<-aX];exact List.perm_append_comm.append_right _) ?_;refine Yz (hx mX) (hy mX) ht V hz o L hr (s _) M R h1 (h0.trans (bJ _ _)) f (λv' S C=>?_) hu hd;obtain⟨c,U,u,B,h⟩:=Q8.fix (w0:=w0) (F0:=F0) (bs1:=X++bs') (G:=G) C;subst U;exact OI λa w ha T=>hK ⟨c,u,B⟩ a w ha (h w (T.perm bc))
end
structure Xq7(y:Xz)(a:List V0)(tb:List Wl):Prop where
 ev:∃Z D T S,jT Z D T S a ((((0:Int):Rat),((0:Int):Rat))::y.vs)/\∀b∈tb,jT Z D T S a ((Qz b.e,Qz b.e)::lV b.ll)
 z0:Xf (yB y (ZX a)) 100000
 zs:∀b∈tb,Xf (J3 ((Qz b.e,Qz b.e)::lV b.ll) (Xq (ZX a))) 100000
structure Xqc(tb:List Wl)(p:Wl->Bool) where
 i:Nat
 le:i<=tb.length
 ok:∀j,j<i->p (el tb j)=true
theorem Xpy{p:Wl->Bool}(i:Xqc tb p)(h:tb.length<=i.i):tb.all p=true:=by
 rw[ax];intro b hb;obtain⟨j,a,rfl⟩:=aH hb;rw[<-Jb a];exact i.ok j O
def Xp6{p:Wl->Bool}(h:i<tb.length)(k:p (el tb i)=false):tb.all p=false:=by
 cases e:tb.all p with
 |false=>rfl
 |true=>rw[List.all_eq_true.1 e _ (Qw h)]at k;cases k
theorem Xo6{q:Option Addr}{rb:Sr}(h:Fits F w)(f:Qy F q n 2 (ps.flatMap VM))(g:Yy F ps)(a:ps.length=n)(c:QxR F rb bs)(b:jT Z D T S ps bs)(hb:n<=1000000/\rb.n<=1000000):
  Qf prog 136 [.slice q n cap,rb.v] w F (kh (J3 bs (Xq (ZX ps)))):=by rw[<-Mo];exact ux h f g a c b hb
theorem Xom(a:Fits F w):Qf prog 61 [tx [48]] w F (.agg #[tx (JP (((0:Int):Rat))),tx (JP (((0:Int):Rat)))]):=by
 have h:=VC (s:=[48]) a
 rwa [show eM #[tx [48],tx [48]]=eM #[tx (JP (((0:Int):Rat))),tx (JP (((0:Int):Rat)))] by rw[show([48]:List UInt8)=JP (((0:Int):Rat)) by decide +kernel]]at h
theorem Xp5{r:Sr}(hF:Fits F w)(hy:X4 F y)(B:QxR F y.st y.vs)(hR:Qy F a.1.q a.1.n 2 (a.2.flatMap VM))(hA:Yy F a.2)(P:a.2.length=a.1.n)(hx:IF F r tb)(u:∀b∈tb,b.e=JP (Qz b.e)/\QxR F b.l (lV b.ll))(hn:a.1.n<=1000/\y.st.n<=1000/\∀b∈tb,b.l.n<=1000)(hrn:r.n<=1000000)(Q:Xq7 y a.2 tb):Qf prog 54 [y.v,a.1.v,r.v] w F (.bool (tb.all (pB (yB y (ZX a.2)) (Xq (ZX a.2))))):=by
 have hxr:=hx.len;have R:=B.len;obtain⟨Z,D,T,S,N,M⟩:=Q.ev;have K:=Q.z0;refine QU.intro (G:=λF=>X4 F y/\QxR F y.st y.vs/\Qy F a.1.q a.1.n 2 (a.2.flatMap VM)/\Yy F a.2/\IF F r tb/\∀b∈tb,QxR F b.l (lV b.ll)) func54 rfl tH rfl rfl hF (λF' o=>⟨hy.le o,B.le o,hR.le o,hA.le o,hx.le o,λb hb=>(u b hb).2.le o⟩)<|wa<|Qp rfl (vs:=[_,_,_]) rfl λb3=>wZ rfl<|QG<|Kr (r:=[0,1,2,3,4,5,6,7,8]) tR mixed tE rfl<|Jr 0 tE rfl rfl<|QK (QD rfl)<|JC<|Jr 3 tE rfl rfl<|QK (QH rfl YM J0)<|JC<|Jr 4 tE rfl rfl<|QK (Qe rfl J0 .here (.skip (.skip .h1)))<|JC<|Kq (A:=[7]) (r:=[1,2,5,6,8]) tE<|XQ 1 tE tE tH tR tM rfl rfl rfl (λ_=>rfl) (λ_ _ f k=>Xom f) λ_=>Xpx 2 tE tE tH tR tN rfl rfl rfl (λ_=>rfl) (Q5 XF) Jd Xa rfl rfl λb12=>Xpo 5 tE tE tH tR tN rfl rfl rfl (n:=1) (k2:=y.st.n) (sz:=2) (bytes:=32) (olds:=[(((0:Int):Rat),((0:Int):Rat))].flatMap LP) (news:=y.vs.flatMap LP) (ob:=[_]) (λ_=>rfl) (λ_=>rfl) XF Jd Xa rfl QAH (.some (l:=[(((0:Int):Rat),((0:Int):Rat))].flatMap LP) (rest:=[]) rfl rfl (ah _) tF) (λ_=>Src.gR B.row.cM (λF h9=>h9.1.2.1.row) (by rw[QCn,B.len])) O O (ui _) λc15 H m15=>XQ 6 tE tE tH tR (λ_ h=>h.1.1) rfl rfl rfl (λ_=>rfl) (λ_ _ f k=>Xo6 (Z:=Z) (D:=D) (T:=T) (S:=S) (ps:=a.2) (rb:=c15) f k.1.1.2.2.1 k.1.1.2.2.2.1 P ⟨by rw[H];exact k.2,by rw[ao,R,H,eI]⟩ N ⟨O,by rw[H];omega⟩) λ_=>VH 7 (d:=7) (T:=40) tE tE tH tR (λ_ h=>h.1.1.1) tE tE Xa λb7=>Zv (vs:=[_,_]) 8 tE tE tH (.cons _ tR) (λ_ h=>h.1.1.1) rfl rfl (λ_=>rfl) (λ_=>rfl) rfl Jd I .here tR .h2 wm ?_
 refine WL ?_ tE;refine wE 4 I<|wZ rfl<|QV<|JU (ι:=Xqc tb (pB (yB y (ZX a.2)) (Xq (ZX a.2)))) [(1,_),(2,_),(7,_)] (λi=>[(8,.int .i64 ((i.i:Nat):Int))]) (λi=>(b7,.cells [tx (JP (yB y (ZX a.2)).1),tx (JP (yB y (ZX a.2)).2)].toArray 40 (0,0))::(b3,.cells #[.slice y.nm.q y.nm.n y.nm.cap,.slice y.rt.q y.rt.n y.rt.cap,.slice y.st.q y.st.n y.st.cap] 38 (0,0))::[]) (λi F=>True) (λi=>tb.length-i.i) (⟨0,aE _,λj h=>by cases h⟩) wu wk we tL λi=>?_
 simp only[ae,ab];have hi:=i.le;refine wA 5 I<|QA (Qg I EC)<|wD 3 I ?_
 refine QQ I (λm=>?_) λm=>?_
 ·have C:i.i<tb.length:=tD<|wi m
  have c:=Qw C;have X:=(u _ c).1;have V:=(u _ c).2.len;have hbn:=hn.2.2 _ c;refine wC 5 I<|Kr (r:=[0,1,2,3,4,5,6,7,8,9,10,11,12,13,14,15,16]) tS mixed tE rfl<|Jr 0 tE rfl rfl<|QK (QD I)<|JC<|Jr 1 tE rfl rfl<|QK (QD I)<|JC<|Jr 2 tE rfl rfl<|QK (QD I)<|JC<|Jr 3 tE rfl rfl<|QK (Q3 (n:=r.n) i.i (λF h9=>h9.1.1.1.1.2.2.2.2.1.row) rfl rfl EC X8 O)<|JC<|Jr 4 tE rfl rfl<|QK (QH I Ec JF)<|JC<|Jr 5 tE rfl rfl<|QK (JA (n:=r.n) ((i.i)*3+0) (λF h9=>h9.1.1.1.1.2.2.2.2.1.row) O rfl JF (JN (f:=uI) (l:=tb) Cb O rfl))<|JC<|Jr 8 tE rfl rfl ?_
  refine QK (QD I)<|JC<|Jr 9 tE rfl rfl<|QK (QD I)<|JC<|Jr 10 tE rfl rfl<|QK (Q3 (n:=r.n) i.i (λF h9=>h9.1.1.1.1.2.2.2.2.1.row) rfl rfl EC X8 O)<|JC<|Jr 11 tE rfl rfl<|QK (QH I N6 J0)<|JC<|Jr 12 tE rfl rfl<|QK (JA (n:=r.n) ((i.i)*3+2) (λF h9=>h9.1.1.1.1.2.2.2.2.1.row) O rfl J0 (JN (f:=uI) (l:=tb) Cb O rfl))<|JC<|Kq (A:=[15]) (r:=[6,7,13,14,16]) tE ?_
  rw[X];refine XQ 6 tE tE tH tS tM rfl rfl rfl (λ_=>rfl) (λ_ _ f k=>VC f) (λ_=>Xpx 7 tE tE tH tS tN rfl rfl rfl (λ_=>rfl) (Q5 XF) Jd Xa I I λb30=>Xpo 13 tE tE tH tS tN rfl rfl rfl (n:=1) (k2:=(el tb i.i).l.n) (sz:=2) (bytes:=32) (olds:=[((Qz (el tb i.i).e),(Qz (el tb i.i).e))].flatMap LP) (news:=(lV (el tb i.i).ll).flatMap LP) (ob:=[_]) (λ_=>rfl) (λ_=>rfl) XF Jd Xa I QAH (.some (l:=[((Qz (el tb i.i).e),(Qz (el tb i.i).e))].flatMap LP) (rest:=[]) I I (ah _) tF) (λ_=>Src.gR (u _ c).2.row.cM (λF h9=>(h9.1.1.1.1.1.2.2.2.2.2 _ c).row) (by rw[QCn,(u _ c).2.len])) O O (ui _) λY E m36=>XQ 14 tE tE tH tS (λ_ h=>h.1.1) rfl rfl rfl (λ_=>rfl) (λ_ _ f k=>Xo6 (Z:=Z) (D:=D) (T:=T) (S:=S) (ps:=a.2) (rb:=Y) (bs:=((Qz (el tb i.i).e),(Qz (el tb i.i).e))::lV (el tb i.i).ll) f k.1.1.1.1.1.1.2.2.1 k.1.1.1.1.1.1.2.2.2.1 P ⟨by rw[E];exact k.2,by rw[ao,V,E,eI]⟩ (M _ c) ⟨O,by rw[E];omega⟩) λ_=>VH 15 (d:=9) (T:=40) tE tE tH tS (λ_ h=>h.1.1.1) tE tE Xa λb9=>Zv (vs:=[_,_]) 16 tE tE tH (.cons _ tS) (λ_ h=>h.1.1.1) rfl rfl (λ_=>rfl) (λ_=>rfl) rfl Jd I .here tS .h2 wm ?_);refine WL ?_ tE;refine QC<|wa<|QA (QH I We JF)<|QA (Qe I JF .u1 (.skip .h1))<|QA (QH I V6 JF)<|QA (Qe I JF .here .h1)<|QI I (λ_ _ f k=>QBB (x:=(yB y (ZX a.2)).2) (y:=(J3 (((Qz (el tb i.i).e),(Qz (el tb i.i).e))::lV (el tb i.i).ll) (Xq (ZX a.2))).1) f K.2 (Q.zs _ c).1) λ_=>wB 2 I ?_
  refine Qn (t:=44) rfl (λz=>?_) λz=>?_
  ·have s:(pB (yB y (ZX a.2)) (Xq (ZX a.2))) (el tb i.i)=false:=by unfold pB;rw[z];rfl
   refine wD 9 I<|SG I<|wA 6 I ?_
   repeat first|refine Q6 ?_|refine Qv ?_
   exact wg I I (by rw[Xp6 C s]<;>rfl) tL
  have L:=z;refine QL I I<|QA (QH I We JF)<|QL I I<|QA (Qe I JF .here (.skip .h1))<|QL I I<|QA (QH I V6 JF)<|QL I I<|QA (Qe I JF .u1 .h1)<|QL I I<|QI I (λ_ _ f k=>QBB (x:=(J3 (((Qz (el tb i.i).e),(Qz (el tb i.i).e))::lV (el tb i.i).ll) (Xq (ZX a.2))).2) (y:=(yB y (ZX a.2)).1) f (Q.zs _ c).2 K.1) λ_=>wD 5 I ?_
  refine QQ I (λm=>?_) λm=>?_
  ·have s:(pB (yB y (ZX a.2)) (Xq (ZX a.2))) (el tb i.i)=false:=by unfold pB;rw[L,show decide (Yw (J3 (((Qz (el tb i.i).e),(Qz (el tb i.i).e))::lV (el tb i.i).ll) (Xq (ZX a.2))).2 (yB y (ZX a.2)).1<0)=true from m];rfl
   refine wA 6 I ?_
   repeat first|refine Q6 ?_|refine Qv ?_
   exact wg I I (by rw[Xp6 C s]<;>rfl) tL
  have s:(pB (yB y (ZX a.2)) (Xq (ZX a.2))) (el tb i.i)=true:=by unfold pB;rw[L,show decide (Yw (J3 (((Qz (el tb i.i).e),(Qz (el tb i.i).e))::lV (el tb i.i).ll) (Xq (ZX a.2))).2 (yB y (ZX a.2)).1<0)=false from m];rfl
  refine QN<|Qj<|wE 3 I<|QA (Qu I I O)<|wB 2 I ?_
  exact Ql (⟨i.i+1,C,λj hj=>by
     rcases bD j i.i with g | g
     ·exact i.ok j g
     rw[show j=i.i by omega];exact s⟩) (by show tb.length-(i.i+1)<tb.length-i.i;omega) wv (.cons _ we) λF h=>⟨h.1.1.1.1.1.1,trivial⟩
 have U:tb.length<=i.i:=tD<|wj m
 refine Qx ?_
 repeat first|refine QY ?_|refine QO tH ?_
 refine QZ<|wE 7 I ?_
 exact wg I I (by rw[Xpy i U]<;>rfl) tL
structure Pzx(F b T N K:Nat)(l:List Tm):Prop where
 len:l.length<=T
 t:∀u∈l,Cl F 1 b u.1/\(u.2.length=N/\∀k∈u.2,0<=k/\k<=(K:Int))
theorem Pzx.mono{F a b' T' K':Nat}{l:List Tm}(h:Pzx F b T N K l)(h0:0<a)(hd:F ∣ a)(hb:b<=b')(c:T<=T')(f:K<=K'):Pzx a b' T' N K' l :=
 ⟨af h.len c,λu hu=>⟨(h.t u hu).1.dvd h0 hd hb,(h.t u hu).2.1,λk hk=>⟨((h.t u hu).2.2 k hk).1,tD<|((h.t u hu).2.2 k hk).2⟩⟩⟩
theorem Pzx.norm{F:Nat}{l:List Tm}(h0:0<F)(h:Pzx F b T N K l):Pzx F (b+T) T N K (XO l) :=
 ⟨af (QDb l) h.len,λu hu=>by
  have h1:=QDc (Pw:=λp=>p.length=N/\∀k∈p,0<=k/\k<=(K:Int)) h0 h.t u hu;exact⟨h1.1.mono h0 (ah _) (tD h.len),h1.2⟩⟩
def Pzx.app{F:Nat}{p q:List Tm}(h:Pzx F b T N K p)(k:Pzx F b S N K q):Pzx F b (T+S) N K (p++q) :=
 ⟨by rw[aj];exact Nat.add_le_add h.len k.len,λu hu=>by
  rcases List.mem_append.1 hu with hu | hu
  ·exact h.t u hu
  exact k.t u hu⟩
def Xq5{n:Int}(h:n.natAbs<=2^c):Cl 1 1 c (n:Rat):=⟨n,by rw[aJ];exact(Rat.ext (L5 n).1.symm (L5 n).2.symm),by simpa using h⟩
theorem Pzx.der{F v:Nat}{l:List Tm}(h:Pzx F b T N K l)(f:v<N)(g:K<=2^c):Pzx F (b+c) T N K (ZT v l) :=
 ⟨af (QAE v l) h.len,λu hu=>by
  obtain⟨t,ht,hd,rfl⟩:=QFS hu;obtain⟨h1,h2,h3⟩:=h.t t ht;have a:Qm t.2 v∈t.2:=by rw[YW O];exact Qw O
  have hb:=h3 _ a;refine⟨?_,by show(t.2.set v _).length=N;rw[aU];exact h2,λk hk=>?_⟩
  ·have:=h1.cQ (Xq5 (n:=Qm t.2 v) (c:=c) O)
   rwa [Nat.mul_one]at this
  rcases List.mem_or_eq_of_mem_set hk with hk | rfl
  ·exact h3 k hk
  omega⟩
theorem Pzx.prod{F e L:Nat}{p q:List Tm}(h:Pzx F b T N K p)(k:Pzx E e S N L q):Pzx (F*E) (b+e) (T*S) N (K+L) (Zr p q) :=
 ⟨by rw[qA];exact aN h.len k.len,λu hu=>by
  obtain⟨s,j,hu⟩:=List.mem_flatMap.1 hu;obtain⟨t,ht,rfl⟩:=List.mem_map.1 hu;obtain⟨h1,h2,h3⟩:=h.t s j;obtain⟨g,k2,f⟩:=k.t t ht;refine⟨h1.cQ g,by show(Wm s.2 t.2).length=N;rw[IB O];exact h2,λx hx=>?_⟩;have c:x∈List.zipWith (·+·) s.2 t.2:=hx;obtain⟨i,hi,rfl⟩:=aH c;rw[List.getElem_zipWith];rw[List.length_zipWith]at hi;have a:=h3 _ (ba (show i<s.2.length by omega));have b:=f _ (ba (show i<t.2.length by omega));omega⟩
def Pzx.sz{F:Nat}{l:List Tm}(h0:0<F)(h:Pzx F b T N K l){u:Tm}(hu:u∈l):JW u.1<=b+sz (F:Int)+2:=by
 have:=(h.t u hu).1.JW h0;omega
def Xnz{z:Nat}:∀ {l:List Tm},(∀u∈l,JW u.1<=z)->Yr l<=l.length*(z+1)
 |[],_=>by simp[Yr]
 |x::l,h=>by
  have h1:=Xnz (z:=z) (l:=l) λu hu=>h u (aS _ hu);have h2:=h x tJ;show((x::l).map λt=>JW t.1+1).sum<=_;rw[eD,eB,ao,bR];have h3:(l.map λt=>JW t.1+1).sum<=l.length*(z+1):=h1;omega
def Pzx.Yr{F:Nat}{l:List Tm}(h0:0<F)(h:Pzx F b T N K l):YtjcphjpkimmmjaaGreatDoor.Yr l<=T*(b+YtjcphjpkimmmjaaGreatDoor.sz (F:Int)+3) :=
 af (Xnz λu hu=>h.sz h0 hu) (aN h.len (ah _))
theorem Pzx.pw{F:Nat}{l:List Tm}(h:Pzx F b T N K l)(a:N<=1000)(c:K<=1000000){u:Tm}(hu:u∈l):u.2.length=N/\PW u.2 :=
 ⟨(h.t u hu).2.1,λk hk=>tD<|(h.t u hu).2.2 k hk,by rw[(h.t u hu).2.1];exact a⟩
def Xps(r:Rat):sz r.num<=JW r:=by unfold JW;omega
def Xpv{l:List Tm}{c:List Rat}(a:l.length<=T)(h:∀u∈l,JW u.1<=20/\u.2.length=N/\∀k∈u.2,0<=k/\k<=12)(hc:∀u∈l,u.1∈c):Pzx (Sw c) 20 T N 12 l :=
 ⟨a,λu hu=>⟨Cl.of _ (Mw _) (xX (hc u hu)) (by have:=Xps u.1;have:=(h u hu).1;omega),(h u hu).2⟩⟩
def Xpp(a b:Nat):sz ((a*b:Nat):Int)<=sz (a:Int)+sz (b:Int):=by rw[bj];exact K8 _ _
theorem Xpm{b:Nat}{rs:List (List Tm)}{p:List Tm}(h0:0<b)(h1:0<E)(hn:N=rs.length+1)(hp:Pzx b 20 4 N 12 p)(hr:∀k,k<rs.length->Pzx E 20 4 N 12 (el rs k))(hm:rs.length<=3):
  ∀k,k<=rs.length->Pzx (b*E) (28+128*k) (4+16*k) N 24 (Ul rs p k)
 |0,_=>(((hp.der (v:=0) (c:=4) O tF).norm h0).mono (aY h0 h1) (bZ _ _) O O O)
 |k+1,hk=>by
  have ih:=Xpm h0 h1 hn hp hr hm k O;have a:=aY h0 h1;have hq:=(((((hp.der (v:=k+1) (c:=4) O tF).norm h0).prod (hr k O)).norm a));have f:=ih.mono (b':=64+128*k) (T':=4+16*k) (K':=24) a (bF _) O (ah _) (ah _);have g:=hq.mono (b':=64+128*k) (T':=16) (K':=24) a (bF _) O O O;exact((f.app g).norm a).mono a (bF _) O O (ah _)
theorem Xq0{a:Nat}{rs:List (List Tm)}{p:List Tm}(h0:0<a)(hn:N=rs.length+1)(hp:Pzx a 20 4 N 12 p)(hr:∀k,k<rs.length->Pzx E 20 4 N 12 (el rs k)){k:Nat}(hk:k<rs.length):Pzx (a*E) 48 16 N 24 (Zr (XO (ZT (k+1) p)) (el rs k)) :=
 ((hp.der (v:=k+1) (c:=4) O tF).norm h0).prod (hr k hk)
def QDL{p:Pt}(h:∀x∈p,Jp x.1=0):p=Vg (Xq p):=by
 unfold Vg Xq;rw[bN]
 conv=>lhs;rw[<-eK p]
 refine List.map_congr_left λx hx=>?_;show x=(JP (Qz x.1),x.2);rw[<-(XM (h x hx)).1]
theorem Xpr{p:Pt}{n:Nat}(h:fpB p (n:Int) 4 3 6=true):ke 20 3 4 (n+1) (Xq p)/\(∀x∈p,Jp x.1=0):=by
 unfold fpB at h;split at h
 ·cases h
 rename_i hg;rw[aB,bX]at h;have h4:Zh p (n:Int)=0:=by
  rcases bY (Zh p (n:Int)=0)with g | g
  ·exact g
  exact absurd (Or.inr g) hg
 have hl:p.length<=4:=by
  rcases bD 4 p.length with g | g
  ·exact absurd (Or.inl tK) hg
  exact g
 have hT:=H4 h4;have key:∀u∈Xq p,∃x∈p,u=(Qz x.1,x.2):=λu hu=>by
  obtain⟨x,hx,rfl⟩:=List.mem_map.1 hu;exact⟨x,hx,rfl⟩
 have h3:∀x∈p,_:=λx hx=>by
  have h3:=h x hx;rw[ee,ai,aD,decide_eq_false_iff_not]at h3;exact h3
 have h5:∀x∈p,x.2.length=n+1/\∀k∈x.2,0<=k/\k<=12:=λx hx=>by
  have h5:=Wv (hT.term x hx);exact⟨tD h5.1,h5.2.1⟩
 refine⟨⟨by simp[Xq];exact hl,λu hu=>?_,λu hu=>?_,λu hu=>?_,λu hu=>?_⟩,λx hx=>(Wv (hT.term x hx)).2.2.2⟩
 ·obtain⟨x,hx,rfl⟩:=key u hu;exact QGh (h3 x hx).2 tF
 ·obtain⟨x,hx,rfl⟩:=key u hu;have h6:=QEa x.2 (n+1) (λk hk=>((h5 x hx).2 k hk).1) (h5 x hx).1;show Zz x.2 (n+1)<=3;have:=(h3 x hx).1;omega
 ·obtain⟨x,hx,rfl⟩:=key u hu;exact(h5 x hx).1
 obtain⟨x,hx,rfl⟩:=key u hu;exact(h5 x hx).2
section
variable{rs:List (List Tm)}{p:List Tm}{m:Nat}(hs:SmS 20 4 3 m rs)(hm:m<=3)(hp:ke 20 3 4 (m+1) p)
include hs hm hp
omit hs hm in
theorem Xpt:Pzx (Sw (p.map (·.1))) 20 4 (m+1) 12 p:=Xpv hp.len (λu hu=>⟨hp.N4 u hu,hp.pl u hu,hp.pw u hu⟩) λu hu=>aC hu
omit hm hp in
theorem Xp9(hk:k<rs.length):Pzx (Sw (Xar rs)) 20 4 (m+1) 12 (el rs k) :=
 Xpv (hs.len _ (Qw hk)) (λu hu=>⟨(hs.N4 _ (Qw hk) u hu).1,(hs.N4 _ (Qw hk) u hu).2.2.1,(hs.N4 _ (Qw hk) u hu).2.2.2⟩) λu hu=>List.mem_flatMap.2 ⟨_,Qw hk,aC hu⟩
omit hs hm in
theorem Xp8:sz ((Sw (p.map (·.1)):Nat):Int)<=81:=by
 have h:=QCu (k:=20) (l:=p.map (·.1)) λr hr=>by
  obtain⟨u,hu,rfl⟩:=List.mem_map.1 hr;exact hp.N4 u hu
 have:=hp.len
 rw[au]at h;omega
omit hp in
theorem Xq8:sz ((Sw (Xar rs):Nat):Int)<=241:=by
 have h:=QCu (k:=20) (l:=Xar rs) λr hr=>by
  obtain⟨q,hq,hr⟩:=List.mem_flatMap.1 hr
  obtain⟨u,hu,rfl⟩:=List.mem_map.1 hr
  exact(hs.N4 q hq u hu).1
 have h1:=Xb1 hs.len
 have:=hs.hn
 omega
theorem Xq9:sz ((Sw (p.map (·.1))*Sw (Xar rs):Nat):Int)<=322:=by
 have h:=Xpp (Sw (p.map (·.1))) (Sw (Xar rs));have h1:=Xp8 hp;have h2:=Xq8 hs hm;omega
theorem Xog(hk:k<=rs.length):Pzx (Sw (p.map (·.1))*Sw (Xar rs)) 412 52 (m+1) 24 (Ul rs p k):=by
 have hn:=hs.hn;have h0:=Mw (p.map (·.1));have h1:=Mw (Xar rs);exact(Xpm h0 h1 O (Xpt hp) (λk hk=>Xp9 hs hk) O k hk).mono (aY h0 h1) (bF _) O O (ah _)
theorem Xo1(hk:k<rs.length):Pzx (Sw (p.map (·.1))*Sw (Xar rs)) 48 16 (m+1) 24 (Zr (XO (ZT (k+1) p)) (el rs k)):=by
 have hn:=hs.hn;exact Xq0 (Mw _) O (Xpt hp) (λk hk=>Xp9 hs hk) hk
theorem Xq4(hk:k<rs.length):Yr (Ul rs p k++XO (Zr (XO (ZT (k+1) p)) (el rs k)))<=60000:=by
 have h0:=aY (Mw (p.map (·.1))) (Mw (Xar rs));have h1:=(Xog hs hm hp (show k<=rs.length by omega)).Yr h0;have h2:=((Xo1 hs hm hp hk).norm h0).Yr h0;have h3:=Xq9 hs hm hp;rw[Zi];have h4:52*(412+sz ((Sw (p.map (·.1))*Sw (Xar rs):Nat):Int)+3)<=52*737:=aI _ O;have h5:16*(48+16+sz ((Sw (p.map (·.1))*Sw (Xar rs):Nat):Int)+3)<=16*389:=aI _ O;omega
theorem Xo2{v:Nat}(a:v<=rs.length):Pzx (Sw (p.map (·.1))) 24 4 (m+1) 12 (ZT v p):=by
 have hn:=hs.hn;exact(Xpt hp).der (c:=4) O tF
theorem Xq3{v:Nat}(a:v<=rs.length):Yr (ZT v p)<=1000:=by
 have h1:=(Xo2 hs hm hp a).Yr (Mw _);have h2:=Xp8 hp;have:4*(24+sz ((Sw (p.map (·.1)):Nat):Int)+3)<=4*108:=aI _ O;omega
theorem Xq2(hk:k<rs.length):Yr (Zr (XO (ZT (k+1) p)) (el rs k))<=10000:=by
 have h0:=aY (Mw (p.map (·.1))) (Mw (Xar rs));have h2:=(Xo1 hs hm hp hk).Yr h0;have h3:=Xq9 hs hm hp;have h5:16*(48+sz ((Sw (p.map (·.1))*Sw (Xar rs):Nat):Int)+3)<=16*373:=aI _ O;omega
theorem Xpw:Xpu rs p (m+1):=by
 have hn:=hs.hn;exact { n:=O,n1:=O,lp:=tD hp.len,pw:=λt ht=>(Xpt hp).pw O tF ht,sz:=λt ht=>tD<|hp.N4 t ht,dwx:=λv a t ht=>(Xo2 hs hm hp a).pw O tF ht,ds:=λv a=>af (Xq3 hs hm hp a) tF,dl:=λv a=>af (QDb _) (af (Xo2 hs hm hp a).len tF),rt:=λk hk=>⟨af (Xp9 hs hk).len tF,λt ht=>⟨((Xp9 hs hk).pw O tF ht).1,((Xp9 hs hk).pw O tF ht).2,tD<|(hs.N4 _ (Qw hk) t ht).1⟩⟩,pm:=λk hk t ht=>(Xo1 hs hm hp hk).pw O tF ht,pzx:=λk hk=>af (Xq2 hs hm hp hk) tF,aw:=λk hk=>⟨af (Xog hs hm hp hk).len tF,λt ht=>(Xog hs hm hp hk).pw O tF ht⟩,az:=λk hk=>af (Xq4 hs hm hp hk) tF,al:=λk hk=>af (QDb _) (af (Xo1 hs hm hp hk).len tF) }
theorem Xqb:Cf rs p (m+1):=by
  have hr:=Xpw hs hm hp;have hn:=hs.hn;have c:∀v,v<=rs.length->Yr (XO (ZT v p))<=1000:=λv b=>by
    have h1:=((Xo2 hs hm hp b).norm (Mw _)).Yr (Mw _);have h2:=Xp8 hp;have:4*(24+4+sz ((Sw (p.map (·.1)):Nat):Int)+3)<=4*112:=aI _ O;omega
  exact { n:=hr.n,n1:=hr.n1,lp:=tD hr.lp,pw:=λt ht=>⟨(hr.pw t ht).2,(hr.pw t ht).1⟩,sp:=λt ht=>tD<|hr.sz t ht,der:=λv b=>tD<|hr.ds v b,mul:=λk hk=>{ wp:=λt ht=>(Xnm (hr.dwx _ O) t ht).1,wq:=λt ht=>((hr.rt k hk).2 t ht).1,lp:=af (hr.dl _ O) tF,lq:=af (hr.rt k hk).1 tF,pp:=λt ht=>(Xnm (hr.dwx _ O) t ht).2,pq:=λt ht=>((hr.rt k hk).2 t ht).2.1,pm:=λs a t ht=>(hr.pm k hk (s.1*t.1,Wm s.2 t.2) (List.mem_flatMap.2 ⟨s,a,List.mem_map.2 ⟨t,ht,rfl⟩⟩)).2,zp:=af (c _ O) tF,zq:=by have h1:=Xnz (z:=20) (l:=el rs k) λu hu=>(hs.N4 _ (Qw hk) u hu).1;have h2:=hs.len _ (Qw hk);have:(el rs k).length*21<=4*21:=aT _ h2;omega,zm:=af (hr.pzx k hk) tF },add:=λk hk=>{ pp:=λt ht=>((hr.aw k O).2 t ht).2,pq:=λt ht=>(Xnm (hr.pm k hk) t ht).2,lp:=af (hr.aw k O).1 tF,lq:=af (hr.al k hk) tF,zs:=af (hr.az k hk) tF } }
end
theorem Xqa(h:SmY y m)(hm:m<=3)(A:y.nm.n=m)(j:ShB m y.vs)(hp:ke 20 3 4 (m+1) (Xq (ZX a.2)))(C:∀x∈ZX a.2,Jp x.1=0)(D:Xdo tb=true)(z:QHw m tb):QH4 y (ZX a.2) tb/\Xq7 y a.2 tb:=by
 have w:=Xh1 D z;have o:∀(t:Rat) (x:List XP),JW t<=160->ShB m x->∀q∈(t,t)::x,Xf q 160:=λt x ht hx q hq=>by
  rcases List.mem_cons.1 hq with rfl | hq
  ·exact⟨ht,ht⟩
  exact hx.sz q hq
 have h0:JW ((0:Int):Rat)<=160:=af uc tF;have g:∀b∈tb,JW (Qz b.e)<=160/\ShB m (lV b.ll):=λb hb=>by
  obtain⟨i,hi,rfl⟩:=aH hb;rw[<-Jb hi];have h1:=w _ (Qw hi);exact⟨af (OU (k:=14) (z.e _ hi) tF h1.2.2) tF,QGG h1.2.1 (z.l _ hi)⟩
 have c:∀(t:Rat) (x:List XP),JW t<=160->ShB m x->OL ((t,t)::x) (Xq (ZX a.2))/\Xf (J3 ((t,t)::x) (Xq (ZX a.2))) 10000/\jT 20 3 4 160 a.2 ((t,t)::x):=λt x ht hx=>by
  have B:((t,t)::x).length=m+1:=by rw[ao,hx.len]
  refine⟨Bn hp B O (o t x ht hx) tF tF tF tF,(Wf hp B (o t x ht hx)).mono tF,⟨by rw[B,Mo];exact hp,λu hu=>C (u.f,u.k) (aC (f:=λt:V0=>(t.f,t.k)) hu),o t x ht hx,tF,tF,tF⟩⟩
 refine⟨{ al:=by rw[A];exact Xqb h.s hm hp,e0:=(c _ _ h0 j).1,z0:=(c _ _ h0 j).2.1.mono tF,ev:=λb hb=>(c _ _ (g b hb).1 (g b hb).2).1,zs:=λb hb=>(c _ _ (g b hb).1 (g b hb).2).2.1.mono tF },
  { ev:=⟨20,3,4,160,(c _ _ h0 j).2.2,λb hb=>(c _ _ (g b hb).1 (g b hb).2).2.2⟩,z0:=(c _ _ h0 j).2.1.mono tF,zs:=λb hb=>(c _ _ (g b hb).1 (g b hb).2).2.1.mono tF }⟩
def Xo5(h:Xnn a=true):a.1.n<=70/\∀t∈a.2,t.r.n<=30/\t.f.length<=30:=by
 unfold Xnn at h;rw[aq,ax,decide_eq_true_eq]at h;refine⟨O,λt ht=>?_⟩;have h1:=h.1 t ht;unfold shT at h1;rw[aB,ai,decide_eq_false_iff_not,decide_eq_false_iff_not]at h1;omega
def kpG(y:Xz)(a:NQ)(tb:List Wl):Bool:=Ff y 3||!(Xdo tb)||!(Xnn a)||((BL (y.rt.n:Int)==0)&&(Zh (ZX a.2) (y.rt.n:Int)==0)&&!(fpB (ZX a.2) (y.rt.n:Int) 4 3 6))
section
variable{P:Program}{N:Nat}{m:Sl}{S:World->Prop}{ty:TypeId}
def Xpq{T yT:TypeId}{x y:Operand}{a:Bool}(b:vg P T=true)(hx:ev m x=some (.bool a))(hy:ev m y=some (.bool a)):Qt P N m S (.binOp .eql T x y yT) ty (.bool true):=by
 have:=QHV (P:=P) (N:=N) (S:=S) (ty:=ty) (T:=T) (yT:=yT) b hx hy;rw[show(a==a)=true from by simp]at this;exact this
end
def Xq1(h:y.e=0->y.rt.n=y.nm.n/\y.nm.n<=24):NY y (ZX a.2) tb=if y.e=0 then Qs [Zh (ZX a.2) (y.rt.n:Int),Dz y.rt.n tb]else y.e:=by
 unfold NY;by_cases g:y.e=0
 ·rw[if_pos g,g,Zn,(h g).1];unfold Hc;rw[if_pos ((Bs _).2 (tD<|(h g).2))]
 rw[if_neg g,Zf g]
theorem Xp4(h:∀s∈y.sl,Xd s.1 s.2=0){F:Gs}(hy:X4 F y):QxR F y.st y.vs:=Ks.q (r:=y.st) (l:=y.sl) ⟨hy.st,hy.P0⟩ h
theorem Xpa{r:Sr}(hF:Fits F w)(hGl:JE F)(hy:X4 F y)(hl:vG y)(hR:Qy F a.1.q a.1.n 2 (a.2.flatMap VM))(hA:Yy F a.2)(han:a.2.length=a.1.n)(hab:a.1.n<=9223372036854775807)(hak:∀t∈a.2,t.k.length=t.r.n)(hx:IF F r tb)(hn:r.n<=9223372036854775807)(hz:∀b∈tb,(b.w.n<=9223372036854775807/\b.l.n<=9223372036854775807)/\b.wl.length=b.w.n/\b.ll.length=b.l.n):Qf prog 7 [y.v,a.1.v,r.v] w F (.bool true):=by
 have hyo:=hy.ok;have hsl:=hy.P0;have hrl:=hy.Ka;have hx1:=hx.len;have hfk:(!Xnn a)=false->∀t∈a.2,t.f.length<=9223372036854775807/\t.k.length<=9223372036854775807:=λh t ht=>by
  have h1:=(Xo5 (by simpa using h)).2 t ht;have h2:=hak t ht;omega
 refine QU.intro (G:=λF=>JE F/\X4 F y/\Qy F a.1.q a.1.n 2 (a.2.flatMap VM)/\Yy F a.2/\IF F r tb) func7 rfl tH rfl rfl hF (λF' hF'=>⟨hGl.le hF',hy.le hF',hR.le hF',hA.le hF',hx.le hF'⟩)<|wa<|Qp rfl (vs:=[_,_,_]) rfl λb3=>wZ rfl<|wa<|QA (QH rfl VY Z6)<|QA (Qe rfl Z6 .here (.skip .h1))<|QA (Qg rfl VJ)<|wZ rfl<|QG ?_
 refine ZZ [(1,_),(2,_),(3,_),(7,_)] [(42,.bool ((kpG y a tb)))] wv ?_ ?_
 ·refine QB<|QA (wO I J6 .here)<|QI I (λ_ _ f k=>QFF (y:=y) f k.1 k.2.1 hl) λ_=>wW I ?_
  refine Qn (t:=16) rfl (λhb16=>?_) λhb16=>?_
  ·refine wB 14 I<|Jn I I<|Jn I I<|Jn I I<|Jn I I<|wB 2 I<|Jn I I<|Jn I I<|Jn I I<|Jn I I<|wB 1 I ?_
   refine wB 2 I ?_;exact JY ⟨rfl,rfl,rfl,rfl,(congrArg (λb=>some (aa b)) (by unfold kpG;rw[hb16];rfl)),trivial⟩ we tN
  refine wB 3 I<|QI I (λ_ _ f k=>Xgm f k.1.2.2.2.2 hn λb hb=>(hz b hb).1) λ_=>QL I I<|QA (XL I)<|wB 2 I ?_
  refine Qn (t:=21) rfl (λhb21=>?_) λhb21=>?_
  ·refine wB 9 I<|Jn I I<|Jn I I<|Jn I I<|Jn I I<|wB 2 I<|Jn I I<|Jn I I<|Jn I I<|Jn I I<|wB 3 I ?_
   exact JY ⟨rfl,rfl,rfl,rfl,(congrArg (λb=>some (aa b)) (by unfold kpG;rw[hb16,hb21];rfl)),trivial⟩ we λ_ h=>h.1.1
  refine wB 3 I<|QI I (λ_ _ f k=>Xoo (a:=a) f k.1.1.2.2.1 han hab) λ_=>QL I I<|QA (XL I)<|wB 2 I ?_
  refine Qn (t:=26) rfl (λhb26=>?_) λhb26=>?_
  ·refine wB 4 I<|Jn I I<|Jn I I<|Jn I I<|Jn I I<|wB 2 I<|Jn I I<|Jn I I<|Jn I I<|Jn I I<|wB 3 I ?_
   exact JY ⟨rfl,rfl,rfl,rfl,(congrArg (λb=>some (aa b)) (by unfold kpG;rw[hb16,hb21,hb26];rfl)),trivial⟩ we λ_ h=>h.1.1.1
  have hsP8:=hb26;refine wB 3 I<|QI I (λ_ _ f k=>Xo0 f) λ_=>wB 4 I ?_
  refine Qn (t:=30) rfl (λhb30=>?_) λhb30=>?_
  ·have hv24:=(Bs _).1 (eq_of_beq hb30);refine wB 5 I<|QI I (λw F hF ⟨⟨⟨⟨⟨hGl,hy,hR,hA,hx⟩,_⟩,_⟩,_⟩,_⟩=>Iw hF hGl hR hA han (hfk hb26) O hv24) λ_=>wB 6 I ?_
   refine Qn (t:=36) rfl (λhb36=>?_) λhb36=>?_
   ·refine wB 5 I<|QI I (λw F hF ⟨⟨⟨⟨⟨⟨hGl,hy,hR,hA,hx⟩,_⟩,_⟩,_⟩,_⟩,_⟩=>uw hF hGl hR hA han (hfk hb26) O hv24 ⟨tF,tF⟩) λ_=>QL I I<|QA (XL I)<|wB 4 I ?_
    exact JY ⟨rfl,rfl,rfl,rfl,(congrArg (λb=>some (aa b)) (by unfold kpG;rw[hb16,hb21,hb26,hb30,hb36];rfl)),trivial⟩ we λ_ h=>h.1.1.1.1.1.1
   refine wB 8 I ?_;exact JY ⟨rfl,rfl,rfl,rfl,(congrArg (λb=>some (aa b)) (by unfold kpG;rw[hb16,hb21,hb26,hb30,hb36];rfl)),trivial⟩ we λ_ h=>h.1.1.1.1.1
  refine wB 16 I ?_;exact JY ⟨rfl,rfl,rfl,rfl,(congrArg (λb=>some (aa b)) (by unfold kpG;rw[hb16,hb21,hb26,hb30];rfl)),trivial⟩ we λ_ h=>h.1.1.1.1
 simp only[ae,ab];refine QQ I (λhc2=>?_) λhc2=>?_
 ·refine wa<|QI I (λ_ _ f k=>CX f k.1) λ_=>wD 4 I ?_
  exact wg I I (rfl) tL
 have hnot:Ff y 3=false/\Xdo tb=true/\Xnn a=true/\((BL (y.rt.n:Int))=0->(Zh (ZX a.2) (y.rt.n:Int))=0->(fpB (ZX a.2) (y.rt.n:Int) 4 3 6)=true):=by
  unfold kpG at hc2;simp only[ai,aD,aP,beq_eq_false_iff_ne]at hc2;refine⟨hc2.1.1.1,hc2.1.1.2,hc2.1.2,λh1 h2=>?_⟩;rcases hc2.2 with (h | h) | h
  ·exact absurd h1 h
  ·exact absurd h2 h
  exact h
 obtain⟨hg1,hsT,hsP,hfp⟩:=hnot;have ht:GJ y:=hl.ts (yQ hg1).1;have hcT:QCR r tb:=Xh2 hx1 (λb hb=>(hz b hb).2) hsT;have hsp:=Xo5 hsP;have hta:Up a:=⟨han,λt ht=>by have h1:=hsp.2 t ht;have h2:=hak t ht;omega,O⟩;have hke:=Xq1 (y:=y) (a:=a) (tb:=tb) λh=>⟨(hyo h).rn,(hyo h).n1⟩;have hall:(NY y (ZX a.2) tb)=0->y.e=0/\(SmY y y.rl.length/\y.rl.length<=3)/\y.nm.n=y.rl.length/\ke 20 3 4 (y.rl.length+1) (Xq (ZX a.2))/\(∀x∈ZX a.2,Jp x.1=0)/\ShB y.rl.length y.vs/\QHw y.rl.length tb:=λh0=>by
  have hye:y.e=0:=by
   by_cases g:y.e=0
   ·exact g
   rw[hke,if_neg g]at h0;exact absurd h0 g
  rw[hke,if_pos hye]at h0;have hte:(Zh (ZX a.2) (y.rt.n:Int))=0:=Q9 h0 _ (.head _);have hto:Dz y.rt.n tb=0:=Q9 h0 _ (.tail _ (.head _));have ho:=hyo hye;have hn1:=ho.n1;have hrn:=ho.rn;have hsn:=ho.sn;have hsm:=QGg hl hrl ho (yQ hg1).1 ((yQ hg1).2 hye);have hf:=hfp ((Bs _).2 O) hte;rw[<-hrl]at hf hto;have hpc:=Xpr hf;exact⟨hye,⟨hsm.1,tD hsm.2⟩,O,hpc.1,hpc.2,Xfk (yQ hg1).1 ho O,gA hto⟩
 have hkr:(NY y (ZX a.2) tb)=0->QH4 y (ZX a.2) tb/\Xq7 y a.2 tb:=λh0=>by
  obtain⟨hye,hsm,hnm,hpc,hck,hts,hto⟩:=hall h0;exact Xqa hsm.1 hsm.2 hnm hts hpc hck hsT hto
 have hkpo:=λh0=>(hkr h0).1;refine wC 4 I<|QA (wO I J6 .here)<|wB 2 I<|QI I (λw F hF ⟨hGl,hy,hR,hA,hx⟩=>pC (y:=y) (a:=a) (r:=r) (tb:=tb) hF hGl hy ht hR hA hta hx hcT hkpo) λ_=>wD 9 I<|QA (wO I J6 .here)<|QI I (λ_ _ f k=>QA3 (y:=y) f k.1.1 k.1.2.1 ht) λ_=>wD 3 I ?_
 refine ZZ [(1,_),(2,_),(3,_),(8,_),(9,_)] [(10,.int .i64 ((NY y (ZX a.2) tb)))] wy ?_ ?_
 ·refine wA 6 I ?_;refine QQ I (λhc2=>?_) λhc2=>?_
  ·have h54:y.e=0:=eq_of_beq hc2;have hv24:0<=(y.rt.n:Int)/\(y.rt.n:Int)<=24:=by have h1:=(hyo h54).rn;have h2:=(hyo h54).n1;omega
   refine wA 3 I<|QI I (λ_ _ f k=>Iw f k.1.1.1 k.1.1.2.2.1 k.1.1.2.2.2.1 han (hfk (by rw[hsP];rfl)) O hv24) λ_=>wB 2 I<|QI I (λ_ _ f k=>Xfn (n:=y.rt.n) f k.1.1.1.2.2.2.2 hcT) λ_=>Qb I (Q5 Q2) JK R4 I I λb61=>QI I (λ_ _ f k=>QDh (l:=[(Zh (ZX a.2) (y.rt.n:Int)),Dz y.rt.n tb]) f (Qy.of (n:=2) (sz:=1) (cs:=([(Zh (ZX a.2) (y.rt.n:Int)),Dz y.rt.n tb]:List Int).map Jo) k.2 I) tF) λ_=>wB 2 I ?_
   exact JY ⟨rfl,rfl,rfl,rfl,rfl,(congrArg (λz=>some (ak .i64 z)) (by rw[hke,if_pos h54])),trivial⟩ we λ_ h=>h.1.1.1.1
  have h54:y.e≠0:=by simpa using hc2
  refine QN ?_;exact JY ⟨rfl,rfl,rfl,rfl,rfl,(congrArg (λz=>some (ak .i64 z)) (by rw[hke,if_neg h54])),trivial⟩ we tM
 simp only[ae,ab];refine ZZ [(1,_),(2,_),(3,_),(8,_),(9,_)] [(10,.int .i64 ((cY y (ZX a.2) tb).2))] wy ?_ ?_
 ·refine wA 5 I ?_;refine Qn (t:=65) rfl (λhb65=>?_) λhb65=>?_
  ·have h65:(NY y (ZX a.2) tb)=0:=eq_of_beq hb65;obtain⟨hye,hsm,hnm,hpc,hck,hts,hto⟩:=hall h65;have hrl8:Xpu y.rs (Xq (ZX a.2)) (y.rl.length+1):=Xpw hsm.1.s O hpc;have htx:ZX a.2=Vg (Xq (ZX a.2)):=QDL hck;have htr:Xq6 y.rl:=⟨λe he=>(hsm.1.pl e he).1,λe he=>QDL λx hx=>by
    obtain⟨t,ht,rfl⟩:=List.mem_map.1 hx;exact(hsm.1.pl e he).2.2 t ht⟩
   refine QL I I<|QA (wO I J6 .here)<|wB 3 I<|QI I (λw F hF ⟨⟨⟨hGl,hy,hR,hA,hx⟩,_⟩,_⟩=>Xpz (y:=y) (a:=a) (L:=Xq (ZX a.2)) (N:=y.rl.length+1) hF hy htr hR hA han htx hrl8) λc68=>JQ _ (λ_ _ f k=>k.2.QJD) λn68=>QL I I<|QA (Qg I Zg)<|wD 5 I ?_
   refine QQ I (λhc2=>?_) λhc2=>?_
   ·have hkI:pA y (ZX a.2)=false:=decide_eq_false (λe=>by rw[e]at n68;have h1:c68.1.n≠0:=(by simpa using hc2);exact h1 n68);refine wA 3 I ?_;exact JY ⟨rfl,rfl,rfl,rfl,rfl,(congrArg (λz=>some (ak .i64 z)) (by rw[QFG h65 hkI])),trivial⟩ we tN
   have hkI:pA y (ZX a.2)=true:=decide_eq_true (by have h1:(c68.1.n:Int)=0:=(by simpa using hc2);exact bH O)
   refine QN ?_;exact JY ⟨rfl,rfl,rfl,rfl,rfl,(congrArg (λz=>some (ak .i64 z)) (by rw[yC h65 hkI,h65])),trivial⟩ we tN
  have h65:(NY y (ZX a.2) tb)≠0:=by simpa using hb65
  refine wD 8 I<|Yj I<|QN ?_
  exact JY ⟨rfl,rfl,rfl,rfl,rfl,(congrArg (λz=>some (ak .i64 z)) (by rw[cX h65 rfl])),trivial⟩ we tM
 simp only[ae,ab];refine wA 7 I ?_;refine QQ I (λhc2=>?_) λhc2=>?_
 ·have h73:(cY y (ZX a.2) tb).2≠0:=bne_iff_ne.1 hc2;have hk1:(cY y (ZX a.2) tb).1=false:=by
   unfold cY at h73 ⊢;split
   ·rfl
   rename_i g;rw[if_neg g]at h73;split
   ·rename_i g2;rw[if_pos g2]at h73;exact absurd rfl h73
   rfl
  refine wA 3 I ?_;rw[hk1];refine QA (XL (b:=false) rfl)<|wB 6 I<|QA (QT (v:=.bool true) rfl rfl (eqI8 _))<|wB 3 I<|QI I (λ_ _ f k=>CX f k.1.1.1) λ_=>wD 5 I ?_
  exact wg I I (rfl) tL
 have h73:(cY y (ZX a.2) tb).2=0:=bne_eq_false_iff_eq.1 hc2;have h65:(NY y (ZX a.2) tb)=0:=by
  by_cases g:(NY y (ZX a.2) tb)=0
  ·exact g
  rw[cX g rfl]at h73;exact absurd h73 g
 have hk1:(cY y (ZX a.2) tb).1=(tb.all (pB (yB y (ZX a.2)) (Xq (ZX a.2)))):=by
  cases g:pA y (ZX a.2)with
  |true=>rw[yC h65 g]
  |false=>rw[QFG h65 g]at h73;cases h73
 obtain⟨hye,hsm,hnm,hpc,hck,hts,hto⟩:=hall h65;have hrk:=(hkr h65).2;have hys:=(hyo hye).st;have hsn:=(hyo hye).sn;have hbq:∀b∈tb,∀F:Gs,IF F r tb->b.e=JP (Qz b.e)/\QxR F b.l (lV b.ll):=λb hb F hx=>by
  obtain⟨i,hi,rfl⟩:=aH hb;rw[<-Jb hi];exact⟨(XM (hto.e _ hi)).1,(hx.bx _ (Qw hi)).2.q (XZ (hto.l _ hi)).2⟩
 have hnn:a.1.n<=1000/\y.st.n<=1000/\∀b∈tb,b.l.n<=1000:=⟨O,O,λb hb=>by
  obtain⟨i,hi,rfl⟩:=aH hb;rw[<-Jb hi];have h1:=(XZ (hto.l _ hi)).1;have h2:=(hz _ (Qw hi)).2.2;omega⟩
 have hrt:=hcT.n;refine wC 5 I ?_;rw[h73];refine QA (QT (v:=.bool true) rfl rfl (rfl))<|wB 4 I<|QA (wO I J6 .here)<|wB 5 I<|QI I (λw F hF ⟨⟨⟨hGl,hy,hR,hA,hx⟩,_⟩,_⟩=>Xp5 (y:=y) (a:=a) (r:=r) (tb:=tb) hF hy (Xp4 hys hy) hR hA han hx (λb hb=>hbq b hb F hx) hnn O hrk) λ_=>QL I I ?_
 rw[hk1];refine QA (Xpq (a:=(tb.all (pB (yB y (ZX a.2)) (Xq (ZX a.2))))) tE rfl rfl)<|wB 3 I<|QI I (λ_ _ f k=>CX f k.1.1.1.1) λ_=>wD 5 I ?_
 exact wg I I (rfl) tL
end Go.Proofs.YtjcphjpkimmmjaaGreatDoor
